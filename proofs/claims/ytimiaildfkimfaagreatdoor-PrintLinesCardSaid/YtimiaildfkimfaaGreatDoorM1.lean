/- Part 1 of a proof: Num to Sb. -/
import Derived.Below
import Derived.Laws.OwnMore
import Derived.Deep.AppendLies
import Derived.Deep.Draws
import Derived.Laws.Rows
import Derived.Lib.Hide
import Derived.Maps.AppendAt
import Derived.Laws.MakeOwn
import Derived.OwnWalk
import Derived.OrdersHeld
import Derived.Great.BuildSlice
import Derived.Laws.CopyRow
import Derived.IntWalk
import Derived.WalkSpells
set_option maxRecDepth 100000
set_option linter.unusedVariables false
set_option linter.unusedSimpArgs false
namespace Go.Proofs.YtimiaildfkimfaaGreatDoor
theorem cP (a:Bool):(!true)=false/\(!false)=true/\(a || true)=true/\(true || a)=true/\(false || a)=a/\(a || false)=a/\(false=true)=False/\(a&&true)=a/\(true&&a)=a/\(false&&a)=false/\(a&&false)=false/\(!!a)=a:=by cases a <;> simp
theorem cQ {α:Sort _} [h:Decidable True] [h2:Decidable False] (a b:α):ite True a b=a/\ite False a b=b:=⟨if_pos trivial,if_neg id⟩
theorem Kz {a b:Nat}(h:Nat.ble a b=true):a<=b:=Nat.le_of_ble_eq_true h
theorem cJ {α:Type _}{a b:List α}:(a++b).length=a.length+b.length:=List.length_append
theorem fV {α:Type _}{l:List α}{i:Nat}(h:i<l.length):l[i]? =some l[i]:=List.getElem?_eq_getElem h
theorem dP {α β:Type _}{l:List α}(f:α->β):(l.map f).length=l.length:=List.length_map f
theorem cT {α:Type _}{l:List α}{i:Nat}(h:l.length<=i):l.take i=l:=List.take_of_length_le h
theorem aX (n:Nat):n<=n:=Nat.le_refl n
theorem RH {α:Type _}{a b:α}{l:List α}:a∈b::l↔a=b\/a∈l:=List.mem_cons
theorem dU {α:Type _}{i:Nat}{l:List α}:(l.take i).length=min i l.length:=List.length_take
def vl (B:Nat):List Nat->Nat
 | []=>0
 | d::l=>d+B*vl B l
def Lim (B:Nat) (l:List Nat):Prop:=∀d∈l,d<B
def trim:List Nat->List Nat
 | []=>[]
 | d::l=>if trim l=[]/\d=0 then []else d::trim l
def Gs (B:Nat):Nat->Nat->List Nat
 | 0,_=>[]
 | f+1,n=>if n=0 then []else n%B::Gs B f (n/B)
def dg (B n:Nat):List Nat:=Gs B n n
theorem Lim.nil {B:Nat}:Lim B []:=fun _ h=>by cases h
theorem Lim.cons {B d:Nat}{l:List Nat}(h:d<B) (hl:Lim B l):Lim B (d::l):=fun x hx=>by
 cases hx with
 | head=>exact h
 | tail _ hx=>exact hl x hx
theorem Lim.head {B d:Nat}{l:List Nat}(h:Lim B (d::l)):d<B:=h d (List.mem_cons_self ..)
theorem Lim.tail {B d:Nat}{l:List Nat}(h:Lim B (d::l)):Lim B l:=fun x hx=>h x (List.mem_cons_of_mem _ hx)
theorem Lim.append {B:Nat}{a b:List Nat}(ha:Lim B a) (hb:Lim B b):Lim B (a++b):=fun x hx=>by
 rcases List.mem_append.1 hx with h | h
 ·exact ha x h
 exact hb x h
theorem Lim.take {B:Nat}{a:List Nat}(h:Lim B a) (k:Nat):Lim B (a.take k):=fun x hx=>h x (List.mem_of_mem_take hx)
theorem Lim.drop {B:Nat}{a:List Nat}(h:Lim B a) (k:Nat):Lim B (a.drop k):=fun x hx=>h x (List.mem_of_mem_drop hx)
theorem Lim.get {B:Nat}{a:List Nat}(h:Lim B a) (k:Nat) (hk:k<a.length):a[k]<B:=h _ (List.getElem_mem hk)
theorem Lim.getD {B:Nat}{a:List Nat}(h:Lim B a) (hB:0<B) (k:Nat):a.getD k 0<B:=by
 rw[List.getD_eq_getElem?_getD]
 by_cases hk:k<a.length
 ·rw[fV hk];exact h.get k hk
 rw[List.getElem?_eq_none (by omega)];exact hB
theorem Lim.replicate {B:Nat}(hB:0<B) (n:Nat):Lim B (List.replicate n 0):=fun x hx=>by
 rw[(List.mem_replicate.1 hx).2];exact hB
theorem RI (B:Nat):vl B []=0:=rfl
theorem iF (B d:Nat) (l:List Nat):vl B (d::l)=d+B*vl B l:=rfl
theorem xN (B d:Nat):vl B [d]=d:=by simp[vl]
theorem Bg (B:Nat) (a b:List Nat):vl B (a++b)=vl B a+B^a.length*vl B b:=by
 induction a with
 | nil=>simp[vl]
 | cons d a ih=>
  simp only[List.cons_append,vl,ih,List.length_cons,Nat.pow_succ]
  grind
theorem oF (B:Nat) (a:List Nat) (d:Nat):vl B (a++[d])=vl B a+B^a.length*d:=by rw[Bg,xN]
theorem Bh (B n:Nat):vl B (List.replicate n 0)=0:=by
 induction n with
 | zero=>rfl
 | succ n ih=>simp[List.replicate_succ,vl,ih]
theorem fY {B:Nat}{l:List Nat}(h:Lim B l):vl B l<B^l.length:=by
 induction l with
 | nil=>simp[vl]
 | cons d l ih=>
  have h1:=ih h.tail
  have h2:=h.head
  simp only[vl,List.length_cons,Nat.pow_succ]
  have:B*(vl B l+1)<=B*B^l.length:=Nat.mul_le_mul_left _ h1
  rw[Nat.mul_comm (B^l.length)]
  rw[Nat.mul_add]at this
  omega
theorem Of (B:Nat) (l:List Nat) (k:Nat) (h:k<l.length):vl B (l.take (k+1))=vl B (l.take k)+B^k*l[k]:=by
 rw[List.take_succ_eq_append_getElem h,oF,dU,Nat.min_eq_left (by omega)]
theorem Mx (B:Nat) (l:List Nat) (k:Nat):vl B (l.take (k+1))=vl B (l.take k)+B^k*l.getD k 0:=by
 by_cases h:k<l.length
 ·rw[Of B l k h,List.getD_eq_getElem?_getD,fV h];rfl
 rw[cT (by omega),cT (by omega),List.getD_eq_getElem?_getD,List.getElem?_eq_none (by omega)];simp
theorem zB (B:Nat) (l:List Nat) (k:Nat) (h:k<=l.length):vl B l=vl B (l.take k)+B^k*vl B (l.drop k):=by
 conv=>lhs;rw[<-List.take_append_drop k l]
 rw[Bg,dU,Nat.min_eq_left h]
theorem FF:trim []=[]:=rfl
theorem fJ (d:Nat) (l:List Nat):trim (d::l)=if trim l=[]/\d=0 then []else d::trim l:=rfl
theorem eF (B:Nat) (l:List Nat):vl B (trim l)=vl B l:=by
 induction l with
 | nil=>rfl
 | cons d l ih=>
  rw[fJ]
  split
  ·rename_i h;rw[iF,<-ih,h.1,h.2];simp[vl]
  rw[iF,iF,ih]
theorem xO (l:List Nat):trim (l++[0])=trim l:=by
 induction l with
 | nil=>simp[trim]
 | cons d l ih=>simp only[List.cons_append,fJ,ih]
theorem AA {d:Nat}(l:List Nat) (h:d≠0):trim (l++[d])=l++[d]:=by
 induction l with
 | nil=>simp[trim,h]
 | cons e l ih=>
  rw[List.cons_append,fJ,ih,if_neg]
  simp
theorem dH (l:List Nat):(trim l).length<=l.length:=by
 induction l with
 | nil=>simp[trim]
 | cons d l ih=>
  rw[fJ]
  split
  ·simp
  simp only[List.length_cons];omega
theorem xC (l:List Nat):l.take (trim l).length=trim l:=by
 induction l with
 | nil=>rfl
 | cons d l ih=>
  rw[fJ]
  split
  ·simp
  simp[ih]
theorem sX (l:List Nat):trim (trim l)=trim l:=by
 induction l with
 | nil=>rfl
 | cons d l ih=>
  rw[fJ]
  split
  ·rfl
  rename_i h;rw[fJ,ih,if_neg h]
theorem Lim.trim {B:Nat}{l:List Nat}(h:Lim B l):Lim B (trim l):=by rw[<-xC];exact h.take _
theorem wA {l:List Nat}(h:trim l=l) (hn:l≠[]):l.getLast hn≠0:=by
 intro h0
 have:l=l.dropLast++[0]:=by rw[<-h0];exact(List.dropLast_concat_getLast hn).symm
 rw[this,xO]at h
 have:=dH l.dropLast
 rw[h]at this
 simp at this
 omega
theorem lJ (B:Nat) (hB:0<B) (l:List Nat):trim l=[]↔vl B l=0:=by
 constructor
 ·intro h;rw[<-eF,h];rfl
 induction l with
 | nil=>intro;rfl
 | cons d l ih=>
  intro h
  rw[iF]at h
  have h2:vl B l=0:=by
   rcases Nat.eq_zero_or_pos (vl B l)with h0 | h0
   ·exact h0
   have:=Nat.mul_pos hB h0;omega
  rw[fJ,if_pos ⟨ih h2,by omega⟩]
theorem Xg (B:Nat) (hB:2<=B):∀f g n,n<=f->n<=g->Gs B f n=Gs B g n:=by
 intro f
 induction f with
 | zero=>
  intro g n hf _
  have:n=0:=by omega
  subst this
  cases g <;> simp[Gs]
 | succ f ih=>
  intro g n hf hg
  cases g with
  | zero=>
   have:n=0:=by omega
   subst this
   simp[Gs]
  | succ g=>
   simp only[Gs]
   split
   ·rfl
   have:n/B<n:=Nat.div_lt_self (by omega) (by omega)
   rw[ih g (n/B) (by omega) (by omega)]
theorem kI (B:Nat):dg B 0=[]:=rfl
theorem qN {B n:Nat}(hB:2<=B) (hn:n≠0):dg B n=n%B::dg B (n/B):=by
 obtain⟨m,rfl⟩:∃m,n=m+1:=⟨n-1,by omega⟩
 have:(m+1)/B<m+1:=Nat.div_lt_self (by omega) (by omega)
 show Gs B (m+1) (m+1)=_
 simp only[Gs,if_neg hn]
 rw[Xg B hB m ((m+1)/B) _ (by omega) (aX _)]
 rfl
theorem fR {B:Nat}(hB:2<=B){l:List Nat}(h:Lim B l):dg B (vl B l)=trim l:=by
 induction l with
 | nil=>rfl
 | cons d l ih=>
  have hd:=h.head
  have ht:=ih h.tail
  rw[iF]
  by_cases h0:d+B*vl B l=0
  ·have hd0:d=0:=by omega
   have hv:vl B l=0:=by
    rcases Nat.eq_zero_or_pos (vl B l)with h1 | h1
    ·exact h1
    have:=Nat.mul_pos (show 0<B by omega) h1;omega
   rw[h0,kI,fJ,if_pos ⟨(lJ B (by omega) l).2 hv,hd0⟩]
  rw[qN hB h0,Nat.add_mul_mod_self_left,Nat.mod_eq_of_lt hd,Nat.add_mul_div_left _ _ (by omega),Nat.div_eq_of_lt hd,Nat.zero_add,ht]
  rw[fJ,if_neg]
  rintro⟨h1,h2⟩
  apply h0
  rw[(lJ B (by omega) l).1 h1,h2]
  simp
theorem cL {B:Nat}(hB:2<=B) (n:Nat):vl B (dg B n)=n:=by
 induction n using Nat.strongRecOn with
 | _ n ih=>
  by_cases h:n=0
  ·subst h;rfl
  rw[qN hB h,iF,ih _ (Nat.div_lt_self (by omega) (by omega))]
  exact Nat.mod_add_div n B
theorem aU {B:Nat}(hB:2<=B) (n:Nat):Lim B (dg B n):=by
 induction n using Nat.strongRecOn with
 | _ n ih=>
  by_cases h:n=0
  ·subst h;exact Lim.nil
  rw[qN hB h];exact Lim.cons (Nat.mod_lt _ (by omega)) (ih _ (Nat.div_lt_self (by omega) (by omega)))
theorem xP {B:Nat}(hB:2<=B) (n:Nat):trim (dg B n)=dg B n:=by
 rw[<-fR hB (aU hB n),cL hB]
theorem RJ {B:Nat}(hB:2<=B){m n:Nat}(h:dg B m=dg B n):m=n:=by rw[<-cL hB m,h,cL hB]
theorem fC {B:Nat}(hB:2<=B){n:Nat}:dg B n=[]↔n=0:=by
 constructor
 ·intro h;exact RJ hB (h.trans (kI B).symm)
 rintro rfl;rfl
theorem Gt {B n:Nat}(hB:2<=B){l:List Nat}(h:Lim B l) (hv:vl B l=n):trim l=dg B n:=by rw[<-hv,fR hB h]
theorem cW {B n k:Nat}(hB:2<=B) (h:n<B^k):(dg B n).length<=k:=by
 induction k generalizing n with
 | zero=>simp at h;subst h;simp[kI]
 | succ k ih=>
  by_cases h0:n=0
  ·subst h0;simp[kI]
  rw[qN hB h0,List.length_cons]
  have:n/B<B^k:=by rw[Nat.pow_succ,Nat.mul_comm]at h;exact Nat.div_lt_of_lt_mul h
  have:=ih this
  omega
theorem qP {B n:Nat}(hB:2<=B):n<B^(dg B n).length:=by
 have:=fY (aU hB n)
 rwa[cL hB]at this
theorem dS {B m n:Nat}(hB:2<=B) (h:m<=n):(dg B m).length<=(dg B n).length:=
 cW hB (Nat.lt_of_le_of_lt h (qP hB))
theorem lK {B:Nat}{a b:List Nat}(hB:2<=B) (ha:Lim B a) (hb:trim b=b) (h:a.length<b.length):vl B a<vl B b:=by
 have h1:=fY ha
 have hn:b≠[]:=by intro e;subst e;simp at h
 have hl:=wA hb hn
 have h2:b=b.dropLast++[b.getLast hn]:=(List.dropLast_concat_getLast hn).symm
 have h3:vl B b=vl B b.dropLast+B^b.dropLast.length*b.getLast hn:=by
  conv=>lhs;rw[h2]
  rw[oF]
 have h4:B^a.length<=B^b.dropLast.length:=Nat.pow_le_pow_right (by omega) (by simp;omega)
 have h5:B^b.dropLast.length*1<=B^b.dropLast.length*b.getLast hn:=Nat.mul_le_mul_left _ (by omega)
 omega
theorem Og {B:Nat}{a b:List Nat}{k:Nat}(ha:Lim B a) (hl:a.length=b.length) (hk:k<a.length)
  (hd:a.drop (k+1)=b.drop (k+1)) (h:a[k]<b[k]'(by omega)):vl B a<vl B b:=by
 rw[zB B a k (by omega),zB B b k (by omega),List.drop_eq_getElem_cons hk,List.drop_eq_getElem_cons (show k<b.length by omega),hd,iF,iF]
 have h1:=fY (ha.take k)
 rw[dU,Nat.min_eq_left (by omega)]at h1
 have h2:B^k*(a[k]+1+B*vl B (b.drop (k+1)))<=B^k*(b[k]'(by omega)+B*vl B (b.drop (k+1))):=Nat.mul_le_mul_left _ (by omega)
 have h3:B^k*(a[k]+1+B*vl B (b.drop (k+1)))=B^k*(a[k]+B*vl B (b.drop (k+1)))+B^k:=by grind
 omega
def nth (l:List Nat) (k:Nat):Nat:=l.getD k 0
theorem dT {l:List Nat}{k:Nat}(h:k<l.length):nth l k=l[k]:=by
 unfold nth;rw[List.getD_eq_getElem?_getD,fV h];rfl
theorem fP {l:List Nat}{k:Nat}(h:l.length<=k):nth l k=0:=by
 unfold nth;rw[List.getD_eq_getElem?_getD,List.getElem?_eq_none h];rfl
theorem Lim.nth {B:Nat}{l:List Nat}(h:Lim B l) (hB:0<B) (k:Nat):nth l k<B:=h.getD hB k
theorem tW {l:List Nat}{k:Nat}(h:k<l.length):l.take (k+1)=l.take k++[nth l k]:=by
 rw[List.take_succ_eq_append_getElem h,dT h]
theorem cD (B:Nat) (l:List Nat) (k:Nat):vl B (l.take (k+1))=vl B (l.take k)+B^k*nth l k:=Mx B l k
theorem Bi {xs:List Nat}{k:Nat}(h0:0<k) (hk:k<=xs.length) (h:nth xs (k-1)=0):trim (xs.take (k-1))=trim (xs.take k):=by
 have e:=tW (l:=xs) (k:=k-1) (by omega)
 rw[h,show k-1+1=k from by omega]at e
 rw[e,xO]
theorem wB {xs:List Nat}{k:Nat}(h0:0<k) (hk:k<=xs.length) (h:nth xs (k-1)≠0):trim (xs.take k)=xs.take k:=by
 have e:=tW (l:=xs) (k:=k-1) (by omega)
 rw[show k-1+1=k from by omega]at e
 rw[e,AA _ h]
theorem kB (B:Nat){l:List Nat}{k:Nat}(v:Nat) (h:k<l.length):vl B ((l.set k v).take (k+1))=vl B (l.take k)+B^k*v:=by
 rw[cD,List.take_set,List.set_eq_of_length_le (by rw[dU];omega),dT (by rw[List.length_set];exact h),List.getElem_set_self]
theorem cK (B:Nat){l:List Nat}{k:Nat}(h:l.length<=k):vl B (l.take k)=vl B l:=by rw[cT h]
end Go.Proofs.YtimiaildfkimfaaGreatDoor
namespace Go.Proofs.YtimiaildfkimfaaGreatDoor
open Go Go.RowKit
theorem mR (a:Addr) (n:Nat):(a.add n).block=a.block:=by unfold Addr.add;split <;> rfl
theorem De (a:Addr) (i j:Nat):(a.add i).add j=a.add (i+j):=by
 unfold Addr.add
 by_cases hi:i=0 <;> by_cases hj:j=0 <;> simp[hi,hj,Nat.add_assoc]
structure Rd (w:World) (B size:Nat) (A:Option Addr) (n c:Nat) (xs:List Value):Prop where
 len:xs.length=n*size
 cap:n<=c
 big:c<=9223372036854775807
 cell:0<n->∃ad,A=some ad/\ad.block<B/\∀k u,xs[k]? =some u->w.cell? (ad.add k)=some u
section
variable {w w':World}{B B' size n c:Nat}{A:Option Addr}{xs:List Value}
theorem Rd.keep (h:Rd w B size A n c xs) (hk:∀p:Addr,p.block<B->w'.cell? p=w.cell? p):Rd w' B size A n c xs:=
 ⟨h.len,h.cap,h.big,fun hn=>by
  obtain⟨ad,e,hb,hc⟩:=h.cell hn
  exact⟨ad,e,hb,fun k u hu=>(hk _ (by rw[mR];exact hb)).trans (hc k u hu)⟩⟩
theorem Rd.more (h:Rd w B size A n c xs) (hB:B<=B'):Rd w B' size A n c xs:=
 ⟨h.len,h.cap,h.big,fun hn=>by
  obtain⟨ad,e,hb,hc⟩:=h.cell hn
  exact⟨ad,e,by omega,hc⟩⟩
theorem Rd.below (h:Rd w B size A n c xs) (hb:Below B w w'):Rd w' B size A n c xs:=h.keep fun _ hp=>hb.cell hp
theorem Rd.at_ (h:Rd w B size A n c xs){k:Nat}(hk:k<n*size):
  ∃b o sp,A=some ⟨b,o,sp⟩/\b<B/\w.cell? ((⟨b,o,sp⟩:Addr).add k)=some (xs[k]'(by rw[h.len];exact hk)):=by
 have hn:0<n:=by
  rcases Nat.eq_zero_or_pos n with h0 | h0
  ·subst h0;omega
  exact h0
 obtain⟨⟨b,o,sp⟩,e,hb,hc⟩:=h.cell hn
 exact⟨b,o,sp,e,hb,hc k _ (fV (by rw[h.len];exact hk))⟩
theorem Rd.nil:Rd w B size none 0 0 []:=⟨by simp,aX _,by omega,fun h=>absurd h (by omega)⟩
theorem Rd.take (h:Rd w B size A n c xs){k:Nat}(hk:k<=n):Rd w B size A k c (xs.take (k*size)):=
 ⟨by rw[dU,h.len,Nat.min_eq_left (Nat.mul_le_mul_right _ hk)],by have:=h.cap;omega,h.big,fun h0=>by
  obtain⟨ad,e,hb,hc⟩:=h.cell (by omega)
  refine⟨ad,e,hb,fun j u hu=>hc j u ?_⟩
  rw[List.getElem?_take]at hu
  split at hu
  ·exact hu
  cases hu⟩
theorem Rd.of_own {base:Nat}{e:TypeId}(h:w.ownsRow base e size (.slice A n c) n xs):Rd w w.heap.size size A n c xs:=by
 obtain⟨h1,h2⟩:=h
 rcases h2 with⟨h3,rfl⟩ | ⟨g,cap,cur,hv,_,hg,hnc,hcm,hcs,htake⟩
 ·injection h3 with e1 _ e2
  subst e1;subst e2
  exact⟨h1,aX _,by omega,fun h=>absurd h (by omega)⟩
 injection hv with e1 _ e2
 subst e1;subst e2
 refine⟨h1,hnc,hcm,fun hn=>⟨⟨g,0,none⟩,rfl,(Array.getElem?_eq_some_iff.1 hg).1,?_⟩⟩
 exact World.ownsRow.cells (e:=e) (base:=0) (v:=.slice (some ⟨g,0,none⟩) n c) ⟨h1,.inr ⟨g,c,cur,rfl,Nat.zero_le _,hg,hnc,hcm,hcs,htake⟩⟩ rfl
end
def iV (xs:List Nat):List Value:=xs.map fun(n:Nat)=>.int .u32 (n:Int)
theorem mW (xs:List Nat):(iV xs).length=xs.length:=by simp[iV]
theorem Oh (xs:List Nat) (k:Nat):(iV xs).take k=iV (xs.take k):=by simp[iV,List.map_take]
theorem Gu (xs ys:List Nat):iV (xs++ys)=iV xs++iV ys:=by simp[iV]
theorem Sy (xs:List Nat) (k:Nat) (h:k<(iV xs).length):(iV xs)[k]=.int .u32 (xs[k]'(by rwa[mW]at h):Nat):=by simp[iV]
theorem Oi (xs:List Nat) (k:Nat) (h:k<xs.length):(iV xs)[k]? =some (.int .u32 (nth xs k:Nat)):=by simp[iV,dT h,h]
theorem Df (xs:List Nat):∀u∈iV xs,u.oneCell'=true:=by
 intro u hu
 obtain⟨n,_,rfl⟩:=List.mem_map.1 hu
 rfl
structure U32 (w:World) (B:Nat) (A:Option Addr) (n c:Nat) (xs:List Nat):Prop where
 rd:Rd w B 1 A n c (iV xs)
 lim:Lim 4294967296 xs
section
variable {w w':World}{B B' n c:Nat}{A:Option Addr}{xs:List Nat}
theorem U32.len (h:U32 w B A n c xs):xs.length=n:=by rw[<-mW,h.rd.len,Nat.mul_one]
theorem U32.cap (h:U32 w B A n c xs):n<=c:=h.rd.cap
theorem U32.big (h:U32 w B A n c xs):c<=9223372036854775807:=h.rd.big
theorem U32.more (h:U32 w B A n c xs) (hB:B<=B'):U32 w B' A n c xs:=⟨h.rd.more hB,h.lim⟩
theorem U32.below (h:U32 w B A n c xs) (hb:Below B w w'):U32 w' B A n c xs:=⟨h.rd.below hb,h.lim⟩
theorem U32.nil:U32 w B none 0 0 []:=⟨Rd.nil,Lim.nil⟩
theorem U32.empty (hc:c<=9223372036854775807):U32 w B A 0 c []:=⟨⟨rfl,Nat.zero_le _,hc,fun h=>absurd h (by omega)⟩,Lim.nil⟩
theorem U32.take (h:U32 w B A n c xs){k:Nat}(hk:k<=n):U32 w B A k c (xs.take k):=
 ⟨by have:=h.rd.take hk;rwa[Nat.mul_one,Oh]at this,h.lim.take k⟩
theorem U32.at_ (h:U32 w B A n c xs){k:Nat}(hk:k<n):
  ∃b o sp,A=some ⟨b,o,sp⟩/\b<B/\w.cell? ((⟨b,o,sp⟩:Addr).add k)=some (.int .u32 (nth xs k:Nat)):=by
 obtain⟨b,o,sp,e,hb,hc⟩:=h.rd.at_ (k:=k) (by omega)
 exact⟨b,o,sp,e,hb,by rw[hc,Sy,dT (by rw[h.len];exact hk)]⟩
theorem U32.cell0 {g j:Nat}(h:U32 w B (some ⟨g,0,none⟩) n c xs) (hj:j<n):w.cell? ⟨g,j,none⟩=some (.int .u32 (nth xs j:Nat)):=by
 obtain⟨ad,e,_,hc⟩:=h.rd.cell (by omega)
 injection e with e
 subst e
 have:=hc j _ (Oi xs j (by rw[h.len];exact hj))
 rw[show(⟨g,0,none⟩:Addr).add j=⟨g,j,none⟩ from by unfold Addr.add;split <;> simp_all]at this
 exact this
theorem U32.trim (h:U32 w B A n c xs):U32 w B A (trim xs).length c (trim xs):=by
 have h1:=h.take (k:=(Go.Proofs.YtimiaildfkimfaaGreatDoor.trim xs).length) (by have:=dH xs;rw[h.len]at this;exact this)
 rwa[xC]at h1
end
structure Own (t:TypeId) (w:World) (base:Nat) (A:Option Addr) (n c:Nat) (xs:List Nat):Prop where
 row:w.ownsRow base t 1 (.slice A n c) n (iV xs)
 lim:Lim 4294967296 xs
section
variable {t:TypeId}{w w':World}{base base' n c:Nat}{A:Option Addr}{xs:List Nat}
theorem Own.u32 (h:Own t w base A n c xs):U32 w w.heap.size A n c xs:=⟨Rd.of_own h.row,h.lim⟩
theorem Own.len (h:Own t w base A n c xs):xs.length=n:=h.u32.len
theorem Own.nil:Own t w base none 0 0 []:=⟨World.ownsRow_nil _ _ _ _,Lim.nil⟩
theorem Own.base_le (h:Own t w base A n c xs) (hb:base'<=base):Own t w base' A n c xs:=by
 refine⟨⟨h.row.1,?_⟩,h.lim⟩
 rcases h.row.2 with h2 | ⟨g,cap,cur,hv,hg,rest⟩
 ·exact .inl h2
 exact .inr ⟨g,cap,cur,hv,by omega,rest⟩
theorem Own.take (h:Own t w base A n c xs){k:Nat}(hk:k<=n):Own t w base A k c (xs.take k):=by
 have hl:=h.len
 refine⟨⟨by rw[mW,dU];omega,?_⟩,h.lim.take k⟩
 rcases h.row.2 with⟨h2,h3⟩ | ⟨g,cap,cur,hv,hg,hh,hnc,hcm,hcs,htake⟩
 ·injection h2 with e1 _ e2
  subst e1;subst e2
  exact .inl ⟨by rw[show k=0 by omega],by omega⟩
 injection hv with e1 _ e2
 subst e1;subst e2
 refine .inr ⟨g,c,cur,rfl,hg,hh,by omega,hcm,hcs,?_⟩
 rw[<-Oh,<-htake,List.take_take,Nat.mul_one,Nat.mul_one,Nat.min_eq_left hk]
theorem Own.trim (h:Own t w base A n c xs):Own t w base A (trim xs).length c (trim xs):=by
 have h1:=h.take (k:=(Go.Proofs.YtimiaildfkimfaaGreatDoor.trim xs).length) (by have:=dH xs;rw[h.len]at this;exact this)
 rwa[xC]at h1
theorem Own.below (h:Own t w base A n c xs) (hb:Below w.heap.size w w'):Own t w' base A n c xs:=by
 refine⟨⟨h.row.1,?_⟩,h.lim⟩
 rcases h.row.2 with h2 | ⟨g,cap,cur,hv,hg,hh,rest⟩
 ·exact .inl h2
 exact .inr ⟨g,cap,cur,hv,hg,(hb.block g (Array.getElem?_eq_some_iff.1 hh).1).trans hh,rest⟩
end
theorem rM (w:World) (cs:Array Value) (e:TypeId) (j:Nat){g:Nat}(h:g=w.heap.size):(w.alloc (.cells cs e)).cell? ⟨g,j,none⟩=cs[j]? :=by
 subst h;exact cell_of_row _ _ _ _ _ _ (heap_alloc_new w _)
theorem La {P:Program}{f:FuncId}{args:Array Value}{w0 W:World}{R:Ending->World->Prop}(hB:Below w0.heap.size w0 W) (h:Below w0.heap.size w0 W->Calls P f args W R):Calls P f args W R:=h hB
theorem U32.now {w w':World}{A:Option Addr}{n c:Nat}{xs:List Nat}(h:U32 w w.heap.size A n c xs) (hb:Below w.heap.size w w'):U32 w' w'.heap.size A n c xs:=(h.below hb).more hb.size
theorem iZ {B:Nat}{a w:World}(h:Below B a w) (n:Nat):Below B a (w.drewN n):=⟨h.os,h.tape,h.output,h.size,h.block⟩
theorem xQ {k:IntKind}{a b:Int}(h:a=b):Ending.returned (.int k a)=.returned (.int k b):=by rw[h]
theorem Lb {A:Option Addr}{a b c:Nat}(h:a=b):Ending.returned (.slice A a c)=.returned (.slice A b c):=by rw[h]
def IsEl (P:Program) (t e:TypeId) (z:Value) (size bytes:Nat):Prop:=
 P.underlying t=some (.slice e)/\∃i,P.info? e=some i/\i.zero=some z/\i.size=size/\i.bytes=bytes/\z.cells.size=size/\0<size
theorem IsEl.mk {P:Program}{t e:TypeId}{size bytes:Nat}{z:Value}(ht:P.underlying t=some (.slice e)) (h:(P.info? e).map (fun i=>(i.zero,i.size,i.bytes))=some (some z,size,bytes))
  (hz:z.cells.size=size) (hs:0<size):IsEl P t e z size bytes:=by
 obtain⟨i,hi,hzz⟩:=Option.map_eq_some_iff.1 h
 simp only[Prod.mk.injEq]at hzz
 exact⟨ht,i,hi,hzz.1,hzz.2.1,hzz.2.2,hz,hs⟩
section
variable {P:Program}(w:World)
theorem Tt {t e:TypeId}{z:Value}{size bytes:Nat}(hel:IsEl P t e z size bytes) (ty:TypeId) (base:Nat)
  (v:Value) (n:Nat) (xs:List Value) (hown:w.ownsRow base e size v n xs)
  (B:Nat) (A:Option Addr) (m c:Nat) (news:List Value) (hr:Rd w B size A m c news) (h1:∀u∈news,u.oneCell'=true)
  (hbytes:(n+m)*bytes<=140737488355328) (h63:n+m<=140737488355328) (hbase:base<=w.heap.size):
  ∃A' c' w',(Builtin.append_ #[t,t] ty #[v,.slice A m c]).run P w=.ok (.slice A' (n+m) c') w'/\w'.ownsRow base e size (.slice A' (n+m) c') (n+m) (xs++news)/\w.grownBy w' v.ownBlock/\
   ((Value.slice A' (n+m) c').ownBlock=v.ownBlock\/(Value.slice A' (n+m) c').ownBlock=some w.heap.size):=by
 obtain⟨ht,i,hi,hz,hsize,hby,hzs,hsz⟩:=hel
 have shape:∀{v':Value}{k:Nat}{w':World}{l:List Value},w'.ownsRow base e size v' k l->∃A' c',v'=.slice A' k c':=by
  intro v' k w' l hh
  rcases hh.2 with⟨rfl,rfl⟩ | ⟨g,cap,cur,rfl,_⟩
  ·exact⟨_,_,rfl⟩
  exact⟨_,_,rfl⟩
 rcases A with _ | ad
 ·have hm:m=0:=by
   rcases Nat.eq_zero_or_pos m with h0 | h0
   ·exact h0
   obtain⟨ad,h,_⟩:=hr.cell h0
   cases h
  subst hm
  have hn:news=[]:=List.eq_nil_of_length_eq_zero (by simpa using hr.len)
  subst hn
  have hrun:(Builtin.append_ #[t,t] ty #[v,.slice none 0 c]).run P w=.ok v w:=by
   rcases hown.2 with⟨rfl,rfl⟩ | ⟨g,cap,cur,rfl,_,_,hnc,_⟩
   ·simp[Builtin.append_,run_underlying ht,sizeOf,typeInfo,hi,Builtin.lenOf,Builtin.firstCells]
   simp[Builtin.append_,run_underlying ht,sizeOf,typeInfo,hi,Builtin.lenOf,Builtin.firstCells,hnc,storeCells]
  obtain⟨A',c',rfl⟩:=shape hown
  exact⟨A',c',w,hrun,by simpa using hown,⟨rfl,rfl,rfl,aX _,fun _ _ _=>rfl⟩,.inl rfl⟩
 have hcells:∀j u,news[j]? =some u->w.cell? (ad.add j)=some u:=by
  intro j u hu
  rcases Nat.eq_zero_or_pos m with h0 | h0
  ·subst h0
   have hn:news=[]:=List.eq_nil_of_length_eq_zero (by simpa using hr.len)
   subst hn
   simp at hu
  obtain⟨ad',h,_,hc⟩:=hr.cell h0
  injection h with h
  subst h
  exact hc j u hu
 obtain⟨v',w',hrun,h2,h3,_,h5⟩:=run_append_own_at (P:=P) w base t ty e i z size bytes ht hi hz hsize hby hzs hsz v n xs hown ad m c news hr.len hcells h1 (by simp only[maxLen];omega) hbytes hbase
 obtain⟨A',c',rfl⟩:=shape h2
 exact⟨A',c',w',hrun,h2,h3,h5⟩
theorem RK {t e:TypeId}{z:Value}{size bytes:Nat}(hel:IsEl P t e z size bytes){o:Oper}{a:Act}{K:Act->World->Prop}{Q:Exit->Act->World->Prop}(s x:Operand)
  (ho:o.op=.call {callee:=.builtin .append,args:= #[s,x],argTypes:= #[t,t]}) (base:Nat)
  (v:Value) (n:Nat) (xs:List Value) (hs:a.eval s=v) (hown:w.ownsRow base e size v n xs)
  (B:Nat) (A:Option Addr) (m c:Nat) (news:List Value) (hx:a.eval x=.slice A m c) (hr:Rd w B size A m c news) (h1:∀u∈news,u.oneCell'=true)
  (hbytes:(n+m)*bytes<=140737488355328) (h63:n+m<=140737488355328) (hbase:base<=w.heap.size)
  (h:∀A' c' w',w'.ownsRow base e size (.slice A' (n+m) c') (n+m) (xs++news)->w.grownBy w' v.ownBlock->
   ((Value.slice A' (n+m) c').ownBlock=v.ownBlock\/(Value.slice A' (n+m) c').ownBlock=some w.heap.size)->K (a.put o.dst (.slice A' (n+m) c')) w'):o.wp P a w K Q:=by
 obtain⟨A',c',w',hrun,h2,h3,h4⟩:=Tt (P:=P) w hel o.type base v n xs hown B A m c news hr h1 hbytes h63 hbase
 unfold Oper.wp execOp
 simp only[ho,resolve,invoke,builtin,Sem.run_bind,Sem.run_pure,Result.andThen_ok,List.map_toArray,List.map_cons,List.map_nil,hs,hx,hrun]
 exact h A' c' w' h2 h3 h4
theorem uK {t e:TypeId}{z:Value}{size bytes:Nat}(hel:IsEl P t e z size bytes){ops:Array Oper}{rest:List Oper}{o:Oper}{a:Act}{Q:Exit->Act->World->Prop}(hgd:o.guard=none) (s x:Operand)
  (ho:o.op=.call {callee:=.builtin .append,args:= #[s,x],argTypes:= #[t,t]}) (base:Nat)
  (v:Value) (n:Nat) (xs:List Value) (hs:a.eval s=v) (hown:w.ownsRow base e size v n xs)
  (B:Nat) (A:Option Addr) (m c:Nat) (news:List Value) (hx:a.eval x=.slice A m c) (hr:Rd w B size A m c news) (h1:∀u∈news,u.oneCell'=true)
  (hbytes:(n+m)*bytes<=140737488355328) (h63:n+m<=140737488355328) (hbase:base<=w.heap.size)
  (h:∀A' c' w',w'.ownsRow base e size (.slice A' (n+m) c') (n+m) (xs++news)->w.grownBy w' v.ownBlock->
   ((Value.slice A' (n+m) c').ownBlock=v.ownBlock\/(Value.slice A' (n+m) c').ownBlock=some w.heap.size)->wpList P ops Q rest (a.put o.dst (.slice A' (n+m) c')) w'):wpList P ops Q (o::rest) a w:=
 wpList_plain hgd fun _ hK=>RK w hel s x ho base v n xs hs hown B A m c news hx hr h1 hbytes h63 hbase fun A' c' w' h2 h3 h4=>hK _ _ (h A' c' w' h2 h3 h4)
end
theorem wC {B:Nat}{a w w':World}{base:Nat}{e:TypeId}{size n:Nat}{v:Value}{xs:List Value}(h:Below B a w) (hown:w.ownsRow base e size v n xs) (hg:w.grownBy w' v.ownBlock) (hB:B<=w.heap.size) (hbase:B<=base):Below B a w':=
 h.grown hg hB fun k hk=>Nat.le_trans hbase (hown.lt k hk).1
theorem sY {P:Program}(w:World){t e:TypeId}{z:Value}{size bytes:Nat}(hel:IsEl P t e z size bytes){ops:Array Oper}{rest:List Oper}{o:Oper}{a:Act}{Q:Exit->Act->World->Prop}
  (hg:o.guard=none) (l c:Operand) (hop:o.op=Op.makeSlice t l c) (kl kc:IntKind) (L C:Int) (n:Nat) (hl:a.eval l=.int kl L) (hc:a.eval c=.int kc C) (hL:L=(n:Int)) (hC:C=(n:Int))
  (b2:bytes*n<=281474976710656) (b3:n<=140737488355328)
  (hK:∀w',w'.ownsRow w.heap.size e size (.slice (some ⟨w.heap.size,0,none⟩) n n) n (madeCells z.cells (n*size)).toList->Below w.heap.size w w'->w.heap.size<w'.heap.size->
   wpList P ops Q rest (a.put o.dst (.slice (some ⟨w.heap.size,0,none⟩) n n)) w'):
  wpList P ops Q (o::rest) a w:=by
 obtain⟨ht,i,hi,hz,hsize,hby,hzs,hsz⟩:=hel
 subst hby
 refine wpList_make_full w hg l c t hop w.heap.size e i z size ht hi hz hsize kl kc L C n hl hc hL hC b2 (by unfold maxLen;omega) (aX _) fun w' h1 h2=>hK w' h1 ((Below.refl _ _).grown h2 (aX _) (fun k hk=>by cases hk)) ?_
 rcases h1.2 with⟨hh,_⟩ | ⟨g,cap,cur,hv,_,hh,_⟩
 ·injection hh with h3;cases h3
 injection hv with e1
 injection e1 with e1
 injection e1 with e1
 subst e1
 exact(Array.getElem?_eq_some_iff.1 hh).1
section
variable {t:TypeId}{w:World}{base n c g:Nat}{xs:List Nat}
theorem Own.made (h:w.ownsRow base t 1 (.slice (some ⟨g,0,none⟩) n n) n (madeCells (Value.int .u32 0).cells (n*1)).toList):Own t w base (some ⟨g,0,none⟩) n n (List.replicate n 0):=by
 refine⟨?_,Lim.replicate (by omega) n⟩
 have e:(madeCells (Value.int .u32 0).cells (n*1)).toList=iV (List.replicate n 0):=by
  rw[Nat.mul_one]
  show(madeCells #[Value.int .u32 0] n).toList=_
  rw[toList_madeCells_one]
  simp[iV]
 rwa[e]at h
theorem Own.cell (h:Own t w base (some ⟨g,0,none⟩) n c xs){j:Nat}(hj:j<n):w.cell? ⟨g,j,none⟩=some (.int .u32 (nth xs j:Nat)):=by
 rw[h.row.cellAt j (by omega),Oi xs j (by rw[h.len];exact hj)]
theorem Own.frozen (h:Own t w base (some ⟨g,0,none⟩) n c xs) (j:Nat):w.frozen? ⟨g,j,none⟩=false:=h.row.frozenAt j
theorem LY (xs:List Nat) (j v:Nat):(iV xs).set j (.int .u32 (v:Int))=iV (xs.set j v):=by simp[iV,List.map_set]
theorem Lim.set {B:Nat}{l:List Nat}(h:Lim B l) (j:Nat){v:Nat}(hv:v<B):Lim B (l.set j v):=fun x hx=>by
 rcases List.mem_or_eq_of_mem_set hx with h1 | h1
 ·exact h x h1
 rw[h1];exact hv
theorem Own.set (h:Own t w base (some ⟨g,0,none⟩) n c xs) (j:Nat){v:Nat}(hv:v<4294967296):Own t (w.setCell ⟨g,j,none⟩ (.int .u32 (v:Int))) base (some ⟨g,0,none⟩) n c (xs.set j v):=by
 refine⟨?_,h.lim.set j hv⟩
 have:=(h.row.stored j (.int .u32 (v:Int))).1
 rwa[LY]at this
theorem Own.form {A:Option Addr}(h:Own t w base A n c xs) (hn:0<n):∃g,A=some ⟨g,0,none⟩/\base<=g/\g<w.heap.size:=by
 rcases h.row.2 with⟨_,h3⟩ | ⟨g,cap,cur,hv,hb,hg,_⟩
 ·omega
 injection hv with e1
 exact⟨g,e1,hb,(Array.getElem?_eq_some_iff.1 hg).1⟩
theorem Own.drewN (h:Own t w base (some ⟨g,0,none⟩) n c xs) (k:Nat):Own t (w.drewN k) base (some ⟨g,0,none⟩) n c xs:=⟨h.row,h.lim⟩
end
theorem Lc (w:World) (g:Nat):w.grownBy w (some g):=⟨rfl,rfl,rfl,aX _,fun _ _ _=>rfl⟩
theorem vF {w wr:World}{g:Nat}(h:w.grownBy wr (some g)) (j:Nat) (v:Value):w.grownBy (wr.setCell ⟨g,j,none⟩ v) (some g):=
 ⟨h.os,h.tape,h.output,by simpa[World.setCell]using h.size,fun k hk hne=>(Below.heap_setCell wr ⟨g,j,none⟩ v k (fun e=>hne (by rw[e]))).trans (h.block k hk hne)⟩
theorem zC {w wr:World}{g:Nat}(h:w.grownBy wr (some g)) (hg:g<=w.heap.size):Below g w wr:=
 ⟨h.os,h.tape,h.output,h.size,fun k hk=>h.block k (by omega) (fun e=>by injection e with e;omega)⟩
theorem Own.only {t:TypeId}{w w':World}{base n c g g':Nat}{xs:List Nat}(h:Own t w base (some ⟨g,0,none⟩) n c xs) (ho:w.grownBy w' (some g')) (hne:g≠g'):Own t w' base (some ⟨g,0,none⟩) n c xs:=by
 refine⟨⟨h.row.1,?_⟩,h.lim⟩
 rcases h.row.2 with h2 | ⟨g2,cap,cur,hv,hb,hh,rest⟩
 ·exact .inl h2
 injection hv with e1 _ e2
 injection e1 with e1
 injection e1 with e1
 subst e1
 subst e2
 exact .inr ⟨g,c,cur,rfl,hb,(ho.block g (Array.getElem?_eq_some_iff.1 hh).1 (fun e=>hne (by injection e))).trans hh,rest⟩
def Fr (ts:Array Value) (n:Nat) (g:Nat->Value):Prop:=ts.size=n/\∀i,i<n->ts[i]? =some (g i)
def up (g:Nat->Value) (d:Nat) (v:Value):Nat->Value:=fun i=>bif Nat.beq i d then v else g i
def lg:List Value->Nat->Value
 | [],_=>undef
 | v::_,0=>v
 | _::l,i+1=>lg l i
theorem RL (l:List Value) (i:Nat):lg l i=(l[i]?).getD undef:=by
 induction l generalizing i with
 | nil=>rfl
 | cons v l ih=>cases i with
  | zero=>rfl
  | succ i=>simpa[lg]using ih i
theorem enter {P:Program}{f:FuncId}{fn:Func}{c:Code}{l:List Value}{w:World}{R:Ending->World->Prop}{n:Nat}(hf:P.funcs[f]? =some fn) (hb:fn.body=some c) (hn:fn.ntmps=n) (hl:Nat.ble l.length n=true)
  (h:∀ts,Fr ts n (lg l)->c.wp P (bodyPost P fn R) ⟨ts,[]⟩ w):Calls P f l.toArray w R:=by
 refine calls_of_wp hf hb (h _ ?_)
 have hle:l.length<=n:=by simpa using hl
 refine⟨by simp[hn];omega,fun i hi=>?_⟩
 rw[RL]
 by_cases h0:i<l.length
 ·simp[Array.getElem?_append,h0]
 have e:l[i]? =none:=by simp;omega
 rw[e]
 rw[Array.getElem?_append]
 have h1:i-l.length<n-l.length:=by omega
 simp[h0,hn,h1]
structure Res where
 S:List Nat
 φ:World->Prop
 loc:∀W W':World,(∀b∈S,W'.heap[b]? =W.heap[b]?)->φ W->φ W'
structure Sh where
 p:World->(Nat->Prop)->Prop
 mono:∀(W:World) (N N':Nat->Prop),(∀b,N b->N' b)->p W N->p W N'
 keep:∀(W W':World) (N:Nat->Prop),(∀b,N b->W'.heap[b]? =W.heap[b]?)->p W N->p W' N
def Sh.on (q:Sh) (M:Nat->Prop):Sh where
 p:=fun W N=>q.p W (fun b=>N b/\M b)
 mono:=fun W _ _ hN h=>q.mono W _ _ (fun b hb=>⟨hN b hb.1,hb.2⟩) h
 keep:=fun W W' _ hN h=>q.keep W W' _ (fun b hb=>hN b hb.1) h
theorem Sh.off {q:Sh}{M N:Nat->Prop}{W:World}(h:(q.on M).p W N):q.p W (fun b=>N b/\M b):=h
def pT (W:World) (L:List Res) (b:Nat):Prop:=b<W.heap.size/\b∉L.flatMap Res.S
structure Chg (S:List Nat) (w w':World):Prop where
 os:w'.os=w.os
 tape:w'.tape=w.tape
 output:w'.output=w.output
 size:w.heap.size<=w'.heap.size
 block:∀k,k<w.heap.size->k∉S->w'.heap[k]? =w.heap[k]?
structure Loc (M:List Nat) (w W:World) (L:List Res) (F:List Sh):Prop where
 chg:Chg M w W
 res:∀r∈L,r.φ W
 blk:∀b∈L.flatMap Res.S,(b∈M\/w.heap.size<=b)/\b<W.heap.size
 nd:(L.flatMap Res.S).Nodup
 shr:∀q∈F,q.p W (pT W L)
section
variable {M:List Nat}{w W W':World}{L:List Res}{F:List Sh}{r r':Res}
theorem Chg.of_below (h:Below W.heap.size W W'):Chg [] W W':=⟨h.os,h.tape,h.output,h.size,fun k hk _=>h.block k hk⟩
theorem Chg.refl (S:List Nat) (w:World):Chg S w w:=⟨rfl,rfl,rfl,aX _,fun _ _ _=>rfl⟩
theorem Chg.below (h:Chg [] w W):Below w.heap.size w W:=⟨h.os,h.tape,h.output,h.size,fun k hk=>h.block k hk (by simp)⟩
theorem Chg.then {S T:List Nat}(h:Chg S w W) (h':Chg T W W') (hT:∀b∈T,b∈S\/w.heap.size<=b):Chg S w W':=
 ⟨h'.os.trans h.os,h'.tape.trans h.tape,h'.output.trans h.output,Nat.le_trans h.size h'.size,fun k hk hn=>
  (h'.block k (Nat.lt_of_lt_of_le hk h.size) (fun hm=>by rcases hT k hm with h1 | h1;exact hn h1;omega)).trans (h.block k hk hn)⟩
theorem Loc.bel (h:Loc [] w W L F):Below w.heap.size w W:=h.chg.below
theorem Loc.ext (h:Loc M w W L F) (hb:Below W.heap.size W W'):Loc M w W' L F:=
 ⟨h.chg.then (Chg.of_below hb) (by simp),
  fun r hr=>r.loc W W' (fun b hbS=>hb.block b (h.blk b (List.mem_flatMap.2 ⟨r,hr,hbS⟩)).2) (h.res r hr),
  fun b hbL=>⟨(h.blk b hbL).1,Nat.lt_of_lt_of_le (h.blk b hbL).2 hb.size⟩,h.nd,
  fun q hq=>q.mono _ _ _ (fun b hb'=>⟨Nat.lt_of_lt_of_le hb'.1 hb.size,hb'.2⟩) (q.keep W W' _ (fun b hb'=>hb.block b hb'.1) (h.shr q hq))⟩
theorem Loc.drew (h:Loc M w W L F):Loc M w W.drew L F:=h.ext ((Below.refl _ _).drew)
theorem Loc.push (h:Loc M w W L F) (hb:Below W.heap.size W W') (hr:r.φ W') (hS:∀b∈r.S,W.heap.size<=b/\b<W'.heap.size) (hn:r.S.Nodup):Loc M w W' (r::L) F:=by
 have h1:=h.ext hb
 refine⟨h1.chg,?_,?_,?_,fun q hq=>q.mono _ _ _ (fun b hb'=>⟨Nat.lt_of_lt_of_le hb'.1 hb.size,fun hm=>?_⟩) (q.keep W W' _ (fun b hb'=>hb.block b hb'.1) (h.shr q hq))⟩
 ·intro r' hr'
  rcases List.mem_cons.1 hr' with rfl | hr'
  ·exact hr
  exact h1.res r' hr'
 ·intro b hbL
  rw[List.flatMap_cons,List.mem_append]at hbL
  rcases hbL with hbL | hbL
  ·have:=hS b hbL
   exact⟨.inr (Nat.le_trans h.chg.size this.1),this.2⟩
  exact h1.blk b hbL
 ·rw[List.flatMap_cons,List.nodup_append]
  refine⟨hn,h.nd,fun x hx y hy e=>?_⟩
  subst e
  have a1:=hS x hx
  have a2:=(h.blk x hy).2
  omega
 rw[List.flatMap_cons,List.mem_append]at hm
 rcases hm with hm | hm
 ·have a1:=(hS b hm).1
  have a2:=hb'.1
  omega
 exact hb'.2 hm
theorem Loc.get (h:Loc M w W L F) (i:Nat) (hi:L[i]? =some r):r.φ W:=h.res r (List.mem_of_getElem? hi)
theorem Loc.set (h:Loc M w W L F) (i:Nat) (hi:L[i]? =some r) (hc:Chg r.S W W') (hr:r'.φ W') (hS:∀b∈r'.S,b∈r.S\/(W.heap.size<=b/\b<W'.heap.size)) (hn:r'.S.Nodup):Loc M w W' (L.set i r') F:=by
 have hmem:=List.mem_of_getElem? hi
 obtain⟨hlt,hget⟩:=List.getElem?_eq_some_iff.1 hi
 have split:L=L.take i++r::L.drop (i+1):=by
  rw[<-hget,List.getElem_cons_drop,List.take_append_drop]
 have hset:L.set i r'=L.take i++r'::L.drop (i+1):=by
  rw[List.set_eq_take_append_cons_drop,if_pos hlt]
 have hnd:=h.nd
 rw[split]at hnd
 simp only[List.flatMap_append,List.flatMap_cons,List.nodup_append,List.mem_append]at hnd
 obtain⟨n1,⟨n2,n3,n4⟩,n5⟩:=hnd
 have other:∀x,x∈(L.take i).flatMap Res.S\/x∈(L.drop (i+1)).flatMap Res.S->x∉r.S/\(x∈M\/w.heap.size<=x)/\x<W.heap.size:=by
  intro x hx
  have hxL:x∈L.flatMap Res.S:=by
   rw[split]
   simp only[List.flatMap_append,List.flatMap_cons,List.mem_append]
   rcases hx with hx | hx
   ·exact .inl hx
   exact .inr (.inr hx)
  refine⟨fun hr=>?_,h.blk x hxL⟩
  rcases hx with hx | hx
  ·exact n5 x hx x (.inl hr) rfl
  exact n4 x hr x hx rfl
 have keep:∀q:Res,(∀x∈q.S,x∈(L.take i).flatMap Res.S\/x∈(L.drop (i+1)).flatMap Res.S)->q.φ W->q.φ W':=fun q hq hφ=>
  q.loc W W' (fun b hb=>hc.block b (other b (hq b hb)).2.2 (other b (hq b hb)).1) hφ
 have hs:∀b∈r.S,(b∈M\/w.heap.size<=b)/\b<W.heap.size:=fun b hb=>h.blk b (List.mem_flatMap.2 ⟨r,hmem,hb⟩)
 have hs':∀b∈r'.S,(b∈M\/w.heap.size<=b)/\b<W'.heap.size:=fun b hb=>by
  rcases hS b hb with h1 | h1
  ·exact⟨(hs b h1).1,Nat.lt_of_lt_of_le (hs b h1).2 hc.size⟩
  exact⟨.inr (Nat.le_trans h.chg.size h1.1),h1.2⟩
 rw[hset]
 refine⟨h.chg.then hc (fun b hb=>(hs b hb).1),?_,?_,?_,fun q hq=>?_⟩
 ·intro q hq
  rcases List.mem_append.1 hq with hq | hq
  ·exact keep q (fun x hx=>.inl (List.mem_flatMap.2 ⟨q,hq,hx⟩)) (h.res q (by rw[split];exact List.mem_append_left _ hq))
  rcases List.mem_cons.1 hq with rfl | hq
  ·exact hr
  exact keep q (fun x hx=>.inr (List.mem_flatMap.2 ⟨q,hq,hx⟩)) (h.res q (by rw[split];exact List.mem_append_right _ (List.mem_cons_of_mem _ hq)))
 ·intro b hb
  simp only[List.flatMap_append,List.flatMap_cons,List.mem_append]at hb
  rcases hb with hb | hb | hb
  ·have:=other b (.inl hb)
   exact⟨this.2.1,Nat.lt_of_lt_of_le this.2.2 hc.size⟩
  ·exact hs' b hb
  have:=other b (.inr hb)
  exact⟨this.2.1,Nat.lt_of_lt_of_le this.2.2 hc.size⟩
 ·simp only[List.flatMap_append,List.flatMap_cons,List.nodup_append,List.mem_append]
  have away:∀x,x∈(L.take i).flatMap Res.S\/x∈(L.drop (i+1)).flatMap Res.S->x∉r'.S:=fun x hx hr'=>by
   rcases hS x hr' with h1 | h1
   ·exact(other x hx).1 h1
   have:=(other x hx).2.2
   omega
  refine⟨n1,⟨hn,n3,fun x hx y hy e=>?_⟩,fun x hx y hy e=>?_⟩
  ·subst e
   exact away x (.inr hy) hx
  subst e
  rcases hy with hy | hy
  ·exact away x (.inl hx) hy
  exact n5 x hx x (.inr hy) rfl
 have hno:∀b,pT W L b->b∉r.S:=fun b hb hbr=>hb.2 (List.mem_flatMap.2 ⟨r,hmem,hbr⟩)
 refine q.mono _ _ _ (fun b hb=>⟨Nat.lt_of_lt_of_le hb.1 hc.size,fun hm=>?_⟩) (q.keep W W' _ (fun b hb=>hc.block b hb.1 (hno b hb)) (h.shr q hq))
 simp only[List.flatMap_append,List.flatMap_cons,List.mem_append]at hm
 have hin:∀x,x∈(L.take i).flatMap Res.S\/x∈(L.drop (i+1)).flatMap Res.S->x∈L.flatMap Res.S:=by
  intro x hx
  rw[split]
  simp only[List.flatMap_append,List.flatMap_cons,List.mem_append]
  rcases hx with hx | hx
  ·exact .inl hx
  exact .inr (.inr hx)
 rcases hm with hm | hm | hm
 ·exact hb.2 (hin b (.inl hm))
 ·rcases hS b hm with h1 | h1
  ·exact hno b hb h1
  have:=hb.1
  omega
 exact hb.2 (hin b (.inr hm))
def pick (L:List Res) (is:List Nat):List Res:=is.filterMap (L[·]?)
theorem Loc.pick (h:Loc M w W L F) (is:List Nat) (hn:is.Nodup):Loc M w W (pick L is) F:=by
 have sub:∀r∈Go.Proofs.YtimiaildfkimfaaGreatDoor.pick L is,r∈L:=fun r hr=>by
  obtain⟨i,_,hi⟩:=List.mem_filterMap.1 hr
  exact List.mem_of_getElem? hi
 have hnd:List.Pairwise (· ≠ ·) (L.flatMap Res.S):=h.nd
 rw[List.pairwise_flatMap]at hnd
 refine⟨h.chg,fun r hr=>h.res r (sub r hr),fun b hb=>?_,?_,fun q hq=>q.mono _ _ _ (fun b hb=>⟨hb.1,fun hm=>hb.2 ?_⟩) (h.shr q hq)⟩
 ·obtain⟨r,hr,hbr⟩:=List.mem_flatMap.1 hb
  exact h.blk b (List.mem_flatMap.2 ⟨r,sub r hr,hbr⟩)
 ·show List.Pairwise (· ≠ ·) _
  rw[List.pairwise_flatMap]
  refine⟨fun r hr=>hnd.1 r (sub r hr),?_⟩
  unfold Go.Proofs.YtimiaildfkimfaaGreatDoor.pick
  rw[List.pairwise_filterMap]
  have hn':List.Pairwise (· ≠ ·) is:=hn
  refine hn'.imp fun{i j} hij b hb b' hb' x hx y hy=>?_
  have hp:=List.pairwise_iff_getElem.1 hnd.2
  obtain⟨h1,e1⟩:=List.getElem?_eq_some_iff.1 hb
  obtain⟨h2,e2⟩:=List.getElem?_eq_some_iff.1 hb'
  rcases Nat.lt_or_gt_of_ne hij with hlt | hlt
  ·exact hp i j h1 h2 hlt x (by rw[e1];exact hx) y (by rw[e2];exact hy)
  exact fun e=>hp j i h2 h1 hlt y (by rw[e2];exact hy) x (by rw[e1];exact hx) e.symm
 obtain⟨r,hr,hbr⟩:=List.mem_flatMap.1 hm
 exact List.mem_flatMap.2 ⟨r,sub r hr,hbr⟩
def pickS (F:List Sh) (is:List Nat):List Sh:=is.filterMap (F[·]?)
theorem Loc.pickS (h:Loc M w W L F) (is:List Nat):Loc M w W L (pickS F is):=
 ⟨h.chg,h.res,h.blk,h.nd,fun q hq=>by
  obtain⟨i,_,hi⟩:=List.mem_filterMap.1 hq
  exact h.shr q (List.mem_of_getElem? hi)⟩
theorem Loc.read (h:Loc M w W L F) (q:Sh) (hq:q.p W (pT W L)):Loc M w W L (q::F):=
 ⟨h.chg,h.res,h.blk,h.nd,fun q' hq'=>by
  rcases List.mem_cons.1 hq' with rfl | hq'
  ·exact hq
  exact h.shr q' hq'⟩
theorem Loc.sh (h:Loc M w W L F) (i:Nat){q:Sh}(hi:F[i]? =some q):q.p W (pT W L):=h.shr q (List.mem_of_getElem? hi)
end
def Jl:TypeDesc->Bool
 | .struct _ | .array _ _=>true
 | _=>false
def TyA (P:Program) (t:TypeId) (n:Nat):Prop:=∃d i,P.underlying t=some d/\Jl d=true/\P.info? t=some i/\i.size=n
def Ty1 (P:Program) (t:TypeId):Prop:=∃d i,P.underlying t=some d/\Jl d=false/\P.info? t=some i/\i.size=1
def TyZ (P:Program) (t:TypeId) (z:List Value):Prop:=∃i v,P.info? t=some i/\i.zero=some v/\v.cells=z.toArray
def TyN (P:Program) (t:TypeId) (n:Nat):Prop:=∃i,P.info? t=some i/\i.size=n
def TyF (P:Program) (t:TypeId) (f off:Nat):Prop:=∃fs fd i,P.underlying t=some (.struct fs)/\fs[f]? =some fd/\fd.offset=off/\P.info? fd.type=some i/\i.size≠0
def TyFt (P:Program) (t:TypeId) (f off u:Nat):Prop:=∃fs fd,P.underlying t=some (.struct fs)/\fs[f]? =some fd/\fd.offset=off/\fd.type=u
def TyS (P:Program) (t e size:Nat):Prop:=∃i,P.underlying t=some (.slice e)/\P.info? e=some i/\i.size=size
def TyI (P:Program) (t:TypeId) (k:IntKind):Prop:=P.underlying t=some (.int k)
def TyB (P:Program) (t:TypeId):Prop:=P.underlying t=some .bool
def TyP (P:Program) (t:TypeId):Prop:=∃e,P.underlying t=some (.pointer e)
def TyPl (P:Program) (t:TypeId) (pl:List (Nat×Nat)):Prop:=∃fs,P.underlying t=some (.struct fs)/\fs.toList.map (fun(f:Field)=>(f.offset,(P.info? f.type).map (·.size)))=pl.map fun x=>(x.1,some x.2)
def CallOk (P:Program) (f:FuncId):Prop:=∃fn c,P.funcs[f]? =some fn/\(fn.name== "runtime.NumGoroutine")=false/\fn.body=some c
section mk
variable {P:Program}{t:TypeId}
theorem TyA.mk {n:Nat}(h1:(P.underlying t).map Jl=some true) (h2:(P.info? t).map (·.size)=some n):TyA P t n:=by
 obtain⟨d,e1,e2⟩:=Option.map_eq_some_iff.1 h1
 obtain⟨i,e3,e4⟩:=Option.map_eq_some_iff.1 h2
 exact⟨d,i,e1,e2,e3,e4⟩
theorem Ty1.mk (h1:(P.underlying t).map Jl=some false) (h2:(P.info? t).map (·.size)=some 1):Ty1 P t:=by
 obtain⟨d,e1,e2⟩:=Option.map_eq_some_iff.1 h1
 obtain⟨i,e3,e4⟩:=Option.map_eq_some_iff.1 h2
 exact⟨d,i,e1,e2,e3,e4⟩
theorem TyN.mk {n:Nat}(h2:(P.info? t).map (·.size)=some n):TyN P t n:=by
 obtain⟨i,e3,e4⟩:=Option.map_eq_some_iff.1 h2
 exact⟨i,e3,e4⟩
theorem TyZ.mk {z:List Value}(h:(P.info? t).bind (fun i=>i.zero.map (·.cells))=some z.toArray):TyZ P t z:=by
 obtain⟨i,e1,e2⟩:=Option.bind_eq_some_iff.1 h
 obtain⟨v,e3,e4⟩:=Option.map_eq_some_iff.1 e2
 exact⟨i,v,e1,e3,e4⟩
def Dg:TypeDesc->Nat->Option Field
 | .struct fs,f=>fs[f]?
 | _,_=>none
theorem Bj {d:TypeDesc}{f:Nat}{fd:Field}(h:Dg d f=some fd):∃fs,d=.struct fs/\fs[f]? =some fd:=by
 cases d <;> simp[Dg]at h
 exact⟨_,rfl,by simpa using h⟩
theorem TyF.mk {f off:Nat}(h:((P.underlying t).bind (Dg · f)).map (fun fd=>(fd.offset,(P.info? fd.type).map (fun i=>Nat.beq i.size 0)))=some (off,some false)):TyF P t f off:=by
 obtain⟨fd,e1,e2⟩:=Option.map_eq_some_iff.1 h
 obtain⟨d,e3,e4⟩:=Option.bind_eq_some_iff.1 e1
 obtain⟨fs,rfl,e5⟩:=Bj e4
 injection e2 with e6 e7
 obtain⟨i,e8,e9⟩:=Option.map_eq_some_iff.1 e7
 exact⟨fs,fd,i,e3,e5,e6,e8,fun h0=>by rw[h0]at e9;cases e9⟩
theorem TyFt.mk {f off u:Nat}(h:((P.underlying t).bind (Dg · f)).map (fun fd=>(fd.offset,fd.type))=some (off,u)):TyFt P t f off u:=by
 obtain⟨fd,e1,e2⟩:=Option.map_eq_some_iff.1 h
 obtain⟨d,e3,e4⟩:=Option.bind_eq_some_iff.1 e1
 obtain⟨fs,rfl,e5⟩:=Bj e4
 injection e2 with e6 e7
 exact⟨fs,fd,e3,e5,e6,e7⟩
def Oj:TypeDesc->Option (Array Field)
 | .struct fs=>some fs
 | _=>none
theorem TyPl.mk {pl:List (Nat×Nat)}(h:((P.underlying t).bind Oj).map (fun fs=>fs.toList.map (fun(f:Field)=>(f.offset,(P.info? f.type).map (·.size))))=some (pl.map fun x=>(x.1,some x.2))):TyPl P t pl:=by
 obtain⟨fs,e1,e2⟩:=Option.map_eq_some_iff.1 h
 obtain⟨d,e3,e4⟩:=Option.bind_eq_some_iff.1 e1
 cases d <;> simp[Oj]at e4
 subst e4
 exact⟨_,e3,e2⟩
def Tu:TypeDesc->Option TypeId
 | .slice e=>some e
 | _=>none
theorem TyS.mk {e size:Nat}(h1:(P.underlying t).bind Tu=some e) (h2:(P.info? e).map (·.size)=some size):TyS P t e size:=by
 obtain⟨d,e3,e4⟩:=Option.bind_eq_some_iff.1 h1
 obtain⟨i,e5,e6⟩:=Option.map_eq_some_iff.1 h2
 cases d <;> simp[Tu]at e4
 subst e4
 exact⟨i,e3,e5,e6⟩
def RM:TypeDesc->Bool
 | .pointer _=>true
 | _=>false
theorem TyP.mk (h:(P.underlying t).map RM=some true):TyP P t:=by
 obtain⟨d,e1,e2⟩:=Option.map_eq_some_iff.1 h
 cases d <;> simp[RM]at e2
 exact⟨_,e1⟩
theorem TyI.mk {k:IntKind}(h:P.underlying t=some (.int k)):TyI P t k:=h
theorem TyB.mk (h:P.underlying t=some .bool):TyB P t:=h
theorem CallOk.mk {f:FuncId}{fn:Func}(hf:P.funcs[f]? =some fn) (hn:(fn.name== "runtime.NumGoroutine")=false) (hb:fn.body.isSome=true):CallOk P f:=by
 obtain⟨c,hc⟩:=Option.isSome_iff_exists.1 hb
 exact⟨fn,c,hf,hn,hc⟩
end mk
def zD (w:World) (ad:Addr) (us:List Value):Prop:=∀j u,us[j]? =some u->w.cell? (ad.add j)=some u
def box (b:Nat) (vs:List Value):Res where
 S:=[b]
 φ:=fun W=>∃T,W.heap[b]? =some (.cells vs.toArray T (0,0))
 loc:=fun W W' h ⟨T,hT⟩=>⟨T,(h b (by simp)).trans hT⟩
theorem kM (b o j:Nat):(⟨b,o,none⟩:Addr).add j=⟨b,o+j,none⟩:=by
 unfold Addr.add
 split
 ·simp_all
 rfl
section
variable {P:Program}{w:World}{ρ:Operand->Value}{d:Option Tmp}{ty:TypeId}{pos:String}{af:Array Edge}{gd:Option (Nat×Bool)}
theorem wD {t:TypeId}{dd:TypeDesc}{b:Bool}(h:P.underlying t=some dd) (hd:Jl dd=b) (w:World):(isAgg t).run P w=.ok b w:=by
 unfold isAgg
 rw[Sem.run_bind,run_underlying h w]
 subst hd
 cases dd <;> simp[Jl]
theorem FG {T n:Nat}{ad:Addr}{us:List Value}(hT:TyA P T n) (hc:zD w ad us) (hl:us.length=n):(loadVar T ad).run P w=.ok (.agg us.toArray) w:=by
 obtain⟨dd,i,h1,h2,h3,h4⟩:=hT
 have e:i.size=us.length:=by omega
 simp[loadVar,wD h1 h2,sizeOf,typeInfo,h3,e,run_loadCells_list w ad us hc]
theorem FH {T:Nat}{ad:Addr}{u:Value}(hT:Ty1 P T) (hc:zD w ad [u]):(loadVar T ad).run P w=.ok u w:=by
 obtain⟨dd,i,h1,h2,h3,h4⟩:=hT
 have h:=hc 0 u rfl
 have e0:ad.add 0=ad:=by simp[Addr.add]
 rw[e0]at h
 simp[loadVar,wD h1 h2,run_load,h]
theorem MA {x:Operand}{v:Value}(hx:ρ x=v):(execOp ρ ⟨d,.move x,ty,pos,af,gd⟩).run P w=.ok (.value v) w:=by simp[execOp,hx]
theorem AB {x:Operand}{v:Value}(hx:ρ x=v):(execOp ρ ⟨d,.assign x,ty,pos,af,gd⟩).run P w=.ok (.value v) w:=by simp[execOp,hx]
theorem Tv {c x y:Operand}{b:Bool}{v:Value}(hc:ρ c=.bool b) (hx:(if b then ρ x else ρ y)=v):(execOp ρ ⟨d,.pick c x y,ty,pos,af,gd⟩).run P w=.ok (.value v) w:=by
 subst hx
 cases b <;> simp[execOp,hc,asBool]
theorem Ff {T n:Nat}{x:Operand}{ad:Addr}{us:List Value}(hT:TyA P T n) (hx:ρ x=.pointer (some ad)) (hc:zD w ad us) (hl:us.length=n):(execOp ρ ⟨d,.load T x,ty,pos,af,gd⟩).run P w=.ok (.value (.agg us.toArray)) w:=by
 simp[execOp,hx,Instr.loadAt,Instr.sureAddr,FG hT hc hl]
theorem Fg {T:Nat}{x:Operand}{ad:Addr}{u:Value}(hT:Ty1 P T) (hx:ρ x=.pointer (some ad)) (hc:zD w ad [u]):(execOp ρ ⟨d,.load T x,ty,pos,af,gd⟩).run P w=.ok (.value u) w:=by
 simp[execOp,hx,Instr.loadAt,Instr.sureAddr,FH hT hc]
theorem Ok {T f off b o:Nat}{x:Operand}(hT:TyF P T f off) (hx:ρ x=.pointer (some ⟨b,o,none⟩)):(execOp ρ ⟨d,.fieldAddr T x f,ty,pos,af,gd⟩).run P w=.ok (.value (.pointer (some ⟨b,o+off,none⟩))) w:=by
 obtain⟨fs,fd,i,h1,h2,h3,h4,h5⟩:=hT
 simp[execOp,hx,Instr.fieldAt,run_underlying h1,h2,Instr.sureAddr,fieldPlace,sizeOf,typeInfo,h4,h5,h3,kM]
theorem ZP {T off:Nat}{cs:List Value}{u:Value}(hT:Ty1 P T) (h:cs[off]? =some u):(part T cs.toArray off).run P w=.ok u w:=by
 obtain⟨dd,i,h1,h2,h3,h4⟩:=hT
 simp[part,wD h1 h2,h]
theorem ZQ {T off n:Nat}{cs us:List Value}(hT:TyA P T n) (h:(cs.drop off).take n=us):(part T cs.toArray off).run P w=.ok (.agg us.toArray) w:=by
 obtain⟨dd,i,h1,h2,h3,h4⟩:=hT
 subst h
 simp[part,wD h1 h2,sizeOf,typeInfo,h3,h4,List.extract_eq_take_drop]
theorem AC {T f off u:Nat}{x:Operand}{cs:List Value}{v:Value}(hT:TyFt P T f off u) (hu:Ty1 P u) (hx:ρ x=.agg cs.toArray) (h:cs[off]? =some v):(execOp ρ ⟨d,.field T x f,ty,pos,af,gd⟩).run P w=.ok (.value v) w:=by
 obtain⟨fs,fd,h1,h2,h3,h4⟩:=hT
 subst h3 h4
 simp[execOp,hx,Instr.field,run_underlying h1,h2,asAgg,ZP hu h]
theorem AD {T f off u n:Nat}{x:Operand}{cs us:List Value}(hT:TyFt P T f off u) (hu:TyA P u n) (hx:ρ x=.agg cs.toArray) (h:(cs.drop off).take n=us):(execOp ρ ⟨d,.field T x f,ty,pos,af,gd⟩).run P w=.ok (.value (.agg us.toArray)) w:=by
 obtain⟨fs,fd,h1,h2,h3,h4⟩:=hT
 subst h3 h4
 simp[execOp,hx,Instr.field,run_underlying h1,h2,asAgg,ZQ hu h]
theorem Ol {t e size n c:Nat}{x ix:Operand}{ad:Addr}{k:IntKind}{i:Int}(hT:TyS P t e size) (hx:ρ x=.slice (some ad) n c) (hi:ρ ix=.int k i) (h0:0<=i) (h1:i<n):
  (execOp ρ ⟨d,.indexAddr t x ix,ty,pos,af,gd⟩).run P w=.ok (.value (.pointer (some (ad.add (i.toNat*size))))) w:=by
 obtain⟨ii,e1,e2,e3⟩:=hT
 simp[execOp,hx,hi,Instr.indexAt,asIntOf,run_underlying e1,h0,h1,sizeOf,typeInfo,e2,e3]
theorem RN {t e size n c:Nat}{x:Operand}{A:Option Addr}(hT:TyS P t e size) (hx:ρ x=.slice A n c):
  (execOp ρ ⟨d,.call {callee:=.builtin .len,args:= #[x],argTypes:= #[t]},ty,pos,af,gd⟩).run P w=.ok (.value (.int .i64 n)) w:=by
 obtain⟨ii,e1,e2,e3⟩:=hT
 simp[execOp,resolve,invoke,builtin,hx,Builtin.len_,run_underlying e1,goInt]
theorem xD {x:Operand}{ad:Addr}(hx:ρ x=.pointer (some ad)):(execOp ρ ⟨d,.nilCheck x,ty,pos,af,gd⟩).run P w=.ok (.value (.pointer (some ad))) w:=by
 simp[execOp,hx]
theorem Xh {x:Operand}{vs:List Value}{i:Nat}{v:Value}(hx:ρ x=.tuple vs.toArray) (h:vs[i]? =some v):(execOp ρ ⟨d,.extract x i,ty,pos,af,gd⟩).run P w=.ok (.value v) w:=by
 simp[execOp,hx,Instr.extract,h]
section ints
variable {t t2:TypeId}{x y:Operand}{k:IntKind}{a b z:Int}
theorem RP (hx:ρ x=.int k a) (hy:ρ y=.int k b) (hz:k.wrap (a+b)=z):(execOp ρ ⟨d,.binOp .add t x y t2,ty,pos,af,gd⟩).run P w=.ok (.value (.int k z)) w:=by simp[execOp,hx,hy,eqGuard,binOp,Op.intArith,hz]
theorem RQ (hx:ρ x=.int k a) (hy:ρ y=.int k b) (hz:k.wrap (a-b)=z):(execOp ρ ⟨d,.binOp .sub t x y t2,ty,pos,af,gd⟩).run P w=.ok (.value (.int k z)) w:=by simp[execOp,hx,hy,eqGuard,binOp,Op.intArith,hz]
theorem RR (hx:ρ x=.int k a) (hy:ρ y=.int k b) (hz:k.wrap (a*b)=z):(execOp ρ ⟨d,.binOp .mul t x y t2,ty,pos,af,gd⟩).run P w=.ok (.value (.int k z)) w:=by simp[execOp,hx,hy,eqGuard,binOp,Op.intArith,hz]
theorem RS (hx:ρ x=.int k a) (hy:ρ y=.int k b) (h0:b≠0) (hz:k.wrap (a.tdiv b)=z):(execOp ρ ⟨d,.binOp .quo t x y t2,ty,pos,af,gd⟩).run P w=.ok (.value (.int k z)) w:=by simp[execOp,hx,hy,eqGuard,binOp,Op.intDiv,h0,hz]
theorem RT (hx:ρ x=.int k a) (hy:ρ y=.int k b) (h0:b≠0) (hz:a.tmod b=z):(execOp ρ ⟨d,.binOp .rem t x y t2,ty,pos,af,gd⟩).run P w=.ok (.value (.int k z)) w:=by simp[execOp,hx,hy,eqGuard,binOp,Op.intDiv,h0,hz]
theorem RU (hx:ρ x=.int k a) (hy:ρ y=.int k b){q:Bool}(hz:decide (a<b)=q):(execOp ρ ⟨d,.binOp .lss t x y t2,ty,pos,af,gd⟩).run P w=.ok (.value (.bool q)) w:=by simp[execOp,hx,hy,eqGuard,binOp,Op.intCmp,hz]
theorem RW (hx:ρ x=.int k a) (hy:ρ y=.int k b){q:Bool}(hz:decide (a<=b)=q):(execOp ρ ⟨d,.binOp .leq t x y t2,ty,pos,af,gd⟩).run P w=.ok (.value (.bool q)) w:=by simp[execOp,hx,hy,eqGuard,binOp,Op.intCmp,hz]
theorem RX (hx:ρ x=.int k a) (hy:ρ y=.int k b){q:Bool}(hz:decide (b<a)=q):(execOp ρ ⟨d,.binOp .gtr t x y t2,ty,pos,af,gd⟩).run P w=.ok (.value (.bool q)) w:=by simp[execOp,hx,hy,eqGuard,binOp,Op.intCmp,<-hz,GT.gt]
theorem RY (hx:ρ x=.int k a) (hy:ρ y=.int k b){q:Bool}(hz:decide (b<=a)=q):(execOp ρ ⟨d,.binOp .geq t x y t2,ty,pos,af,gd⟩).run P w=.ok (.value (.bool q)) w:=by simp[execOp,hx,hy,eqGuard,binOp,Op.intCmp,<-hz,GE.ge]
theorem RZ (hx:ρ x=.int k a) (hy:ρ y=.int k b){q:Bool}(hz:decide (a=b)=q):(execOp ρ ⟨d,.binOp .eql t x y t2,ty,pos,af,gd⟩).run P w=.ok (.value (.bool q)) w:=by
 subst hz
 have e:(a==b)=decide (a=b):=by rw[Bool.eq_iff_iff];simp
 simp[execOp,hx,hy,eqGuard,binOp,Op.intCmp,e]
theorem SA (hx:ρ x=.int k a) (hy:ρ y=.int k b){q:Bool}(hz:decide (a≠b)=q):(execOp ρ ⟨d,.binOp .neq t x y t2,ty,pos,af,gd⟩).run P w=.ok (.value (.bool q)) w:=by
 subst hz
 have e:(a != b)=decide (a≠b):=by rw[Bool.eq_iff_iff];simp
 simp[execOp,hx,hy,eqGuard,binOp,Op.intCmp,e]
theorem Gv {p q:Bool}(hT:TyB P t):(Op.equal t (.bool p) (.bool q)).run P w=.ok (p==q) w:=by
 show(Op.equalIn (9999+1) t (.bool p) (.bool q)).run P w=_
 rw[Op.equalIn]
 simp only[Sem.run_bind,run_underlying hT,Result.andThen_ok]
 rfl
theorem Ld {A:Option Addr}(hT:TyP P t):(Op.equal t (.pointer A) (.pointer none)).run P w=.ok A.isNone w:=by
 obtain⟨e,he⟩:=hT
 show(Op.equalIn (9999+1) t (.pointer A) (.pointer none)).run P w=_
 rw[Op.equalIn]
 simp only[Sem.run_bind,run_underlying he,Result.andThen_ok]
 cases A <;> rfl
theorem MB {p q r:Bool}(hT:TyB P t) (hx:ρ x=.bool p) (hy:ρ y=.bool q) (hz:(p==q)=r):(execOp ρ ⟨d,.binOp .eql t x y t2,ty,pos,af,gd⟩).run P w=.ok (.value (.bool r)) w:=by
 simp only[execOp,hx,hy,eqGuard_at_bool,binOp,Sem.run_bind,Sem.run_pure,Result.andThen_ok,Gv hT,hz]
theorem MC {p q r:Bool}(hT:TyB P t) (hx:ρ x=.bool p) (hy:ρ y=.bool q) (hz:(p != q)=r):(execOp ρ ⟨d,.binOp .neq t x y t2,ty,pos,af,gd⟩).run P w=.ok (.value (.bool r)) w:=by
 have e:(!(p==q))=r:=hz
 simp only[execOp,hx,hy,eqGuard_at_bool,binOp,Sem.run_bind,Sem.run_pure,Result.andThen_ok,Gv hT,e]
theorem Fh {A:Option Addr}(hT:TyP P t) (hx:ρ x=.pointer A) (hy:ρ y=.pointer none):(execOp ρ ⟨d,.binOp .eql t x y t2,ty,pos,af,gd⟩).run P w=.ok (.value (.bool A.isNone)) w:=by
 simp only[execOp,hx,hy,eqGuard_at_pointer,binOp,Sem.run_bind,Sem.run_pure,Result.andThen_ok,Ld hT]
theorem Fi {A:Option Addr}(hT:TyP P t) (hx:ρ x=.pointer A) (hy:ρ y=.pointer none):(execOp ρ ⟨d,.binOp .neq t x y t2,ty,pos,af,gd⟩).run P w=.ok (.value (.bool A.isSome)) w:=by
 simp only[execOp,hx,hy,eqGuard_at_pointer,binOp,Sem.run_bind,Sem.run_pure,Result.andThen_ok,Ld hT]
 cases A <;> rfl
theorem SB {p q:Bool}(hx:ρ x=.bool p) (hz:(!p)=q):(execOp ρ ⟨d,.unOp .not t x,ty,pos,af,gd⟩).run P w=.ok (.value (.bool q)) w:=by simp[execOp,hx,Op.unary,hz]
theorem SC (hx:ρ x=.int k a) (hz:k.wrap (0-a)=z):(execOp ρ ⟨d,.unOp .neg t x,ty,pos,af,gd⟩).run P w=.ok (.value (.int k z)) w:=by simp[execOp,hx,Op.unary,Op.intArith,<-hz]
theorem MD {k':IntKind}(hs:TyI P t k) (hd:TyI P t2 k') (hx:ρ x=.int k a) (hz:k'.wrap a=z):(execOp ρ ⟨d,.convert t t2 x,ty,pos,af,gd⟩).run P w=.ok (.value (.int k' z)) w:=by
 simp[execOp,hx,convert,run_underlying hs,run_underlying hd,Conv.intToInt,hz]
theorem ME (hx:ρ x=.int k a) (hy:ρ y=.int k b){ts:Array TypeId}(hz:(if b>a then b else a)=z):(execOp ρ ⟨d,.call {callee:=.builtin .max,args:= #[x,y],argTypes:=ts},ty,pos,af,gd⟩).run P w=.ok (.value (.int k z)) w:=by
 simp[execOp,resolve,invoke,builtin,hx,hy,Builtin.max_,Builtin.max2,<-hz]
theorem MF (hx:ρ x=.int k a) (hy:ρ y=.int k b){ts:Array TypeId}(hz:(if b<a then b else a)=z):(execOp ρ ⟨d,.call {callee:=.builtin .min,args:= #[x,y],argTypes:=ts},ty,pos,af,gd⟩).run P w=.ok (.value (.int k z)) w:=by
 simp[execOp,resolve,invoke,builtin,hx,hy,Builtin.min_,Builtin.min2,<-hz]
end ints
end
theorem AE (w:World) (o:Obj):Below w.heap.size w (w.alloc o):=(Below.refl _ _).alloc (aX _) _
section
variable {P:Program}{ops:Array Oper}{Q:Exit->Act->World->Prop}{K:Act->World->Prop}{rest:List Oper}{o:Oper}{a:Act}{w:World}{id id':Nat}
theorem ls (hg:o.guard=none) (h:o.wp P a w (wpList P ops Q rest) Q):wpList P ops Q (o::rest) a w:=by
 unfold wpList
 rw[if_pos (by simp[Region.wanted,hg])]
 exact .inl h
theorem Bk (hg:Region.wanted o (yielded ops a.tmps)=true) (h:o.wp P a w (wpList P ops Q rest) Q):wpList P ops Q (o::rest) a w:=by
 unfold wpList
 rw[if_pos hg]
 exact .inl h
theorem ZR (hg:Region.wanted o (yielded ops a.tmps)=false) (h:wpList P ops Q rest (a.put o.dst undef) w):wpList P ops Q (o::rest) a w:=by
 unfold wpList
 rw[hg]
 simpa using h
theorem eN {v:Value}{w':World}(h:(execOp a.eval o).run P w=.ok (.value v) w') (k:K (a.put o.dst v) w'):o.wp P a w K Q:=by
 unfold Oper.wp
 rw[h]
 exact k
section steps
variable {ts:Array Value}{n:Nat}{g:Nat->Value}{ds:List Deferred}{d:Nat}{op:Op}{ty:TypeId}{pos:String}{af:Array Edge}{gd:Option (Nat×Bool)}
variable {M:List Nat}{w0 W:World}{L:List Res}{F:List Sh}
def sN (vs:List Value) (o:Nat) (us:List Value):List Value:=vs.take o++us++vs.drop (o+us.length)
def row (t:TypeId) (size:Nat) (v:Value) (m:Nat) (cells:List Value):Res where
 S:=v.ownBlock.toList
 φ:=fun W=>W.ownsRow 0 t size v m cells
 loc:=fun W W' h hφ=>by
  refine⟨hφ.1,?_⟩
  rcases hφ.2 with h2 | ⟨g,cap,cur,hv,hb,hh,rest⟩
  ·exact .inl h2
  exact .inr ⟨g,cap,cur,hv,hb,(h g (by subst hv;simp[Value.ownBlock])).trans hh,rest⟩
end steps
def xR (P:Program) (ops:Array Oper) (Q:Exit->Act->World->Prop) (S:World->Prop) (late:Nat->Bool):Nat->Array Bool->Act->World->Prop
 | 0,listed,a,w=>Region.ready .any ops listed=[]/\Q .normal a w
 | fuel+1,listed,a,w=>
  (Region.ready .any ops listed=[]->Q .normal a w)/\
  ∀i∈Region.ready .any ops listed,wpOp P ops Q i (fun a' w'=>(late i=false->S w')/\xR P ops Q S late fuel (listed.setIfInBounds i true) a' w') a w
section drawn
variable {S:World->Prop}{late:Nat->Bool}
theorem Gw:∀(fuel:Nat) (listed:Array Bool) (a:Act) (w:World),xR P ops Q S late fuel listed a w->wpAny P .any ops Q fuel listed a w
 | 0,_,_,_,h=>h
 | fuel+1,_,_,_,h=>⟨h.1,fun i hi=>wpOp_mono (fun a' w' h'=>Gw fuel _ a' w' h'.2) (h.2 i hi)⟩
theorem Ta {a:Act}{w:World}(S:World->Prop) (late:Nat->Bool) (hm:P.follows .mixedOrders=true) (h:xR P ops Q S late ops.size (Array.replicate ops.size false) a w.drew):(Code.region id ops true).wp P Q a w:=
 wp_region_any hm (Gw _ _ _ _ h)
theorem Bl {i:Nat}{oi:Oper}{v:Value}(hi:ops[i]? =some oi) (hsel:∀(j:Nat) (o:Oper) cs b,ops[j]? =some o->o.op≠.select cs b)
  (hQ:∀c a w,Q (.panic c) (a.put oi.dst v) w->Q (.panic c) a w)
  (hlate:∀j oj,ops[j]? =some oj->late j=true->∃e∈oj.after,Region.binds .any e=true/\e.on=i):
  ∀(fuel:Nat) (listed:Array Bool) (a:Act) (w:World),
   (∀j oj,ops[j]? =some oj->j≠i->listed.getD j true=false->(∀e∈oj.after,Region.binds .any e=true->e.on≠i)->oi.apart ops oj=true)->
   i∈Region.ready .any ops listed->YieldsIf P ops S oi v a->S w->
   xR P ops Q S late fuel (listed.setIfInBounds i true) (a.put oi.dst v) w->xR P ops Q S late (fuel+1) listed a w:=by
 intro fuel
 induction fuel with
 | zero=>
  intro listed a w _ hr hy hS H
  refine⟨fun h=>(by rw[h]at hr;cases hr),fun j hj=>?_⟩
  by_cases hji:j=i
  ·subst hji;exact hy.wpOp hi hS ⟨fun _=>hS,H⟩
  have:=ready_mono hj hji
  rw[H.1]at this
  cases this
 | succ fuel ih=>
  intro listed a w hfree hr hy hS H
  refine⟨fun h=>(by rw[h]at hr;cases hr),fun j hj=>?_⟩
  by_cases hji:j=i
  ·subst hji;exact hy.wpOp hi hS ⟨fun _=>hS,H⟩
  have h1:=H.2 j (ready_mono hj hji)
  obtain⟨hjun,oj,hoj,hall⟩:=mem_ready.1 hj
  have hnot:∀e∈oj.after,Region.binds .any e=true->e.on≠i:=fun e he hb heq=>by
   have h1:=hall e he hb
   have h0:=(mem_ready.1 hr).1
   rw[heq]at h1
   rcases Nat.lt_or_ge i listed.size with h' | h'
   ·simp[h']at h0 h1;rw[h0]at h1;cases h1
   simp[Array.getElem?_eq_none h']at h1
  have hl:late j=false:=by
   cases hlj:late j
   ·rfl
   obtain⟨e,he,hb,hon⟩:=hlate j oj hoj hlj
   exact absurd hon (hnot e he hb)
  have h2:=wpOp_putIf hoj (hfree j oj hoj hji hjun hnot) (fun cs b=>hsel i oi cs b hi) (fun cs b=>hsel j oj cs b hoj) hQ hy h1
  have hfree':∀k ok,ops[k]? =some ok->k≠i->(listed.setIfInBounds j true).getD k true=false->
    (∀e∈ok.after,Region.binds .any e=true->e.on≠i)->oi.apart ops ok=true:=fun k ok hk hki hun hno=>by
   refine hfree k ok hk hki ?_ hno
   by_cases hjk:j=k
   ·subst hjk;exact hjun
   rw[getD_set_ne true hjk]at hun;exact hun
  refine wpOp_mono (fun a' w' h3=>⟨fun _=>h3.2.1 hl,ih (listed.setIfInBounds j true) a' w' hfree' (ready_mono hr (Ne.symm hji)) h3.1 (h3.2.1 hl) ?_⟩) h2
  rw[Array.setIfInBounds_comm _ _ hji]
  exact h3.2.2
def Tw (ops:Array Oper) (late:Nat->Bool) (i:Nat):Bool:=(List.range ops.size).all fun j=> !late j ||((ops[j]?).map (·.after.any fun e=>Region.binds .any e&&Nat.beq e.on i)).getD true
theorem vG {i:Nat}(h:Tw ops late i=true) (j:Nat) (oj:Oper) (hj:ops[j]? =some oj) (hl:late j=true):∃e∈oj.after,Region.binds .any e=true/\e.on=i:=by
 have h1:=List.all_eq_true.1 h j (List.mem_range.2 (Array.getElem?_eq_some_iff.1 hj).1)
 simp only[hj,hl,Option.map_some,Option.getD_some,Bool.not_true,Bool.false_or]at h1
 obtain⟨e,he,hb⟩:=Array.any_eq_true'.1 h1
 rw[Bool.and_eq_true]at hb
 exact⟨e,he,hb.1,Nat.eq_of_beq_eq_true hb.2⟩
theorem aBJ {i:Nat}{o:Oper}{K:Act->World->Prop}(hi:ops[i]? =some o) (hw:Region.wanted o (yielded ops a.tmps)=true) (h:o.wp P a w K Q):wpOp P ops Q i K a w:=by
 unfold wpOp
 simp only[hi,hw,if_true]
 exact .inl h
theorem ZS {i fuel:Nat}{listed:Array Bool}(hr:Region.ready .any ops listed=[i])
  (h:wpOp P ops Q i (fun a' w'=>(late i=false->S w')/\xR P ops Q S late fuel (listed.setIfInBounds i true) a' w') a w):xR P ops Q S late (fuel+1) listed a w:=
 ⟨fun h0=>(by rw[hr]at h0;cases h0),fun j hj=>(by rw[hr]at hj;rw[List.mem_singleton]at hj;subst hj;exact h)⟩
theorem ZT {i j fuel:Nat}{listed:Array Bool}(hr:Region.ready .any ops listed=[i,j])
  (h:wpOp P ops Q i (fun a' w'=>(late i=false->S w')/\xR P ops Q S late fuel (listed.setIfInBounds i true) a' w') a w)
  (h2:wpOp P ops Q j (fun a' w'=>(late j=false->S w')/\xR P ops Q S late fuel (listed.setIfInBounds j true) a' w') a w):xR P ops Q S late (fuel+1) listed a w:=
 ⟨fun h0=>(by rw[hr]at h0;cases h0),fun k hk=>(by
  rw[hr]at hk
  rcases List.mem_cons.1 hk with rfl | hk
  ·exact h
  rw[List.mem_singleton]at hk;subst hk;exact h2)⟩
theorem SD {fuel:Nat}{listed:Array Bool}(hr:Region.ready .any ops listed=[]) (h:Q .normal a w):xR P ops Q S late fuel listed a w:=by
 cases fuel with
 | zero=>exact⟨hr,h⟩
 | succ f=>exact⟨fun _=>h,by rw[hr];simp⟩
end drawn
theorem FI {c:Code}(I:Nat->Act->World->Prop) (n:Nat) (h0:I n a w)
  (round:∀n a w,I n a w->c.wp P (Exit.then (fun a' w'=>∃m,m<n/\I m a' w') Q) a w):(Code.loop c).wp P Q a w:=by
 intro b k cs
 have key:∀n a w,I n a w->∃e a' w',Q e a' w'/\Arrives P (lone (b.at a (.code c::.inLoop c::k)) cs w) b k cs e a' w':=by
  intro n
  induction n using Nat.strongRecOn with
  | _ n ih=>
   intro a w hI
   obtain⟨e,a₁,w₁,hq,harr⟩:=round n a w hI b (.inLoop c::k) cs
   cases e with
   | normal=>
    obtain⟨m,hlt,hI₁⟩:=hq
    obtain⟨e₂,a₂,w₂,hq₂,harr₂⟩:=ih m hlt a₁ w₁ hI₁
    exact⟨e₂,a₂,w₂,hq₂,.of_steps (Steps.trans harr (.one step_inLoop)) harr₂⟩
   | exit id=>exact⟨_,a₁,w₁,hq,.pass (x:=.inLoop c) rfl (fun _ _=>.inl (by simp)) harr⟩
   | goto l=>exact⟨_,a₁,w₁,hq,.pass (x:=.inLoop c) rfl (fun _ _=>.inl (by simp)) harr⟩
   | ret=>exact⟨_,a₁,w₁,hq,.pass (x:=.inLoop c) rfl (fun _ _=>.inl (by simp)) harr⟩
   | panic ch=>exact⟨_,a₁,w₁,hq,.pass (x:=.inLoop c) rfl (fun _ _=>.inl (by simp)) harr⟩
   | outgrown=>exact⟨_,a₁,w₁,hq,.pass (x:=.inLoop c) rfl (fun _ _=>.inl (by simp)) harr⟩
 obtain⟨e,a',w',hq,harr⟩:=key n a w h0
 exact⟨e,a',w',hq,.of_steps (.one step_loop) harr⟩
def RV (P:Program) (ts:Array Value) (w:World):ResultVar->Value->Prop
 | .tmp t,v=>ts[t]? =some v
 | .cell t T,v=>∃ad,ts[t]? =some (.pointer (some ad))/\(loadVar T ad).run P w=.ok v w
end
def lL (pl:Nat->Option (Nat×Nat)) (cells:List Value):List (Nat×Value)->Option (List Value)
 | []=>some cells
 | (i,v)::rest=>match pl i with
  | none=>none
  | some (off,size)=>bif Nat.beq v.cells.toList.length size&&Nat.ble (off+v.cells.toList.length) cells.length then lL pl (sN cells off v.cells.toList) rest else none
theorem Om (off:Nat):∀(vs:List Value) (k:Nat) (cs:Array Value),off+k+vs.length<=cs.size->
  ((vs.zipIdx k).foldl (fun cs (x:Value×Nat)=>cs.setIfInBounds (off+x.2) x.1) cs).toList=cs.toList.take (off+k)++vs++cs.toList.drop (off+k+vs.length)
 | [],k,cs,_=>by simp
 | v::vs,k,cs,h=>by
  simp only[List.length_cons]at h
  rw[List.zipIdx_cons,List.foldl_cons]
  rw[Om off vs (k+1) _ (by simp;omega)]
  have hl:off+k<cs.toList.length:=by simp;omega
  apply List.ext_getElem?
  intro j
  simp only[Array.toList_setIfInBounds,List.getElem?_append,cJ,dU,List.length_set,List.length_cons,List.getElem?_take,List.getElem?_drop,List.getElem?_set]
  have e1:min (off+(k+1)) cs.toList.length=off+k+1:=by omega
  have e2:min (off+k) cs.toList.length=off+k:=by omega
  rw[e1,e2]
  by_cases h1:j<off+k
  ·have a1:j<off+k+1+vs.length:=by omega
   have a2:j<off+k+1:=by omega
   have a3:j<off+k+(vs.length+1):=by omega
   have a4:j<off+(k+1):=by omega
   have a5:¬off+k=j:=by omega
   simp[a1,a2,a3,a4,h1,a5]
  by_cases h2:j=off+k
  ·subst h2
   have a1:off+k<off+k+1+vs.length:=by omega
   have a3:off+k<off+k+(vs.length+1):=by omega
   have a6:off+k<cs.size:=by simpa using hl
   simp[a1,a3,a6]
  by_cases h3:j<off+k+1+vs.length
  ·have a2:¬j<off+k+1:=by omega
   have a3:j<off+k+(vs.length+1):=by omega
   obtain⟨m,rfl⟩:∃m,j=off+k+1+m:=⟨j-(off+k+1),by omega⟩
   have a4:off+k+1+m-(off+k+1)=m:=by omega
   have a5:off+k+1+m-(off+k)=m+1:=by omega
   rw[if_pos h3,if_neg a2,if_pos a3,if_neg h1,a4,a5]
   rfl
  have a3:¬j<off+k+(vs.length+1):=by omega
  rw[if_neg h3,if_neg a3]
  have a4:¬off+k=off+(k+1)+vs.length+(j-(off+k+1+vs.length)):=by omega
  rw[if_neg a4]
  congr 1
  omega
theorem Dh (pl:Nat->Option (Nat×Nat)):∀(ps:List (Nat×Value)) (cells:List Value) (us:List Value),lL pl cells ps=some us->Instr.fill pl cells.toArray ps=some us.toArray
 | [],cells,us,h=>by
  simp[lL]at h
  simp[Instr.fill,h]
 | (i,v)::rest,cells,us,h=>by
  unfold lL at h
  unfold Instr.fill
  cases hp:pl i with
  | none=>rw[hp]at h;cases h
  | some x=>
   obtain⟨off,size⟩:=x
   rw[hp]at h
   dsimp only at h⊢
   cases hb:(Nat.beq v.cells.toList.length size&&Nat.ble (off+v.cells.toList.length) cells.length)with
   | false=>rw[hb]at h;cases h
   | true=>
    rw[hb]at h
    rw[Bool.and_eq_true]at hb
    have e1:v.cells.toList.length=size:=Nat.eq_of_beq_eq_true hb.1
    have e2:off+v.cells.toList.length<=cells.length:=Kz hb.2
    have ih:=Dh pl rest _ us h
    have hc:¬(v.cells.size≠size\/off+v.cells.size>cells.toArray.size):=by
     simp at e1 e2⊢
     omega
    have hfold:(v.cells.zipIdx.foldl (fun cs (x:Value×Nat)=>cs.setIfInBounds (off+x.2) x.1) cells.toArray)=(sN cells off v.cells.toList).toArray:=by
     apply Array.ext'
     have:=Om off v.cells.toList 0 cells.toArray (by simpa using e2)
     rw[<-Array.foldl_toList,Array.toList_zipIdx]
     rw[this]
     simp[sN]
    have hc':(v.cells.size≠size || decide (off+v.cells.size>cells.toArray.size))=false:=by
     simp at hc⊢
     exact hc
    simp only[hc',Bool.false_eq_true,if_false]
    rw[<-ih,<-hfold]
section
variable {P:Program}{w:World}{ρ:Operand->Value}{d:Option Tmp}{ty:TypeId}{pos:String}{af:Array Edge}{gd:Option (Nat×Bool)}
theorem Xi {fs:List Field}{pl:List (Nat×Nat)}(h:fs.map (fun(f:Field)=>(f.offset,(P.info? f.type).map (·.size)))=pl.map fun x=>(x.1,some x.2)) (w:World):
  (fs.mapM fun(f:Field)=>do pure (f.offset,<-sizeOf f.type):Sem (List (Nat×Nat))).run P w=.ok pl w:=by
 induction fs generalizing pl with
 | nil=>
  cases pl with
  | nil=>simp
  | cons x pl=>simp at h
 | cons f fs ih=>
  cases pl with
  | nil=>simp at h
  | cons x pl=>
   simp only[List.map_cons,List.cons.injEq,Prod.mk.injEq]at h
   obtain⟨⟨h1,h2⟩,h3⟩:=h
   obtain⟨i,e1,e2⟩:=Option.map_eq_some_iff.1 h2
   have:=ih h3
   have hs:∀w:World,(sizeOf f.type).run P w=.ok i.size w:=fun w=>by simp[sizeOf,typeInfo,e1]
   rw[List.mapM_cons]
   simp only[Sem.run_bind,hs,Result.andThen_ok,Sem.run_pure]
   rw[this]
   simp[h1,e2]
theorem FJ {T:Nat}{pl:List (Nat×Nat)}{z us:List Value}{parts:Array (Nat×Operand)}{ps:List (Nat×Value)}(hP:TyPl P T pl) (hZ:TyZ P T z) (hps:(parts.map fun x=>(x.1,ρ x.2))=ps.toArray) (hf:lL (fun i=>pl[i]?) z ps=some us):
  (execOp ρ ⟨d,.build T parts,ty,pos,af,gd⟩).run P w=.ok (.value (.agg us.toArray)) w:=by
 obtain⟨fs,h1,h2⟩:=hP
 obtain⟨i,v,h3,h4,h5⟩:=hZ
 have hm:=Xi h2 w
 have hf':=Dh _ ps z us hf
 have hm':(fs.mapM fun(f:Field)=>do pure (f.offset,<-sizeOf f.type):Sem (Array (Nat×Nat))).run P w=.ok pl.toArray w:=by
  rw[Array.mapM_eq_mapM_toList,Sem.run_map,hm]
  rfl
 simp only[bind_pure_comp]at hm'
 have hps':(parts.map fun(x:Nat×Operand)=>match x with | (i,x)=>(i,ρ x))=ps.toArray:=hps
 simp[execOp,Instr.build,zeroValue,typeInfo,h3,h4,run_underlying h1,hps',hm',h5,hf']
end
section steps
variable {P:Program}{Q:Exit->Act->World->Prop}{K:Act->World->Prop}{ts:Array Value}{n:Nat}{g:Nat->Value}{ds:List Deferred}{d:Nat}{op:Op}{ty:TypeId}{pos:String}{af:Array Edge}{gd:Option (Nat×Bool)}{M:List Nat}{w0 W:World}{L:List Res}{F:List Sh}
theorem wrap_u64 {z:Int}(h1:0<=z) (h2:z<=18446744073709551615):IntKind.u64.wrap z=z:=by simp[IntKind.wrap,IntKind.bits,IntKind.signed];omega
end steps
section
variable {M:List Nat}{w W W':World}{L R L':List Res}{F F':List Sh}
theorem Loc.focus (h:Loc M w W (L++R) F):Loc (L.flatMap Res.S) W W L F:=by
 refine⟨Chg.refl _ _,fun r hr=>h.res r (List.mem_append_left _ hr),fun b hb=>⟨.inl hb,(h.blk b (by rw[List.flatMap_append];exact List.mem_append_left _ hb)).2⟩,?_,fun q hq=>q.mono _ _ _ (fun b hb=>⟨hb.1,fun hm=>hb.2 (by rw[List.flatMap_append];exact List.mem_append_left _ hm)⟩) (h.shr q hq)⟩
 have:=h.nd
 rw[List.flatMap_append,List.nodup_append]at this
 exact this.1
theorem Loc.turn (h:Loc M w W (L++R) F) (h':Loc (L.flatMap Res.S) W W' L' F'):Loc M w W' (L'++R) F:=by
 have hnd:=h.nd
 rw[List.flatMap_append,List.nodup_append]at hnd
 obtain⟨n1,n2,n3⟩:=hnd
 have hR:∀b∈R.flatMap Res.S,b<W.heap.size/\b∉L.flatMap Res.S:=fun b hb=>⟨(h.blk b (by rw[List.flatMap_append];exact List.mem_append_right _ hb)).2,fun hm=>n3 b hm b hb rfl⟩
 have hLM:∀b∈L.flatMap Res.S,b∈M\/w.heap.size<=b:=fun b hb=>(h.blk b (by rw[List.flatMap_append];exact List.mem_append_left _ hb)).1
 refine⟨h.chg.then h'.chg hLM,fun r hr=>?_,fun b hb=>?_,?_,fun q hq=>?_⟩
 ·rcases List.mem_append.1 hr with hr | hr
  ·exact h'.res r hr
  refine r.loc W W' (fun b hb=>?_) (h.res r (List.mem_append_right _ hr))
  have:=hR b (List.mem_flatMap.2 ⟨r,hr,hb⟩)
  exact h'.chg.block b this.1 this.2
 ·rw[List.flatMap_append,List.mem_append]at hb
  rcases hb with hb | hb
  ·have:=h'.blk b hb
   refine⟨?_,this.2⟩
   rcases this.1 with h1 | h1
   ·exact hLM b h1
   exact .inr (Nat.le_trans h.chg.size h1)
  have:=h.blk b (by rw[List.flatMap_append];exact List.mem_append_right _ hb)
  exact⟨this.1,Nat.lt_of_lt_of_le this.2 h'.chg.size⟩
 ·rw[List.flatMap_append,List.nodup_append]
  refine⟨h'.nd,n2,fun x hx y hy e=>?_⟩
  subst e
  have h1:=hR x hy
  rcases(h'.blk x hx).1 with h2 | h2
  ·exact h1.2 h2
  omega
 refine q.mono _ _ _ (fun b hb=>⟨Nat.lt_of_lt_of_le hb.1 h'.chg.size,fun hm=>?_⟩) (q.keep W W' _ (fun b hb=>h'.chg.block b hb.1 (fun hm=>hb.2 (by rw[List.flatMap_append];exact List.mem_append_left _ hm))) (h.shr q hq))
 rw[List.flatMap_append,List.mem_append]at hm
 rcases hm with hm | hm
 ·rcases(h'.blk b hm).1 with h2 | h2
  ·exact hb.2 (by rw[List.flatMap_append];exact List.mem_append_left _ h2)
  have:=hb.1
  omega
 exact hb.2 (by rw[List.flatMap_append];exact List.mem_append_right _ hm)
end
section
variable {P:Program}{w:World}{ρ:Operand->Value}{d:Option Tmp}{ty:TypeId}{pos:String}{af:Array Edge}{gd:Option (Nat×Bool)}
theorem Az {t e size n c k:Nat}{x ix:Operand}{A:Option Addr}{ad:Addr}{kk:IntKind}(hT:TyS P t e size) (hx:ρ x=.slice A n c) (hA:A=some ad) (hi:ρ ix=.int kk (k:Int)) (h1:k<n):
  (execOp ρ ⟨d,.indexAddr t x ix,ty,pos,af,gd⟩).run P w=.ok (.value (.pointer (some (ad.add (k*size))))) w:=by
 subst hA
 exact Ol hT hx hi (by omega) (by omega)
theorem My {T f off m:Nat}{x:Operand}{ad:Addr}(hT:TyF P T f off) (hx:ρ x=.pointer (some (ad.add m))):(execOp ρ ⟨d,.fieldAddr T x f,ty,pos,af,gd⟩).run P w=.ok (.value (.pointer (some (ad.add (m+off))))) w:=by
 obtain⟨fs,fd,i,h1,h2,h3,h4,h5⟩:=hT
 simp[execOp,hx,Instr.fieldAt,run_underlying h1,h2,Instr.sureAddr,fieldPlace,sizeOf,typeInfo,h4,h5,h3,De]
theorem Tb {f:FuncId}{first captured:Array Operand}{l1 l2:List Value}(h1:first.map ρ=l1.toArray) (h2:captured.map ρ=l2.toArray):(execOp ρ ⟨d,.makeFunc (.func f) first captured,ty,pos,af,gd⟩).run P w=.ok (.value (.func (.func f) l1.toArray l2.toArray)) w:=by
 simp[execOp,h1,h2,Instr.makeFunc]
theorem zE {t e size n c k:Nat}{x lo:Operand}{A:Option Addr}{kk:IntKind}(hT:TyS P t e size) (hx:ρ x=.slice A n c) (hl:ρ lo=.int kk (k:Int)) (h1:k<=n) (h2:n<=c):
  (execOp ρ ⟨d,.slice t x (some lo) none none,ty,pos,af,gd⟩).run P w=.ok (.value (.slice (if c=k then A else A.map (·.add (k*size))) (n-k) (c-k))) w:=by
 obtain⟨i,e1,e2,e3⟩:=hT
 have hb:(Instr.sliceBound (.int kk (k:Int)) n .sliceB).run P w=.ok k w:=by
  have:=run_sliceBound (P:=P) (w:=w) kk (k:Int) n .sliceB (by omega) (by omega)
  simpa using this
 simp[execOp,hx,hl,Instr.sliceAt,Instr.slice,Instr.sliceBounds,run_underlying e1,hb,sizeOf,typeInfo,e2,e3]
theorem zG {t e size n c k:Nat}{x hi:Operand}{A:Option Addr}{kk:IntKind}(hT:TyS P t e size) (hx:ρ x=.slice A n c) (hl:ρ hi=.int kk (k:Int)) (h1:k<=c):
  (execOp ρ ⟨d,.slice t x none (some hi) none,ty,pos,af,gd⟩).run P w=.ok (.value (.slice A k c)) w:=by
 obtain⟨i,e1,e2,e3⟩:=hT
 have hb:(Instr.sliceBound (.int kk (k:Int)) c .sliceAcap).run P w=.ok k w:=by
  have:=run_sliceBound (P:=P) (w:=w) kk (k:Int) c .sliceAcap (by omega) (by omega)
  simpa using this
 have ha:A.map (fun a:Addr=>a.add 0)=A:=by cases A <;> simp[Addr.add]
 simp[execOp,hx,hl,Instr.sliceAt,Instr.slice,Instr.sliceBounds,run_underlying e1,hb,sizeOf,typeInfo,e2,e3,ha]
end
inductive Tr
 | v (x:Value)
 | s (own:Bool) (t z n:Nat) (l:List Tr)
 | p (own:Bool) (t:Nat) (l:List Tr)
 | f (g:Nat) (fst cap:List Tr)
 | a (l:List Tr)
inductive VT
 | w (v:Value)
 | s (b c t z n:Nat) (l:List VT)
 | p (b t:Nat) (l:List VT)
def VT.val:VT->Value
 | .w v=>v
 | .s b c _ _ n _=>.slice (some ⟨b,0,none⟩) n c
 | .p b _ _=>.pointer (some ⟨b,0,none⟩)
mutual
def VT.fp:VT->List Nat
 | .w _=>[]
 | .s b _ _ _ _ l=>b::VT.fpL l
 | .p b _ l=>b::VT.fpL l
def VT.fpL:List VT->List Nat
 | []=>[]
 | y::l=>y.fp++VT.fpL l
end
def Blk (W:World) (b t m:Nat) (vs:List Value):Prop:=∃rest,W.heap[b]? =some (.cells (vs++rest).toArray t (0,0))/\(vs++rest).length=m
mutual
def VT.ok (W:World):VT->Prop
 | .w _=>True
 | .s b c t z n l=>Blk W b t (c*z) (l.map VT.val)/\n<=c/\c<=maxLen/\l.length=n*z/\VT.okL W l
 | .p b t l=>Blk W b t l.length (l.map VT.val)/\VT.okL W l
def VT.okL (W:World):List VT->Prop
 | []=>True
 | y::l=>y.ok W/\VT.okL W l
end
theorem Blk.keep {W W':World}{b t m:Nat}{vs:List Value}(h:Blk W b t m vs) (e:W'.heap[b]? =W.heap[b]?):Blk W' b t m vs:=by
 obtain⟨r,h1,h2⟩:=h
 exact⟨r,e.trans h1,h2⟩
mutual
theorem VT.ok_keep {W W':World}:∀(x:VT),(∀b∈x.fp,W'.heap[b]? =W.heap[b]?)->x.ok W->x.ok W'
 | .w _,_,_=>by simp[VT.ok]
 | .s b c t z n l,h,hk=>by
  simp only[VT.ok,VT.fp]at*
  exact⟨hk.1.keep (h b (by simp)),hk.2.1,hk.2.2.1,hk.2.2.2.1,VT.okL_keep l (fun b hb=>h b (by simp[hb])) hk.2.2.2.2⟩
 | .p b t l,h,hk=>by
  simp only[VT.ok,VT.fp]at*
  exact⟨hk.1.keep (h b (by simp)),VT.okL_keep l (fun b hb=>h b (by simp[hb])) hk.2⟩
theorem VT.okL_keep {W W':World}:∀(l:List VT),(∀b∈VT.fpL l,W'.heap[b]? =W.heap[b]?)->VT.okL W l->VT.okL W' l
 | [],_,_=>by simp[VT.okL]
 | x::l,h,hk=>by
  simp only[VT.okL,VT.fpL]at*
  exact⟨VT.ok_keep x (fun b hb=>h b (by simp[hb])) hk.1,VT.okL_keep l (fun b hb=>h b (by simp[hb])) hk.2⟩
end
mutual
def FR (W:World) (N:Nat->Prop):Tr->Value->Prop
 | .v x,u=>u=x
 | .s _ _ z n l,u=>∃A c,u=.slice A n c/\n<=c/\c<=9223372036854775807/\l.length=n*z/\(n=0\/∃ad,A=some ad/\N ad.block/\FRc W N ad 0 l)
 | .p _ _ l,u=>∃ad,u=.pointer (some ad)/\N ad.block/\FRc W N ad 0 l
 | .f g l0 l,u=>∃us0 us,u=.func (.func g) us0.toArray us.toArray/\FRL W N l0 us0/\FRL W N l us
 | .a l,u=>∃us,u=.agg us.toArray/\FRL W N l us
def FRL (W:World) (N:Nat->Prop):List Tr->List Value->Prop
 | [],us=>us=[]
 | _::_,[]=>False
 | x::l,u::us=>FR W N x u/\FRL W N l us
def FRc (W:World) (N:Nat->Prop) (ad:Addr):Nat->List Tr->Prop
 | _,[]=>True
 | j,x::l=>(∃u,W.cell? (ad.add j)=some u/\FR W N x u)/\FRc W N ad (j+1) l
end
theorem AF {W W':World}{ad:Addr}(j:Nat) (h:W'.heap[ad.block]? =W.heap[ad.block]?):W'.cell? (ad.add j)=W.cell? (ad.add j):=by
 apply World.cell?_of_block
 rw[mR]
 exact h
mutual
theorem lF {W W':World}{N N':Nat->Prop}(hk:∀b,N b->W'.heap[b]? =W.heap[b]?) (hN:∀b,N b->N' b):∀(x:Tr) (u:Value),FR W N x u->FR W' N' x u
 | .v x,u,h=>by simpa[FR]using h
 | .s o t z n l,u,h=>by
  simp only[FR]at*
  obtain⟨A,c,h1,h2,h3,h4,h5⟩:=h
  refine⟨A,c,h1,h2,h3,h4,?_⟩
  rcases h5 with h5 | ⟨ad,h5,h6,h7⟩
  ·exact .inl h5
  exact .inr ⟨ad,h5,hN _ h6,FRc_keep hk hN l ad 0 h6 h7⟩
 | .p o t l,u,h=>by
  simp only[FR]at*
  obtain⟨ad,h5,h6,h7⟩:=h
  exact⟨ad,h5,hN _ h6,FRc_keep hk hN l ad 0 h6 h7⟩
 | .f g l0 l,u,h=>by
  simp only[FR]at*
  obtain⟨us0,us,h1,h2,h3⟩:=h
  exact⟨us0,us,h1,FRL_keep hk hN l0 us0 h2,FRL_keep hk hN l us h3⟩
 | .a l,u,h=>by
  simp only[FR]at*
  obtain⟨us,h1,h2⟩:=h
  exact⟨us,h1,FRL_keep hk hN l us h2⟩
theorem FRL_keep {W W':World}{N N':Nat->Prop}(hk:∀b,N b->W'.heap[b]? =W.heap[b]?) (hN:∀b,N b->N' b):∀(l:List Tr) (us:List Value),FRL W N l us->FRL W' N' l us
 | [],us,h=>by simpa[FRL]using h
 | x::l,u::us,h=>by
  simp only[FRL]at*
  exact⟨lF hk hN x u h.1,FRL_keep hk hN l us h.2⟩
 | _::_,[],h=>by simp only[FRL]at h
theorem FRc_keep {W W':World}{N N':Nat->Prop}(hk:∀b,N b->W'.heap[b]? =W.heap[b]?) (hN:∀b,N b->N' b):∀(l:List Tr) (ad:Addr) (j:Nat),N ad.block->FRc W N ad j l->FRc W' N' ad j l
 | [],_,_,_,_=>by simp[FRc]
 | x::l,ad,j,hb,h=>by
  simp only[FRc]at*
  obtain⟨⟨u,h1,h2⟩,h3⟩:=h
  exact⟨⟨u,(AF j (hk _ hb)).trans h1,lF hk hN x u h2⟩,FRc_keep hk hN l ad (j+1) hb h3⟩
end
mutual
def OR (W:World) (N:Nat->Prop):Tr->VT->Prop
 | .v x,y=>y=.w x
 | .s o t z n l,.w u=>(o=true/\n=0/\l=[]/\u=.slice none 0 0)\/(o=false/\FR W N (.s false t z n l) u)
 | .s o t z n l,.s _ _ t' z' n' l'=>o=true/\n'=n/\t'=t/\z'=z/\ORL W N l l'
 | .s ..,.p .. =>False
 | .p o t l,.w u=>o=false/\FR W N (.p false t l) u
 | .p o t l,.p _ t' l'=>o=true/\t'=t/\ORL W N l l'
 | .p ..,.s .. =>False
 | .f g l0 l,.w u=>FR W N (.f g l0 l) u
 | .f ..,.s .. =>False
 | .f ..,.p .. =>False
 | .a l,.w u=>FR W N (.a l) u
 | .a ..,.s .. =>False
 | .a ..,.p .. =>False
def ORL (W:World) (N:Nat->Prop):List Tr->List VT->Prop
 | [],l'=>l'=[]
 | _::_,[]=>False
 | x::l,y::l'=>OR W N x y/\ORL W N l l'
end
mutual
theorem mG {W W':World}{N N':Nat->Prop}(hk:∀b,N b->W'.heap[b]? =W.heap[b]?) (hN:∀b,N b->N' b):∀(x:Tr) (y:VT),OR W N x y->OR W' N' x y
 | .v x,y,h=>by simpa[OR]using h
 | .s o t z n l,.w u,h=>by
  simp only[OR]at*
  rcases h with h | h
  ·exact .inl h
  exact .inr ⟨h.1,lF hk hN _ u h.2⟩
 | .s o t z n l,.s _ _ _ _ _ l',h=>by
  simp only[OR]at*
  exact⟨h.1,h.2.1,h.2.2.1,h.2.2.2.1,ORL_keep hk hN l l' h.2.2.2.2⟩
 | .s ..,.p ..,h=>by simp only[OR]at h
 | .p o t l,.w u,h=>by
  simp only[OR]at*
  exact⟨h.1,lF hk hN _ u h.2⟩
 | .p o t l,.p _ _ l',h=>by
  simp only[OR]at*
  exact⟨h.1,h.2.1,ORL_keep hk hN l l' h.2.2⟩
 | .p ..,.s ..,h=>by simp only[OR]at h
 | .f ..,.w u,h | .a ..,.w u,h=>by
  simp only[OR]at*
  exact lF hk hN _ u h
 | .f ..,.s ..,h | .f ..,.p ..,h | .a ..,.s ..,h | .a ..,.p ..,h=>by simp only[OR]at h
theorem ORL_keep {W W':World}{N N':Nat->Prop}(hk:∀b,N b->W'.heap[b]? =W.heap[b]?) (hN:∀b,N b->N' b):∀(l:List Tr) (l':List VT),ORL W N l l'->ORL W' N' l l'
 | [],l',h=>by simpa[ORL]using h
 | x::l,y::l',h=>by
  simp only[ORL]at*
  exact⟨mG hk hN x y h.1,ORL_keep hk hN l l' h.2⟩
 | _::_,[],h=>by simp only[ORL]at h
end
theorem Di {W:World}{N:Nat->Prop}:∀{l:List Tr}{l':List VT},ORL W N l l'->l'.length=l.length
 | [],l',h=>by
  simp only[ORL]at h
  simp[h]
 | x::l,y::l',h=>by
  simp only[ORL]at h
  simp[Di h.2]
 | _::_,[],h=>by simp only[ORL]at h
theorem Gx (ad:Addr):ad.add 0=ad:=by simp[Addr.add]
theorem rN {W:World}{b t m j:Nat}{vs:List Value}{u:Value}(h:Blk W b t m vs) (hj:vs[j]? =some u):W.cell? ((⟨b,0,none⟩:Addr).add j)=some u:=by
 obtain⟨r,h1,_⟩:=h
 rw[kM,cell_of_row W b _ _ t _ h1]
 have hlt:=(List.getElem?_eq_some_iff.1 hj).1
 simp only[Nat.zero_add,List.getElem?_toArray]
 rw[List.getElem?_append_left hlt]
 exact hj
mutual
theorem Fj {W:World}{N N':Nat->Prop}(hN:∀b,N b->N' b):∀(x:Tr) (y:VT),OR W N x y->y.ok W->(∀b∈y.fp,N' b)->FR W N' x y.val
 | .v x,y,h,_,_=>by
  simp only[OR]at h
  subst h
  simp[FR,VT.val]
 | .s o t z n l,.w u,h,_,_=>by
  simp only[OR]at h
  simp only[VT.val]
  rcases h with⟨_,rfl,rfl,rfl⟩ | ⟨_,h⟩
  ·simp only[FR]
   exact⟨none,0,rfl,aX _,by omega,by simp,.inl trivial⟩
  have:=lF (W':=W) (fun _ _=>rfl) hN _ u h
  simpa only[FR]using this
 | .s o t z n l,.s b c t' z' n' l',h,hk,hf=>by
  simp only[OR]at h
  simp only[VT.ok]at hk
  simp only[VT.fp]at hf
  obtain⟨_,rfl,rfl,rfl,h4⟩:=h
  obtain⟨k1,k2,k3,k4,k5⟩:=hk
  simp only[FR,VT.val]
  refine⟨_,c,rfl,k2,by unfold maxLen at k3;omega,by rw[<-Di h4,k4],?_⟩
  exact .inr ⟨_,rfl,hf b (by simp),FRc_of_ORL hN l l' h4 k5 (fun b hb=>hf b (by simp[hb])) b t' _ [] _ k1 rfl⟩
 | .s ..,.p ..,h,_,_=>by simp only[OR]at h
 | .p o t l,.w u,h,_,_=>by
  simp only[OR]at h
  have:=lF (W':=W) (fun _ _=>rfl) hN _ u h.2
  simpa only[FR,VT.val]using this
 | .p o t l,.p b t' l',h,hk,hf=>by
  simp only[OR]at h
  simp only[VT.ok]at hk
  simp only[VT.fp]at hf
  simp only[FR,VT.val]
  exact⟨_,rfl,hf b (by simp),FRc_of_ORL hN l l' h.2.2 hk.2 (fun b hb=>hf b (by simp[hb])) b t' _ [] _ hk.1 rfl⟩
 | .p ..,.s ..,h,_,_=>by simp only[OR]at h
 | .f ..,.w u,h,_,_ | .a ..,.w u,h,_,_=>by
  simp only[OR]at h
  exact lF (W':=W) (fun _ _=>rfl) hN _ u h
 | .f ..,.s ..,h,_,_ | .f ..,.p ..,h,_,_ | .a ..,.s ..,h,_,_ | .a ..,.p ..,h,_,_=>by simp only[OR]at h
theorem FRc_of_ORL {W:World}{N N':Nat->Prop}(hN:∀b,N b->N' b):∀(l:List Tr) (l':List VT),ORL W N l l'->VT.okL W l'->(∀b∈VT.fpL l',N' b)->∀(b t m:Nat) (pre all:List Value),Blk W b t m all->all=pre++l'.map VT.val->FRc W N' ⟨b,0,none⟩ pre.length l
 | [],_,_,_,_,_,_,_,_,_,_,_=>by simp[FRc]
 | x::l,y::l',h,hk,hf,b,t,m,pre,all,hb,he=>by
  simp only[ORL]at h
  simp only[VT.okL]at hk
  simp only[VT.fpL]at hf
  simp only[FRc]
  refine⟨⟨y.val,rN hb (by simp[he]),Fj hN x y h.1 hk.1 (fun b hb=>hf b (by simp[hb]))⟩,?_⟩
  have:=FRc_of_ORL hN l l' h.2 hk.2 (fun b hb=>hf b (by simp[hb])) b t m (pre++[y.val]) all hb (by simp[he])
  simpa using this
 | _::_,[],h,_,_,_,_,_,_,_,_,_=>by simp only[ORL]at h
end
theorem rP {W:World}{N:Nat->Prop}{ad:Addr}:∀{l:List Tr}{i j:Nat}{x:Tr},FRc W N ad i l->l[j]? =some x->∃u,W.cell? (ad.add (i+j))=some u/\FR W N x u
 | [],_,_,_,_,h=>by simp at h
 | y::l,i,0,x,h,hj=>by
  simp only[FRc]at h
  simp at hj
  subst hj
  exact h.1
 | y::l,i,j+1,x,h,hj=>by
  simp only[FRc]at h
  have:=rP h.2 (j:=j) (by simpa using hj)
  rwa[show i+1+j=i+(j+1) by omega]at this
inductive AV
 | t (x:Tr)
 | sl (k o n:Nat)
 | pt (k o:Nat)
 | ef (l:List Tr) (o:Nat)
 | fn (f:Nat) (first cap:List AV)
inductive FV
 | any
 | one (a:AV)
 | agg (l:List AV)
 | tup (l:List FV)
structure Ob where
 t:Nat
 z:Nat
 l:List AV
structure Co where
 b:Option Nat
 c:Nat
 l:List VT
def co (cs:List Co) (k:Nat):Co:=(cs[k]?).getD ⟨none,0,[]⟩
mutual
def AR (W:World) (N:Nat->Prop) (cs:List Co):AV->Value->Prop
 | .t x,u=>FR W N x u
 | .sl k o n,u=>k<cs.length/\match(co cs k).b with
  | none=>n=0/\o=0/\u=.slice none 0 0
  | some b=>∃o' c,u=.slice (some ⟨b,o',none⟩) n c/\n<=c/\c<=9223372036854775807/\(0<n\/o=0->o'=o)/\(o=0->c=(co cs k).c)
 | .pt k o,u=>∃b,(co cs k).b=some b/\u=.pointer (some ⟨b,o,none⟩)
 | .ef l o,u=>∃ad,N ad.block/\FRc W N ad 0 l/\u=.pointer (some (ad.add o))
 | .fn f first cap,u=>∃us vs,u=.func (.func f) us.toArray vs.toArray/\ARL W N cs first us/\ARL W N cs cap vs
def ARL (W:World) (N:Nat->Prop) (cs:List Co):List AV->List Value->Prop
 | [],us=>us=[]
 | _::_,[]=>False
 | a::l,u::us=>AR W N cs a u/\ARL W N cs l us
end
def cE (W:World) (N:Nat->Prop) (cs:List Co):FV->Value->Prop
 | .any,_=>True
 | .one a,u=>AR W N cs a u
 | .agg l,u=>∃us,u=.agg us.toArray/\ARL W N cs l us
 | .tup _,_=>False
def dM (W:World) (N:Nat->Prop) (cs:List Co):List FV->List Value->Prop
 | [],us=>us=[]
 | _::_,[]=>False
 | a::l,u::us=>cE W N cs a u/\dM W N cs l us
def bV (W:World) (N:Nat->Prop) (cs:List Co):FV->Value->Prop
 | .tup l,u=>∃us,u=.tuple us.toArray/\dM W N cs l us
 | x,u=>cE W N cs x u
def CR (W:World) (N:Nat->Prop) (cs:List Co):AV->VT->Prop
 | .t x,y=>OR W N x y
 | a,.w u=>AR W N cs a u
 | _,_=>False
def bZ (W:World) (N:Nat->Prop) (cs:List Co):List AV->List VT->Prop
 | [],l'=>l'=[]
 | _::_,[]=>False
 | a::l,y::l'=>CR W N cs a y/\bZ W N cs l l'
section
variable {W W':World}{N N':Nat->Prop}{cs cs':List Co}
def Same (cs cs':List Co):Prop:=cs.length<=cs'.length/\∀k,k<cs.length->(co cs' k).b=(co cs k).b/\(co cs' k).c=(co cs k).c
theorem JK {k b:Nat}(h:(co cs k).b=some b):k<cs.length:=by
 rcases Nat.lt_or_ge k cs.length with h1 | h1
 ·exact h1
 simp[co,List.getElem?_eq_none h1]at h
mutual
theorem kJ (hk:∀b,N b->W'.heap[b]? =W.heap[b]?) (hN:∀b,N b->N' b) (hc:Same cs cs'):∀(a:AV) (u:Value),AR W N cs a u->AR W' N' cs' a u
 | .t x,u,h=>by
  simp only[AR]at*
  exact lF hk hN x u h
 | .sl k o n,u,h=>by
  simp only[AR]at*
  refine⟨Nat.lt_of_lt_of_le h.1 hc.1,?_⟩
  rw[(hc.2 k h.1).1,(hc.2 k h.1).2]
  exact h.2
 | .pt k o,u,h=>by
  simp only[AR]at*
  obtain⟨b,h1,h2⟩:=h
  exact⟨b,((hc.2 k (JK h1)).1).trans h1,h2⟩
 | .ef l o,u,h=>by
  simp only[AR]at*
  obtain⟨ad,h1,h2,h3⟩:=h
  exact⟨ad,hN _ h1,FRc_keep hk hN l ad 0 h1 h2,h3⟩
 | .fn f a b,u,h=>by
  simp only[AR]at*
  obtain⟨us,vs,h1,h2,h3⟩:=h
  exact⟨us,vs,h1,ARL_keep hk hN hc a us h2,ARL_keep hk hN hc b vs h3⟩
theorem ARL_keep (hk:∀b,N b->W'.heap[b]? =W.heap[b]?) (hN:∀b,N b->N' b) (hc:Same cs cs'):∀(l:List AV) (us:List Value),ARL W N cs l us->ARL W' N' cs' l us
 | [],us,h=>by simpa[ARL]using h
 | a::l,u::us,h=>by
  simp only[ARL]at*
  exact⟨kJ hk hN hc a u h.1,ARL_keep hk hN hc l us h.2⟩
 | _::_,[],h=>by simp only[ARL]at h
end
theorem AG (hk:∀b,N b->W'.heap[b]? =W.heap[b]?) (hN:∀b,N b->N' b) (hc:Same cs cs'):∀(x:FV) (u:Value),cE W N cs x u->cE W' N' cs' x u
 | .any,_,_=>trivial
 | .one a,u,h=>kJ hk hN hc a u h
 | .agg l,u,⟨us,h1,h2⟩=>⟨us,h1,ARL_keep hk hN hc l us h2⟩
 | .tup _,_,h=>h.elim
theorem nR (hk:∀b,N b->W'.heap[b]? =W.heap[b]?) (hN:∀b,N b->N' b) (hc:Same cs cs'):∀(l:List FV) (us:List Value),dM W N cs l us->dM W' N' cs' l us
 | [],us,h=>by simpa[dM]using h
 | a::l,u::us,h=>by
  simp only[dM]at*
  exact⟨AG hk hN hc a u h.1,nR hk hN hc l us h.2⟩
 | _::_,[],h=>by simp only[dM]at h
theorem gC (hk:∀b,N b->W'.heap[b]? =W.heap[b]?) (hN:∀b,N b->N' b) (hc:Same cs cs'):∀(x:FV) (u:Value),bV W N cs x u->bV W' N' cs' x u
 | .any,_,_=>trivial
 | .one a,u,h=>kJ hk hN hc a u h
 | .agg l,u,⟨us,h1,h2⟩=>⟨us,h1,ARL_keep hk hN hc l us h2⟩
 | .tup l,u,⟨us,h1,h2⟩=>⟨us,h1,nR hk hN hc l us h2⟩
theorem Jm (hk:∀b,N b->W'.heap[b]? =W.heap[b]?) (hN:∀b,N b->N' b) (hc:Same cs cs'):∀(a:AV) (y:VT),CR W N cs a y->CR W' N' cs' a y
 | .t x,y,h=>by
  simp only[CR]at*
  exact mG hk hN x y h
 | .sl ..,.w u,h=>by
  simp only[CR]at*
  exact kJ hk hN hc _ u h
 | .pt ..,.w u,h=>by
  simp only[CR]at*
  exact kJ hk hN hc _ u h
 | .ef ..,.w u,h=>by
  simp only[CR]at*
  exact kJ hk hN hc _ u h
 | .fn ..,.w u,h=>by
  simp only[CR]at*
  exact kJ hk hN hc _ u h
 | .sl ..,.s ..,h | .sl ..,.p ..,h | .pt ..,.s ..,h | .pt ..,.p ..,h | .ef ..,.s ..,h | .ef ..,.p ..,h | .fn ..,.s ..,h | .fn ..,.p ..,h=>by simp only[CR]at h
theorem dI (hk:∀b,N b->W'.heap[b]? =W.heap[b]?) (hN:∀b,N b->N' b) (hc:Same cs cs'):∀(l:List AV) (l':List VT),bZ W N cs l l'->bZ W' N' cs' l l'
 | [],l',h=>by simpa[bZ]using h
 | a::l,y::l',h=>by
  simp only[bZ]at*
  exact⟨Jm hk hN hc a y h.1,dI hk hN hc l l' h.2⟩
 | _::_,[],h=>by simp only[bZ]at h
theorem Same.refl:Same cs cs:=⟨aX _,fun _ _=>⟨rfl,rfl⟩⟩
theorem Same.trans {cs'':List Co}(h:Same cs cs') (h':Same cs' cs''):Same cs cs'':=⟨Nat.le_trans h.1 h'.1,fun k hk=>⟨((h'.2 k (Nat.lt_of_lt_of_le hk h.1)).1).trans (h.2 k hk).1,((h'.2 k (Nat.lt_of_lt_of_le hk h.1)).2).trans (h.2 k hk).2⟩⟩
theorem rQ:∀{l:List AV}{l':List VT},bZ W N cs l l'->l'.length=l.length
 | [],l',h=>by
  simp only[bZ]at h
  simp[h]
 | a::l,y::l',h=>by
  simp only[bZ]at h
  simp[rQ h.2]
 | _::_,[],h=>by simp only[bZ]at h
theorem iG:∀{l:List AV}{us:List Value},ARL W N cs l us->us.length=l.length
 | [],l',h=>by
  simp only[ARL]at h
  simp[h]
 | a::l,y::l',h=>by
  simp only[ARL]at h
  simp[iG h.2]
 | _::_,[],h=>by simp only[ARL]at h
end
def aQ (o:Option Ob) (c:Co):Res where
 S:=match o,c.b with
  | some _,some b=>b::VT.fpL c.l
  | _,_=>[]
 φ:=fun W=>match o,c.b with
  | some o,some b=>Blk W b o.t (bif Nat.beq o.z 0 then c.l.length else c.c*o.z) (c.l.map VT.val)/\VT.okL W c.l/\c.c<=maxLen
  | _,_=>True
 loc:=fun W W' h hφ=>by
  cases o with
  | none=>trivial
  | some o=>
   cases hb:c.b with
   | none=>simp[hb]
   | some b=>
    simp only[hb]at*
    exact⟨hφ.1.keep (h b (by simp)),VT.okL_keep _ (fun x hx=>h x (by simp[hx])) hφ.2.1,hφ.2.2⟩
def aL (ob:List (Option Ob)) (cs:List Co):List Res:=List.zipWith aQ ob cs
def Gy (W:World) (N:Nat->Prop) (cs:List Co) (ob:List (Option Ob)):Prop:=
 ob.length=cs.length/\∀k o,ob[k]? =some (some o)->bZ W N cs o.l (co cs k).l/\((co cs k).b=none->o.l=[]/\o.z≠0)
def JL (n:Nat) (g:Nat->FV) (ob:List (Option Ob)) (cs:List Co) (ts:Array Value):Sh where
 p:=fun W N=>Gy W N cs ob/\∀i,i<n->∃u,ts[i]? =some u/\bV W N cs (g i) u
 mono:=fun W N N' hN h=>⟨⟨h.1.1,fun k o hk=>⟨dI (fun _ _=>rfl) hN .refl _ _ (h.1.2 k o hk).1,(h.1.2 k o hk).2⟩⟩,fun i hi=>let ⟨u,h1,h2⟩:=h.2 i hi;⟨u,h1,gC (fun _ _=>rfl) hN .refl _ _ h2⟩⟩
 keep:=fun W W' N hk h=>⟨⟨h.1.1,fun k o he=>⟨dI hk (fun _ h=>h) .refl _ _ (h.1.2 k o he).1,(h.1.2 k o he).2⟩⟩,fun i hi=>let ⟨u,h1,h2⟩:=h.2 i hi;⟨u,h1,gC hk (fun _ h=>h) .refl _ _ h2⟩⟩
structure Cx where
 P:Program
 N:Nat->Prop
 M:List Nat
 w:World
 n:Nat
 c0:List Co
def Cx.NN (x:Cx) (b:Nat):Prop:=x.N b\/b∈x.M\/x.w.heap.size<=b
structure RelC (x:Cx) (g:Nat->FV) (ob:List (Option Ob)) (cs:List Co) (ts:Array Value) (W:World):Prop where
 sz:ts.size=x.n
 loc:Loc x.M x.w W (aL ob cs) [(JL x.n g ob cs ts).on x.NN]
 ini:Same x.c0 cs
def Gz (x:Cx) (g:Nat->FV) (ob:List (Option Ob)) (ts:Array Value) (W:World):Prop:=∃cs,RelC x g ob cs ts W
section
variable {x:Cx}{g:Nat->FV}{ob:List (Option Ob)}{cs:List Co}{ts:Array Value}{W W':World}
def Cx.fr (x:Cx) (W:World) (ob:List (Option Ob)) (cs:List Co) (b:Nat):Prop:=pT W (aL ob cs) b/\x.NN b
theorem RelC.sh (h:RelC x g ob cs ts W):(JL x.n g ob cs ts).p W (x.fr W ob cs):=Sh.off (h.2.sh 0 rfl)
theorem RelC.obs (h:RelC x g ob cs ts W):Gy W (x.fr W ob cs) cs ob:=h.sh.1
theorem RelC.len (h:RelC x g ob cs ts W):ob.length=cs.length:=h.obs.1
theorem RelC.fv (h:RelC x g ob cs ts W){i:Nat}(hi:i<x.n):∃u,ts[i]? =some u/\bV W (x.fr W ob cs) cs (g i) u:=h.sh.2 i hi
theorem RelC.ext (h:RelC x g ob cs ts W) (hb:Below W.heap.size W W'):RelC x g ob cs ts W':=⟨h.1,h.2.ext hb,h.3⟩
theorem RelC.re (h:RelC x g ob cs ts W){g':Nat->FV}{ts':Array Value}(hs:ts'.size=x.n) (hf:∀i,i<x.n->∃u,ts'[i]? =some u/\bV W (x.fr W ob cs) cs (g' i) u):RelC x g' ob cs ts' W:=
 ⟨hs,(h.2.pickS []).read _ ⟨h.obs,hf⟩,h.3⟩
def bG (g:Nat->FV) (d:Nat) (v:FV):Nat->FV:=fun i=>bif Nat.beq i d then v else g i
theorem RelC.put (h:RelC x g ob cs ts W) (d:Nat){v:FV}{u:Value}(hv:bV W (x.fr W ob cs) cs v u):RelC x (bG g d v) ob cs (ts.setIfInBounds d u) W:=by
 refine h.re (by simpa using h.1) fun i hi=>?_
 by_cases e:i=d
 ·subst e
  have:i<ts.size:=by rw[h.1];exact hi
  exact⟨u,by simp[this],by simpa[bG]using hv⟩
 have hb:Nat.beq i d=false:=by
  cases hq:Nat.beq i d
  ·rfl
  exact absurd (Nat.eq_of_beq_eq_true hq) e
 rw[Array.getElem?_setIfInBounds_ne (fun h=>e h.symm)]
 obtain⟨u',h1,h2⟩:=h.fv hi
 exact⟨u',h1,by simpa[bG,hb]using h2⟩
end
theorem Loc.perm {M:List Nat}{w W:World}{L L':List Res}{F:List Sh}(h:Loc M w W L F) (hp:List.Perm L L'):Loc M w W L' F:=by
 have hpS:List.Perm (L.flatMap Res.S) (L'.flatMap Res.S):=hp.flatMap_right Res.S
 exact⟨h.chg,fun r hr=>h.res r (hp.mem_iff.2 hr),fun b hb=>h.blk b (hpS.mem_iff.2 hb),(hpS.nodup_iff).1 h.nd,fun q hq=>q.mono _ _ _ (fun b hb=>⟨hb.1,fun hm=>hb.2 (hpS.mem_iff.2 hm)⟩) (h.shr q hq)⟩
def TyStr (P:Program) (t:TypeId):Prop:=P.underlying t=some .string
def TyArr (P:Program) (t n size:Nat):Prop:=∃e i,P.underlying t=some (.array n e)/\P.info? e=some i/\i.size=size
theorem TyStr.mk {P:Program}{t:TypeId}(h:P.underlying t=some .string):TyStr P t:=h
theorem TyArr.mk {P:Program}{t n size:Nat}(e i) (h:P.underlying t=some (.array n e)) (h2:P.info? e=some i) (h3:i.size=size):TyArr P t n size:=⟨e,i,h,h2,h3⟩
section
variable {P:Program}{w:World}{ρ:Operand->Value}{d:Option Nat}{ty:TypeId}{pos:String}{af:Array Edge}{gd:Option (Nat×Bool)}{t t2:TypeId}{x y:Operand}{a b:ByteArray}{k k':IntKind}{m n:Int}
theorem MG (hx:ρ x=.string a) (hy:ρ y=.string b) (h:a.size+b.size<=9223372036854775807):(execOp ρ ⟨d,.binOp .add t x y t2,ty,pos,af,gd⟩).run P w=.ok (.value (.string (a++b))) w:=by
 have h2:¬(((a.size+b.size:Nat):Int)>IntKind.i64.max):=by simp[IntKind.max,IntKind.bits,IntKind.signed];omega
 have e:IntKind.i64.max=9223372036854775807:=by simp[IntKind.max,IntKind.bits,IntKind.signed]
 simp[execOp,hx,hy,eqGuard,binOp,Op.stringOp,e]
 omega
theorem MH (hx:ρ x=.string a) (hy:ρ y=.string b):(execOp ρ ⟨d,.binOp .eql t x y t2,ty,pos,af,gd⟩).run P w=.ok (.value (.bool (a.toList==b.toList))) w:=by
 simp[execOp,hx,hy,eqGuard,binOp,Op.stringOp]
theorem MI (hx:ρ x=.string a) (hy:ρ y=.string b):(execOp ρ ⟨d,.binOp .neq t x y t2,ty,pos,af,gd⟩).run P w=.ok (.value (.bool !(a.toList==b.toList))) w:=by
 simp[execOp,hx,hy,eqGuard,binOp,Op.stringOp]
theorem MJ (hT:TyStr P t) (hx:ρ x=.string a):(execOp ρ ⟨d,.call {callee:=.builtin .len,args:= #[x],argTypes:= #[t]},ty,pos,af,gd⟩).run P w=.ok (.value (.int .i64 a.size)) w:=by
 simp[execOp,resolve,invoke,builtin,hx,Builtin.len_,run_underlying hT,goInt]
theorem MK {i:Nat}{c:UInt8}(hT:TyStr P t) (hx:ρ x=.string a) (hi:ρ y=.int k (i:Int)) (h:a[i]? =some c):(execOp ρ ⟨d,.index t x y,ty,pos,af,gd⟩).run P w=.ok (.value (.int .u8 c.toNat)) w:=by
 simp[execOp,hx,hi,Instr.index,asIntOf,run_underlying hT,h]
theorem FK {i:Nat}{lo:Operand}(hT:TyStr P t) (hx:ρ x=.string a) (hl:ρ lo=.int k (i:Int)) (h:i<=a.size):(execOp ρ ⟨d,.slice t x (some lo) none none,ty,pos,af,gd⟩).run P w=.ok (.value (.string (a.extract i a.size))) w:=by
 have hb:(Instr.sliceBound (.int k (i:Int)) a.size .sliceB).run P w=.ok i w:=by
  have:=run_sliceBound (P:=P) (w:=w) k (i:Int) a.size .sliceB (by omega) (by omega)
  simpa using this
 simp[execOp,hx,hl,Instr.sliceAt,Instr.slice,Instr.sliceBounds,run_underlying hT,hb]
theorem FL {i:Nat}{hi:Operand}(hT:TyStr P t) (hx:ρ x=.string a) (hl:ρ hi=.int k (i:Int)) (h:i<=a.size):(execOp ρ ⟨d,.slice t x none (some hi) none,ty,pos,af,gd⟩).run P w=.ok (.value (.string (a.extract 0 i))) w:=by
 have hb:(Instr.sliceBound (.int k (i:Int)) a.size .sliceAlen).run P w=.ok i w:=by
  have:=run_sliceBound (P:=P) (w:=w) k (i:Int) a.size .sliceAlen (by omega) (by omega)
  simpa using this
 simp[execOp,hx,hl,Instr.sliceAt,Instr.slice,Instr.sliceBounds,run_underlying hT,hb]
theorem ML {i j:Nat}{lo hi:Operand}(hT:TyStr P t) (hx:ρ x=.string a) (hl:ρ lo=.int k (i:Int)) (hh:ρ hi=.int k' (j:Int)) (h:i<=j) (h2:j<=a.size):(execOp ρ ⟨d,.slice t x (some lo) (some hi) none,ty,pos,af,gd⟩).run P w=.ok (.value (.string (a.extract i j))) w:=by
 have hb:(Instr.sliceBound (.int k' (j:Int)) a.size .sliceAlen).run P w=.ok j w:=by
  have:=run_sliceBound (P:=P) (w:=w) k' (j:Int) a.size .sliceAlen (by omega) (by omega)
  simpa using this
 have hb2:(Instr.sliceBound (.int k (i:Int)) j .sliceB).run P w=.ok i w:=by
  have:=run_sliceBound (P:=P) (w:=w) k (i:Int) j .sliceB (by omega) (by omega)
  simpa using this
 simp[execOp,hx,hl,hh,Instr.sliceAt,Instr.slice,Instr.sliceBounds,run_underlying hT,hb,hb2]
theorem SE (hx:ρ x=.int k m) (hy:ρ y=.int k n):(execOp ρ ⟨d,.binOp .and t x y t2,ty,pos,af,gd⟩).run P w=.ok (.value (.int k (k.wrap (BitVec.ofInt k.bits m&&& BitVec.ofInt k.bits n).toNat))) w:=by
 simp[execOp,hx,hy,eqGuard,binOp,Op.intBits]
theorem ZU (hx:ρ x=.int k m) (hy:ρ y=.int k n):(execOp ρ ⟨d,.binOp .or t x y t2,ty,pos,af,gd⟩).run P w=.ok (.value (.int k (k.wrap (BitVec.ofInt k.bits m ||| BitVec.ofInt k.bits n).toNat))) w:=by
 simp[execOp,hx,hy,eqGuard,binOp,Op.intBits]
theorem AH (hx:ρ x=.int k m) (hy:ρ y=.int k' n) (h:0<=n):(execOp ρ ⟨d,.binOp .shr t x y t2,ty,pos,af,gd⟩).run P w=.ok (.value (.int k (m.fdiv (2^(min n.toNat k.bits))))) w:=by
 have h2:¬n<0:=by omega
 simp[execOp,hx,hy,eqGuard,binOp,Op.shift,h2]
theorem AI (hx:ρ x=.int k m) (hy:ρ y=.int k' n) (h:0<=n):(execOp ρ ⟨d,.binOp .shl t x y t2,ty,pos,af,gd⟩).run P w=.ok (.value (.int k (k.wrap (m*2^(min n.toNat k.bits))))) w:=by
 have h2:¬n<0:=by omega
 simp[execOp,hx,hy,eqGuard,binOp,Op.shift,h2]
theorem SF {c size i:Nat}{ad:Addr}(hT:TyArr P t c size) (hx:ρ x=.pointer (some ad)) (hi:ρ y=.int k (i:Int)) (h:i<c):(execOp ρ ⟨d,.indexAddr t x y,ty,pos,af,gd⟩).run P w=.ok (.value (.pointer (some (ad.add (i*size))))) w:=by
 obtain⟨e,ii,e1,e2,e3⟩:=hT
 have h1:((i:Int)<(c:Int)):=by omega
 simp[execOp,hx,hi,Instr.indexAt,asIntOf,run_underlying e1,Instr.sureAddr,h1,sizeOf,typeInfo,e2,e3]
 intro h9;omega
end
end Go.Proofs.YtimiaildfkimfaaGreatDoor
