/- Part 6 of a proof: Limb8 to RatL. -/
import Derived.Test.YtimiaildfkimfaaGreatDoorM5
import Derived.Deep.RegionHeld3
import Derived.Shelf.Small.Bits
import Derived.KernelRfl
import Derived.Test.YtimiaildfkimfaaGreatDoorProg
import Derived.Test.YtimiaildfkimfaaGreatDoorM1
import Derived.Deep.LoopGhost
import Derived.Deep.Cut
import Derived.Deep.CutRange
import Derived.Deep.DeepCutAuto
import Derived.Test.YtimiaildfkimfaaGreatDoorM4
set_option maxRecDepth 100000
set_option linter.unusedVariables false
set_option linter.unusedSimpArgs false
namespace Go.Proofs.YtimiaildfkimfaaGreatDoor
open Go Go.RowKit
theorem aBx (w:World):(Instr.makeSlice 23 (.int .i64 0) (.int .i64 0)).run Tryz.prog w=.ok (.slice (some ⟨w.heap.size,0,none⟩) 0 0) (w.alloc (.cells #[] 223)):=by
 obtain⟨ht,i,hi,hz,hs,hb,hzs,hp⟩:=vV
 have hr:=run_make (P:=Tryz.prog) w 23 223 i (.int .u32 0) ht hi hz .i64 .i64 0 0 (by omega) (by omega) (by omega) (by omega)
 have e:madeCells (Value.int .u32 0).cells (0*i.size)= #[]:=by rw[Nat.zero_mul];exact Array.eq_empty_of_size_eq_zero (size_madeCells _ _)
 rw[show(0:Int).toNat*i.size=0*i.size from rfl,e]at hr
 exact hr
theorem Ix (A:Option Addr) (n c:Nat) (k:Int) (xs:List Nat) (w:World) (ha:U32 w w.heap.size A n c xs) (h0:vl 4294967296 xs=0):
  Calls Tryz.prog 234 #[.slice A n c,.int .i64 k] w (Cv [] 0 w):=by
 have ht:trim xs=[]:=(lJ 4294967296 (by omega) xs).2 h0
 go_enter Tryz.func234,Tryz.ntmps234
 go_wp2_with fail
 refine(fA _ _ _ 0 _ _ _ ha (by rw[ht];rfl)).mono ?_
 rintro e w' ⟨rfl,rfl⟩
 go_wp2_with fail
 go_ret2
 exact⟨_,_,_,rfl,Own.nil,Below.refl _ _⟩
set_option maxHeartbeats 1000000 in
theorem uD (A:Option Addr) (n0 c k v:Nat) (xs:List Nat) (w:World) (ha0:U32 w w.heap.size A n0 c xs) (hv:vl 4294967296 xs=v) (hn0':n0<=1099511627775) (hk:k<32) (h0:v≠0):
    Calls Tryz.prog 234 #[.slice A n0 c,.int .i64 (k:Int)] w (Cv (dg 4294967296 (v*2^k)) 0 w):=by
  have ht:trim xs=dg 4294967296 v:=by rw[<-hv,fR (by omega) ha0.lim]
  have ha:=ha0.trim
  have hn:=dH xs
  rw[ha0.len]at hn
  obtain⟨n,hn1⟩:∃n,(trim xs).length=n:=⟨_,rfl⟩
  rw[hn1]at ha hn
  have HT:=Lib.hid hn1
  rw[ht]at ha
  have hl:=ha.len
  clear hn1 ht
  have hn0:0<n:=by
    rcases Nat.eq_zero_or_pos n with h | h
    · subst h
      exact absurd ((fC (by omega)).1 (List.eq_nil_of_length_eq_zero hl)) h0
    exact h
  have HL:=Lib.hid hl
  clear hl
  have q1:((n:Int)==0)=false:=by rw[beq_eq_false_iff_ne];omega
  have q2:(k:Int)/32=0:=by omega
  have q3:(k:Int)%32=k:=by omega
  have mk:=aBx
  have q4:IntKind.i64.wrap 0=0:=rfl
  have q5:(k:Int).tmod 32=k:=by rw[Int.tmod_eq_emod_of_nonneg (by omega)];omega
  go_enter Tryz.func234,Tryz.ntmps234
  go_wp2_with fail
  refine(fA _ _ _ n _ _ _ ha0 HT.out).mono ?_
  rintro e w' ⟨rfl,rfl⟩
  go_wp2_with fail
  go_region_held3 (fun w'=>Below w.heap.size w w') ((repeat (first | exact Below.refl _ _ | assumption | refine Below.drew ?_ | refine Below.alloc ?_ (by first | exact aX _ | exact Below.size (by assumption) | (simp;done) | (simp;omega) | omega) _)))
    (first
      | (go_at_call 244
         refine La (w0:=w) ?_ (fun hB=>?_)
         · (repeat (first | exact Below.refl _ _ | assumption | refine Below.drew ?_ | refine Below.alloc ?_ (by first | exact aX _ | exact Below.size (by assumption) | (simp;done) | (simp;omega) | omega) _))
         refine(DT A n c v k _ (ha.now hB) (by omega) hk).mono ?_
         rintro e w1 ⟨A1,n1,c1,rfl,h1,hb1⟩
         have hb2:=hB.trans (hb1.mono hB.size)
         clear hB hb1)
      | (go_at_call 243
         refine La (w0:=w) ?_ (fun hB=>?_)
         · (repeat (first | exact Below.refl _ _ | assumption | refine Below.drew ?_ | refine Below.alloc ?_ (by first | exact aX _ | exact Below.size (by assumption) | (simp;done) | (simp;omega) | omega) _))
         refine(II _ _ _ _ _ _ _ [] (dg 4294967296 (v*2^k)) _ ?_ (rM _ _ _ 0 ?_) (rM _ _ _ 1 ?_) (U32.empty ?_) (U32.now h1 ?_) ?_ ?_ ?_).mono ?_
         · simp
         · simp
         · simp
         · omega
         · (repeat (first | exact Below.refl _ _ | refine Below.alloc ?_ (by first | exact aX _ | (simp;done)) _))
         · omega
         · have hl:=cW (B:=4294967296) (n:=v*2^k) (k:=n+1) (by omega) (by
             rw[Nat.pow_succ]
             exact Nat.mul_lt_mul_of_lt_of_lt (by rw[<-HL.out];exact qP (by omega)) (Nat.lt_of_lt_of_le (Nat.pow_lt_pow_right (by omega) hk) (by decide)))
           rw[h1.len]at hl
           omega
         · have hl:=h1.len
           rcases Nat.eq_zero_or_pos n1 with hz | hz
           · rw[hz]at hl
             have:=(fC (by omega)).1 (List.eq_nil_of_length_eq_zero hl)
             have h2:0<v*2^k:=Nat.mul_pos (by omega) (Nat.pos_of_ne_zero (by simp))
             omega
           omega
         rintro e w2 ⟨A2,n2,c2,rfl,h2,hb3⟩
         have hb4:=hB.trans (hb3.mono hB.size)
         have h3:=h2.base_le hB.size
         clear hB hb3 h2))
  all_goals
    go_wp2_with fail
    go_ret2
    exact⟨_,_,_,rfl,h3,hb4⟩
set_option maxHeartbeats 1000000 in
theorem Iy (A:Option Addr) (n0 c k v:Nat) (xs:List Nat) (w:World) (ha0:U32 w w.heap.size A n0 c xs) (hv:vl 4294967296 xs=v) (hn0':n0<=1099511627775) (hk0:0<k) (hk:k<32) (h0:v≠0):
  Calls Tryz.prog 234 #[.slice A n0 c,.int .i64 (-(k:Int))] w (Cv (dg 4294967296 (v/2^k)) 0 w):=by
 have ht:trim xs=dg 4294967296 v:=by rw[<-hv,fR (by omega) ha0.lim]
 have ha:=ha0.trim
 have hn:=dH xs
 rw[ha0.len]at hn
 obtain⟨n,hn1⟩:∃n,(trim xs).length=n:=⟨_,rfl⟩
 rw[hn1]at ha hn
 have HT:=Lib.hid hn1
 rw[ht]at ha
 have hl:=ha.len
 clear hn1 ht
 have hn0:0<n:=by
  rcases Nat.eq_zero_or_pos n with h | h
  ·subst h
   exact absurd ((fC (by omega)).1 (List.eq_nil_of_length_eq_zero hl)) h0
  exact h
 have HL:=Lib.hid hl
 clear hl
 have hcap:=ha.cap
 have hbig:=ha.big
 have q1:((n:Int)==0)=false:=by rw[beq_eq_false_iff_ne];omega
 have q2:(k:Int)/32=0:=by omega
 have q3:(k:Int)%32=k:=by omega
 go_enter Tryz.func234,Tryz.ntmps234
 go_wp2_with fail
 refine(fA _ _ _ n _ _ _ ha0 HT.out).mono ?_
 rintro e w' ⟨rfl,rfl⟩
 go_wp2_with fail
 refine(Zj _ _ _ _ _ _ ha (by omega) hk).mono ?_
 rintro e w1 ⟨A1,n1,c1,rfl,h1,hb1⟩
 go_wp2_with fail
 have hl2:n1<=n:=by
  rw[<-h1.len,<-HL.out]
  exact dS (by omega) (Nat.div_le_self _ _)
 refine(fA _ _ _ n1 _ _ _ h1 (by rw[xP (by omega)];exact h1.len)).mono ?_
 rintro e w' ⟨rfl,rfl⟩
 go_wp2_with fail
 refine(vB _ _ _ _ _ h1 (by omega)).mono ?_
 rintro e w2 ⟨A2,n2,c2,rfl,h2,hb2⟩
 go_wp2_with fail
 go_ret2
 exact⟨_,_,_,rfl,h2.base_le hb1.size,hb1.trans (hb2.mono hb1.size)⟩
def RowInv (ys os0 os:List Nat) (x i k C:Nat):Prop:=
 C<4294967296/\os.length=os0.length/\vl 4294967296 (os.take (i+k))+4294967296^(i+k)*C=vl 4294967296 (os0.take (i+k))+4294967296^i*(x*vl 4294967296 (ys.take k))/\
  ∀j,i+k<=j->nth os j=nth os0 j
theorem RowInv.zero (ys os0:List Nat) (x i:Nat):RowInv ys os0 os0 x i 0 0:=⟨by omega,rfl,by simp[vl],fun _ _=>rfl⟩
theorem RowInv.lt {ys os0 os:List Nat}{x i k C:Nat}(h:RowInv ys os0 os x i k C):C<4294967296:=h.1
theorem RowInv.step {ys os0 os:List Nat}{x i k C:Nat}(h:RowInv ys os0 os x i k C) (hk:i+k<os.length) (hx:x<4294967296) (hy:Lim 4294967296 ys) (ho:Lim 4294967296 os):
  RowInv ys os0 (os.set (i+k) (gN (x*nth ys k+nth os (i+k)+C))) x i (k+1) (nM (x*nth ys k+nth os (i+k)+C)):=by
 obtain⟨h1,hl,h2,h3⟩:=h
 have y1:=hy.nth (by omega) k
 have o1:=ho.nth (by omega) (i+k)
 have hm:x*nth ys k<=4294967295*4294967295:=Nat.mul_le_mul (by omega) (by omega)
 refine⟨LN (by omega),by rw[List.length_set,hl],?_,fun j hj=>by rw[oS (by omega)];exact h3 j (by omega)⟩
 rw[<-Nat.add_assoc,kB _ _ hk,cD,cD,Nat.pow_succ,h3 (i+k) (aX _)]
 rw[h3 (i+k) (aX _)]at o1
 have e:=Zh (x*nth ys k+nth os0 (i+k)+C)
 rw[Nat.pow_add]at*
 generalize 4294967296^i=p at*
 generalize 4294967296^k=r at*
 generalize gN (x*nth ys k+nth os0 (i+k)+C)=s at*
 generalize nM (x*nth ys k+nth os0 (i+k)+C)=q at*
 have e2:p*r*(s+4294967296*q)=p*r*(x*nth ys k+nth os0 (i+k)+C):=by rw[e]
 grind
def ProdInv (xs ys os:List Nat) (i:Nat):Prop:=
 os.length=xs.length+ys.length/\vl 4294967296 (os.take (i+ys.length))=vl 4294967296 (xs.take i)*vl 4294967296 ys/\∀j,i+ys.length<=j->nth os j=0
theorem Nc (n j:Nat):nth (List.replicate n 0) j=0:=by
 unfold nth
 rw[List.getD_eq_getElem?_getD,List.getElem?_replicate]
 split <;> rfl
theorem ProdInv.zero (xs ys:List Nat):ProdInv xs ys (List.replicate (xs.length+ys.length) 0) 0:=
 ⟨by simp,by rw[List.take_replicate,Bh];simp[vl],fun _ _=>Nc _ _⟩
theorem ProdInv.step {xs ys os0 os:List Nat}{i C:Nat}(h:ProdInv xs ys os0 i) (hi:i<xs.length) (hr:RowInv ys os0 os (nth xs i) i ys.length C):ProdInv xs ys (os.set (i+ys.length) C) (i+1):=by
 obtain⟨h1,h2,h3⟩:=h
 obtain⟨r1,rl,r2,r3⟩:=hr
 refine⟨by rw[List.length_set,rl,h1],?_,fun j hj=>by rw[oS (by omega),r3 j (by omega)];exact h3 j (by omega)⟩
 rw[show i+1+ys.length=i+ys.length+1 from by omega,kB _ _ (by omega),r2,h2,cD,cK _ (aX _)]
 generalize 4294967296^i=p at*
 grind
theorem ProdInv.end_ {xs ys os:List Nat}(h:ProdInv xs ys os xs.length):vl 4294967296 os=vl 4294967296 xs*vl 4294967296 ys:=by
 obtain⟨h1,h2,_⟩:=h
 rw[cK _ (by omega),cK _ (aX _)]at h2
 exact h2
set_option maxHeartbeats 2000000 in
theorem PO (A B:Option Addr) (n m c d:Nat) (xs ys:List Nat) (w:World) (ha:U32 w w.heap.size A n c xs) (hb:U32 w w.heap.size B m d ys) (hn:n<=549755813888) (hm:m<=549755813888):
  Calls Tryz.prog 192 #[.slice A n c,.slice B m d] w (rC (dg 4294967296 (vl 4294967296 xs*vl 4294967296 ys)) w):=by
 have Hx:=Lib.hid ha.len
 have Hy:=Lib.hid hb.len
 go_enter Tryz.func192,Tryz.ntmps192
 go_wp2_with (refine sY _ vV rfl (.tmp 16) (.tmp 16) rfl .i64 .i64 _ _ (n+m) rfl rfl (by omega) (by omega) (by omega) (by omega) ?_;intro w1 hown hb1 hz1)
 have hO:=Own.made hown
 clear hown
 go_wp2_with fail
 go_loopw [20] (fun i wr=>∃(k:Nat) (os:List Nat),k<=n/\i=.int .i64 (k:Int)/\Own 223 wr w.heap.size (some ⟨w.heap.size,0,none⟩) (n+m) (n+m) os/\ProdInv xs ys os k/\Below w.heap.size w wr/\w.heap.size<wr.heap.size) (fun i _=>n-(intOf i).toNat)
 case atStart=>exact⟨0,_,Nat.zero_le _,rfl,hO,by have:=ProdInv.zero xs ys;rwa[Hx.out,Hy.out]at this,hb1,hz1⟩
 case round=>
  obtain⟨i,os,hi,rfl,hown,hI,hbw,hz⟩:=hrel
  by_cases hlt:i<n
  ·obtain⟨b,o,sp,rfl,hbb,hcc⟩:=(ha.below hbw).at_ hlt
   have hx1:=ha.lim.nth (by omega) i
   go_wp2_with fail
   obtain⟨wo,rfl⟩:∃wo:World,wo=wr:=⟨_,rfl⟩
   have hx2:(0:Int)<=(nth xs i:Int):=by omega
   go_loopw [8,27] (fun cy kk wr=>∃(k C:Nat) (oz:List Nat),k<=m/\kk=.int .i64 (k:Int)/\cy=.int .u64 (C:Int)/\Own 223 wr w.heap.size (some ⟨w.heap.size,0,none⟩) (n+m) (n+m) oz/\RowInv ys os oz (nth xs i) i k C/\Below w.heap.size w wr/\w.heap.size<wr.heap.size) (fun _ kk _=>m-(intOf kk).toNat)
   case atStart=>exact⟨0,0,os,Nat.zero_le _,rfl,rfl,hown,RowInv.zero _ _ _ _,hbw,hz⟩
   case round=>
    obtain⟨k,C,oz,hk,rfl,rfl,hown2,hR,hbw2,hz2⟩:=hrel
    have hC:=hR.lt
    by_cases hlk:k<m
    ·obtain⟨b2,o2,sp2,rfl,hbb2,hcc2⟩:=(hb.below hbw2).at_ hlk
     have hy1:=hb.lim.nth (by omega) k
     have ho0:=hown2.cell (show i+k<n+m by omega)
     have ho1:=hown2.lim.nth (by omega) (i+k)
     have ho2:=hown2.frozen (i+k)
     obtain⟨p0,p1⟩:=Rr (nth xs i:Int) (nth ys k:Int) (by omega) (by omega) (by omega) (by omega)
     have hset:=hown2.set (i+k) (v:=gN (nth xs i*nth ys k+nth oz (i+k)+C)) (Ek _)
     have hstep:=hR.step (by rw[hown2.len];omega) hx1 hb.lim hown2.lim
     go_wp2_with fail
     go_roundw
     case rel=>exact⟨k+1,_,_,by omega,by go_num,rfl,hset,hstep,hbw2.setCell (aX _) _,by simpa using hz2⟩
     case measure=>simp[intOf];omega
    obtain rfl:k=m:=by omega
    have ho0:=hown2.cell (show i+k<n+k by omega)
    have ho2:=hown2.frozen (i+k)
    have hset:=hown2.set (i+k) (v:=C) hC
    have hR2:=hR
    rw[<-Hy.out]at hR2
    have hstep:=hI.step (by rw[Hx.out];exact hlt) hR2
    rw[Hy.out]at hstep
    clear hR2
    go_wp2_with fail
    go_roundw
    case rel=>exact⟨i+1,_,by omega,by go_num,hset,hstep,hbw2.setCell (aX _) _,by simpa using hz2⟩
    case measure=>simp[intOf];omega
  obtain rfl:i=n:=by omega
  have hI2:=hI
  rw[<-Hx.out]at hI2
  have hend:=Lib.hid hI2.end_
  clear hI2
  go_wp2_with fail
  refine(gU _ _ _ os _ hown.u32 (by omega)).mono ?_
  rintro e w2 ⟨A2,n2,c2,rfl,h2,hb2⟩
  go_wp2_with fail
  go_ret
  exact⟨_,_,_,rfl,by rw[<-hend.out,fR (by omega) hown.lim];exact h2.base_le hbw.size,hbw.trans (hb2.mono hbw.size)⟩
def gV (u3 v2:Nat):Nat:=min 4294967295 (u3/v2)
def GuessInv (hi mid low first second q r:Nat):Prop:=
 q*first+r=hi*4294967296+mid/\r<4294967296/\gV ((hi*4294967296+mid)*4294967296+low) (first*4294967296+second)<=q/\q<=4294967297
theorem Fb (u v:Nat):u/v*v<=u:=Nat.div_mul_le_self u v
theorem GuessInv.start {hi mid low first second:Nat}(h0:2147483648<=first) (hf:first<4294967296) (hh:hi<=first) (hm:mid<4294967296) (hl:low<4294967296):
  GuessInv hi mid low first second ((hi*4294967296+mid)/first) ((hi*4294967296+mid)%first):=by
 have hp:0<first:=by omega
 have hmod:=Nat.mod_lt (hi*4294967296+mid) hp
 refine⟨by rw[Nat.mul_comm];exact Nat.div_add_mod _ _,by omega,?_,?_⟩
 ·unfold gV
  refine Nat.le_trans (Nat.min_le_right _ _) ?_
  rw[Nat.le_div_iff_mul_le hp]
  have h1:=Fb ((hi*4294967296+mid)*4294967296+low) (first*4294967296+second)
  generalize ((hi*4294967296+mid)*4294967296+low)/(first*4294967296+second)=q at*
  have h2:q*first*4294967296<=q*(first*4294967296+second):=by
   rw[Nat.mul_assoc];exact Nat.mul_le_mul_left _ (by omega)
  omega
 have:hi*4294967296+mid<(4294967297+1)*first:=by
  have:hi*4294967296<=first*4294967296:=Nat.mul_le_mul_right _ hh
  omega
 have:=Nat.div_lt_of_lt_mul (m:=hi*4294967296+mid) (n:=first) (k:=4294967298) (by omega)
 omega
theorem DU {B two low r x y z:Nat}(e:z=y*B+x) (h1:y+r=two) (hc:r*B+low<x):two*B+low<z:=by
 subst h1;subst e;rw[Nat.add_mul];omega
theorem GuessInv.down {hi mid low first second q r:Nat}(h:GuessInv hi mid low first second q r) (hc:4294967295<q\/r*4294967296+low<q*second):
  1<=q/\(q-1)*first+(r+first)=hi*4294967296+mid/\gV ((hi*4294967296+mid)*4294967296+low) (first*4294967296+second)<=q-1:=by
 obtain⟨h1,h2,h3,h4⟩:=h
 have hq:1<=q:=by
  rcases hc with hc | hc
  ·omega
  rcases Nat.eq_zero_or_pos q with h | h
  ·subst h;omega
  exact h
 refine⟨hq,?_,?_⟩
 ·have:(q-1)*first+first=q*first:=by rw[<-Nat.succ_mul,show(q-1).succ=q by omega]
  omega
 rcases hc with hc | hc
 ·unfold gV;omega
 have hlt:gV ((hi*4294967296+mid)*4294967296+low) (first*4294967296+second)<q:=by
  unfold gV
  refine Nat.lt_of_le_of_lt (Nat.min_le_right _ _) ?_
  have e:q*(first*4294967296+second)=q*first*4294967296+q*second:=by rw[Nat.mul_add,Nat.mul_assoc]
  have hu:(hi*4294967296+mid)*4294967296+low<q*(first*4294967296+second):=by
   exact DU e h1 hc
  have hv:0<first*4294967296+second:=by
   rcases Nat.eq_zero_or_pos (first*4294967296+second)with h | h
   ·rw[h]at hu;omega
   exact h
  exact(Nat.div_lt_iff_lt_mul hv).2 hu
 omega
theorem GuessInv.next {hi mid low first second q r:Nat}(h:GuessInv hi mid low first second q r) (hc:4294967295<q\/r*4294967296+low<q*second) (hr:r+first<4294967296):
  GuessInv hi mid low first second (q-1) (r+first):=by
 obtain⟨d1,d2,d3⟩:=h.down hc
 exact⟨d2,hr,d3,by have:=h.2.2.2;omega⟩
theorem Ru {u v q:Nat}(hv:0<v) (h1:q<=4294967295) (h2:q*v<=u):q<=gV u v:=by
 unfold gV
 have:=(Nat.le_div_iff_mul_le hv).2 h2
 omega
theorem GuessInv.brk {hi mid low first second q r:Nat}(h:GuessInv hi mid low first second q r) (hc:4294967295<q\/r*4294967296+low<q*second) (hr:4294967296<=r+first)
  (h0:2147483648<=first) (hh:hi<=first) (hm:mid<4294967296) (hs:second<4294967296):
  q-1=gV ((hi*4294967296+mid)*4294967296+low) (first*4294967296+second):=by
 obtain⟨d1,d2,d3⟩:=h.down hc
 refine Nat.le_antisymm ?_ d3
 have hq:q-1<=4294967295:=by
  rcases Nat.lt_or_ge 4294967295 (q-1)with h | h
  ·have h1:4294967296*first<=(q-1)*first:=Nat.mul_le_mul_right _ (by omega)
   have h2:hi*4294967296<=first*4294967296:=Nat.mul_le_mul_right _ hh
   omega
  exact h
 refine Ru (by omega) hq ?_
 have e:(q-1)*(first*4294967296+second)=(q-1)*first*4294967296+(q-1)*second:=by rw[Nat.mul_add,Nat.mul_assoc]
 have hb:(q-1)*second<=4294967295*4294967295:=Nat.mul_le_mul hq (by omega)
 rw[e]
 omega
theorem GuessInv.done {hi mid low first second q r:Nat}(h:GuessInv hi mid low first second q r) (h1:q<=4294967295) (h2:q*second<=r*4294967296+low) (hf:0<first):
  q=gV ((hi*4294967296+mid)*4294967296+low) (first*4294967296+second):=by
 refine Nat.le_antisymm (Ru (by omega) h1 ?_) h.2.2.1
 have e:q*(first*4294967296+second)=q*first*4294967296+q*second:=by rw[Nat.mul_add,Nat.mul_assoc]
 have:=h.1
 rw[e]
 omega
theorem Zk {u v u3 v2 p ul vl':Nat}(hu:u=u3*p+ul) (hul:ul<p) (hv:v=v2*p+vl') (hvl:vl'<p) (hv2:4294967296<=v2) (hlt:u<v*4294967296):
  u/v<=gV u3 v2/\gV u3 v2<=u/v+1:=by
 have hp:0<p:=by omega
 have hvp:0<v:=by
  have:0<v2*p:=Nat.mul_pos (by omega) hp
  omega
 constructor
 ·unfold gV
  have h1:u/v<4294967296:=(Nat.div_lt_iff_lt_mul hvp).2 (by rw[Nat.mul_comm];exact hlt)
  have h2:u/v<=u3/v2:=by
   rw[Nat.le_div_iff_mul_le (by omega)]
   have h3:=Fb u v
   generalize u/v=q at*
   have h4:q*v2*p<=q*v:=by rw[Nat.mul_assoc,hv];exact Nat.mul_le_mul_left _ (by omega)
   have h5:q*v2*p<(u3+1)*p:=by rw[Nat.add_mul];omega
   have:=Nat.lt_of_mul_lt_mul_right h5
   omega
  omega
 have hg1:gV u3 v2<=4294967295:=Nat.min_le_left _ _
 have hg2:gV u3 v2*v2<=u3:=by
  have:gV u3 v2<=u3/v2:=Nat.min_le_right _ _
  exact(Nat.le_div_iff_mul_le (by omega)).1 this
 generalize gV u3 v2=q at*
 rcases Nat.eq_zero_or_pos q with h | h
 ·rw[h];exact Nat.zero_le _
 have h6:q-1<=u/v:=by
  rw[Nat.le_div_iff_mul_le hvp]
  have h7:q*v2*p<=u3*p:=Nat.mul_le_mul_right _ hg2
  have h8:q*v=q*v2*p+q*vl':=by rw[hv,Nat.mul_add,Nat.mul_assoc]
  have h9:q*vl'<=4294967295*p:=Nat.mul_le_mul hg1 (by omega)
  have h10:4294967296*p<=v2*p:=Nat.mul_le_mul_right _ hv2
  have h11:(q-1)*v+v=q*v:=by rw[<-Nat.succ_mul,show(q-1).succ=q by omega]
  omega
 generalize u/v=j at*
 omega
theorem Wi (h l:Nat) (h1:h<4294967296) (l1:l<4294967296):bits BinOp.or IntKind.u64 ((h:Int)*4294967296) (l:Int)=(h:Int)*4294967296+(l:Int):=
 DO _ _ (by omega) (by omega) (by omega) (by omega)
theorem Wj {q s:Nat}(h1:q<=4294967295) (h2:s<4294967296):(0:Int)<=(q:Int)*(s:Int)/\(q:Int)*(s:Int)<=18446744065119617025:=
 Rr _ _ (by omega) (by omega) (by omega) (by omega)
set_option maxHeartbeats 1000000 in
theorem DV (hi mid low first second:Nat) (w:World) (h0:2147483648<=first) (hf:first<4294967296) (hh:hi<=first) (hm:mid<4294967296) (hl:low<4294967296) (hs:second<4294967296):
  Calls Tryz.prog 235 #[.int .u32 (hi:Int),.int .u32 (mid:Int),.int .u32 (low:Int),.int .u32 (first:Int),.int .u32 (second:Int)] w fun e w'=>
   e=.returned (.int .u64 (gV ((hi*4294967296+mid)*4294967296+low) (first*4294967296+second):Nat))/\∃k,w'=w.drewN k:=by
 have hs0:=GuessInv.start (low:=low) (second:=second) h0 hf hh hm hl
 have e1:=Wi hi mid (by omega) hm
 have n1:¬(first:Int)=0:=by omega
 go_enter Tryz.func235,Tryz.ntmps235
 go_wp2_with fail
 go_step3
 go_wp2_with fail
 go_quiet (fail)
 clear e1 n1
 go_wp2_with fail
 go_step3
 go_wp2_with fail
 go_loop [12,13] (fun a b=>∃q r:Nat,a=.int .u64 (q:Int)/\b=.int .u64 (r:Int)/\GuessInv hi mid low first second q r) (fun a _=>(intOf a).toNat)
 case atStart=>exact⟨_,_,rfl,rfl,hs0⟩
 case round=>
  obtain⟨q,r,rfl,rfl,hI⟩:=hrel
  have hr:=hI.2.1
  have hq:=hI.2.2.2
  by_cases hc:4294967295<q
  ·obtain⟨d1,d2,d3⟩:=hI.down (.inl hc)
   by_cases hb:r+first<4294967296
   ·have hn:=hI.next (.inl hc) hb
    clear hI d2 d3
    have c1:decide ((4294967295:Int)<(q:Int))=true:=by simp;omega
    go_wp2_with fail
    go_round
    case rel=>exact⟨q-1,r+first,by go_num,by go_num,hn⟩
    case measure=>simp[intOf];omega
   have hn:=hI.brk (.inl hc) (by omega) h0 hh hm hs
   have Hn:=Lib.hid hn
   clear hI d2 d3 hn
   have c1:decide ((4294967295:Int)<(q:Int))=true:=by simp;omega
   go_wp2_with fail
   go_ret
   exact⟨by rw[<-Hn.out];go_num,_,rfl⟩
  have c1:decide ((4294967295:Int)<(q:Int))=false:=by simp;omega
  have e2:=Wi r low hr hl
  obtain⟨p0,p1⟩:=Wj (q:=q) (s:=second) (by omega) hs
  by_cases hc2:r*4294967296+low<q*second
  ·obtain⟨d1,d2,d3⟩:=hI.down (.inr hc2)
   have c2:(r:Int)*4294967296+(low:Int)<(q:Int)*(second:Int):=by
    have:((r*4294967296+low:Nat):Int)<((q*second:Nat):Int):=by omega
    simpa using this
   by_cases hb:r+first<4294967296
   ·have hn:=hI.next (.inr hc2) hb
    clear hI d2 d3
    go_wp2_with fail
    go_round
    case rel=>exact⟨q-1,r+first,by go_num,by go_num,hn⟩
    case measure=>simp[intOf];omega
   have hn:=hI.brk (.inr hc2) (by omega) h0 hh hm hs
   have Hn:=Lib.hid hn
   clear hI d2 d3 hn
   go_wp2_with fail
   go_ret
   exact⟨by rw[<-Hn.out];go_num,_,rfl⟩
  have hn:=Lib.hid (hI.done (by omega) (by omega) (by omega))
  have c2:¬(r:Int)*4294967296+(low:Int)<(q:Int)*(second:Int):=by
   have:¬((r*4294967296+low:Nat):Int)<((q*second:Nat):Int):=by omega
   simpa using this
  clear hI
  go_wp2_with fail
  go_ret
  exact⟨by rw[<-hn.out];rfl,_,rfl⟩
def TakeInv (ax os ys:List Nat) (q k C b:Nat):Prop:=
 C<=4294967295/\b<=1/\os.length=ax.length/\vl 4294967296 (os.take k)+q*vl 4294967296 (ys.take k)=vl 4294967296 (ax.take k)+4294967296^k*(C+b)/\(∀j,k<=j->nth os j=nth ax j)/\(ys.length<k->C=0)
theorem TakeInv.zero (ax ys:List Nat) (q:Nat):TakeInv ax ax ys q 0 0 0:=⟨by omega,by omega,rfl,by simp[vl],fun _ _=>rfl,fun _=>rfl⟩
theorem TakeInv.at_ {ax os ys:List Nat}{q k C b:Nat}(h:TakeInv ax os ys q k C b):nth os k=nth ax k:=h.2.2.2.2.1 k (aX _)
theorem PP {q y C:Nat}(hq:q<=4294967295) (hy:y<4294967296) (hC:C<=4294967295):q*y+C<=18446744069414584320:=by
 have:q*y<=4294967295*4294967295:=Nat.mul_le_mul hq (by omega)
 omega
theorem TakeInv.step {ax os ys:List Nat}{q k C b:Nat}(h:TakeInv ax os ys q k C b) (hk:k<ax.length) (hq:q<=4294967295) (ha:Lim 4294967296 ax) (hy:Lim 4294967296 ys):
  TakeInv ax (os.set k (pB (nth ax k) (gN (q*nth ys k+C)) b)) ys q (k+1) (nM (q*nth ys k+C)) (rD (nth ax k) (gN (q*nth ys k+C)) b):=by
 obtain⟨h1,h2,h3,h4,h5,h6⟩:=h
 have y1:=hy.nth (by omega) k
 have a1:=ha.nth (by omega) k
 have hp:=PP hq y1 h1
 have e:=DR a1 (Ek (q*nth ys k+C)) h2
 have e1:=Zh (q*nth ys k+C)
 have hh:=LN (n:=q*nth ys k+C) (by omega)
 refine⟨by omega,Wg _ _ _,by rw[List.length_set,h3],?_,fun j hj=>by rw[oS (by omega)];exact h5 j (by omega),fun hj=>?_⟩
 ·rw[kB _ _ (by omega),cD,cD,Nat.pow_succ]
  generalize 4294967296^k=p at*
  generalize pB (nth ax k) (gN (q*nth ys k+C)) b=s at*
  generalize rD (nth ax k) (gN (q*nth ys k+C)) b=t at*
  generalize gN (q*nth ys k+C)=l at*
  generalize nM (q*nth ys k+C)=m at*
  have e2:p*(s+l+b)=p*(nth ax k+4294967296*t):=by rw[e]
  have e3:p*(l+4294967296*m)=p*(q*nth ys k+C):=by rw[e1]
  grind
 rw[fP (by omega),Nat.mul_zero,Nat.zero_add]
 unfold nM
 omega
theorem DW {u v q r:Nat}(hv:0<v) (h:r+q*v=u) (hr:r<v):q=u/v/\r=u%v:=by
 subst h
 rw[Nat.mul_comm q v,Nat.add_mul_div_left _ _ hv,Nat.add_mul_mod_self_left,Nat.div_eq_of_lt hr,Nat.mod_eq_of_lt hr]
 exact⟨by omega,rfl⟩
theorem TakeInv.right {ax os ys:List Nat}{q n C:Nat}(h:TakeInv ax os ys q n C 0) (hn:ys.length<n) (hq:vl 4294967296 (ax.take n)/vl 4294967296 ys<=q) (hv:0<vl 4294967296 ys):
  q=vl 4294967296 (ax.take n)/vl 4294967296 ys/\vl 4294967296 (os.take n)=vl 4294967296 (ax.take n)%vl 4294967296 ys:=by
 obtain⟨h1,h2,h3,h4,h5,h6⟩:=h
 rw[h6 hn,cK 4294967296 (l:=ys) (by omega)]at h4
 simp only[Nat.add_zero,Nat.mul_zero]at h4
 refine DW hv h4 ?_
 generalize vl 4294967296 (ax.take n)=u at*
 generalize vl 4294967296 (os.take n)=r at*
 generalize vl 4294967296 ys=v at*
 rcases Nat.lt_or_ge r v with h | h
 ·exact h
 have h7:(q+1)*v<=u:=by rw[Nat.succ_mul];omega
 have:=(Nat.le_div_iff_mul_le hv).2 h7
 omega
theorem TakeInv.over {ax os ys:List Nat}{q n C:Nat}(h:TakeInv ax os ys q n C 1) (hn:ys.length<n) (hl:n<=os.length) (hos:Lim 4294967296 os) (hys:Lim 4294967296 ys)
  (hq2:q<=vl 4294967296 (ax.take n)/vl 4294967296 ys+1) (hv:0<vl 4294967296 ys):
  1<=q/\q-1=vl 4294967296 (ax.take n)/vl 4294967296 ys/\∀r c,r<4294967296^n->c<=1->r+4294967296^n*c=vl 4294967296 (os.take n)+vl 4294967296 ys->r=vl 4294967296 (ax.take n)%vl 4294967296 ys:=by
 obtain⟨h1,h2,h3,h4,h5,h6⟩:=h
 rw[h6 hn,cK 4294967296 (l:=ys) (by omega)]at h4
 have ho:=fY (hos.take n)
 rw[dU,Nat.min_eq_left hl]at ho
 have hy:=fY hys
 have hp:4294967296^ys.length<=4294967296^n:=Nat.pow_le_pow_right (by omega) (by omega)
 simp only[Nat.zero_add,Nat.mul_one]at h4
 generalize vl 4294967296 (ax.take n)=u at*
 generalize vl 4294967296 (os.take n)=o at*
 generalize vl 4294967296 ys=v at*
 generalize 4294967296^n=p at*
 have hq3:u<q*v:=by omega
 have hdm:=Nat.div_add_mod u v
 have hml:=Nat.mod_lt u hv
 have hq4:u/v<q:=by
  rcases Nat.lt_or_ge (u/v) q with h | h
  ·exact h
  have:q*v<=u/v*v:=Nat.mul_le_mul_right _ h
  rw[Nat.mul_comm (u/v)]at this
  omega
 generalize u/v=z at*
 generalize u%v=y at*
 obtain rfl:q=z+1:=by omega
 refine⟨by omega,by omega,fun r c hr hc he=>?_⟩
 rw[Nat.succ_mul,Nat.mul_comm z]at h4
 have hc':c=0\/c=1:=by omega
 rcases hc' with rfl | rfl
 ·omega
 omega
theorem Rw (a l b:Int) (a0:0<=a) (a1:a<4294967296) (l0:0<=l) (l1:l<4294967296) (b0:0<=b) (b1:b<=1):
  IntKind.u64.wrap (IntKind.u64.wrap (a-l)-b)=if a<l+b then a-l-b+18446744073709551616 else a-l-b:=by
 rw[IntKind.wrap_u64,IntKind.wrap_u64]
 split <;> omega
theorem Wk (a p b:Nat) (P:Int) (hP:P=(p:Int)) (a1:a<4294967296) (b1:b<=1):
  IntKind.u64.wrap (IntKind.u64.wrap ((a:Int)-P%4294967296)-(b:Int))%4294967296=((pB a (gN p) b:Nat):Int):=by
 subst hP
 rw[Rw _ _ _ (by omega) (by omega) (by omega) (by omega) (by omega) (by omega)]
 unfold pB gN
 split <;> omega
theorem Rx (a p b:Nat) (P:Int) (hP:P=(p:Int)) (a1:a<4294967296) (b1:b<=1):
  IntKind.u64.wrap (IntKind.u64.wrap ((a:Int)-P%4294967296)-(b:Int))/9223372036854775808=((rD a (gN p) b:Nat):Int):=by
 subst hP
 rw[Rw _ _ _ (by omega) (by omega) (by omega) (by omega) (by omega) (by omega)]
 unfold rD gN
 split <;> split <;> omega
theorem IJ (a l b:Nat) (a1:a<4294967296) (hl:l<=4294967295) (b1:b<=1):
  IntKind.u64.wrap (IntKind.u64.wrap ((a:Int)-(l:Int))-(b:Int))%4294967296=((pB a (gN l) b:Nat):Int):=by
 have:=Wk a l b l rfl a1 b1
 rwa[show(l:Int)%4294967296=l by omega]at this
theorem DX (a l b:Nat) (a1:a<4294967296) (hl:l<=4294967295) (b1:b<=1):
  IntKind.u64.wrap (IntKind.u64.wrap ((a:Int)-(l:Int))-(b:Int))/9223372036854775808=((rD a (gN l) b:Nat):Int):=by
 have:=Rx a l b l rfl a1 b1
 rwa[show(l:Int)%4294967296=l by omega]at this
theorem kX (l:List Nat) (i k:Nat):nth (l.drop i) k=nth l (i+k):=by
 unfold nth;rw[List.getD_eq_getElem?_getD,List.getD_eq_getElem?_getD,List.getElem?_drop]
theorem Fc (l:List Nat) (i k v:Nat):(l.set (i+k) v).drop i=(l.drop i).set k v:=by
 rw[List.drop_set,if_neg (by omega),show i+k-i=k by omega]
theorem Fd (l:List Nat) (i k v:Nat):(l.set (i+k) v).take i=l.take i:=by
 rw[List.take_set,List.set_eq_of_length_le (by rw[dU];omega)]
def BackInv (o1 os ys:List Nat) (k C:Nat):Prop:=AddInv o1 ys os k C/\os.length=o1.length/\∀j,k<=j->nth os j=nth o1 j
theorem BackInv.zero (o1 ys:List Nat):BackInv o1 o1 ys 0 0:=⟨AddInv.zero _ _ _,rfl,fun _ _=>rfl⟩
theorem BackInv.at_ {o1 os ys:List Nat}{k C:Nat}(h:BackInv o1 os ys k C):nth os k=nth o1 k:=h.2.2 k (aX _)
theorem BackInv.step {o1 os ys:List Nat}{k C:Nat}(h:BackInv o1 os ys k C) (hk:k<o1.length) (hx:Lim 4294967296 o1) (hy:Lim 4294967296 ys):
  BackInv o1 (os.set k (gN (nth o1 k+nth ys k+C))) ys (k+1) (nM (nth o1 k+nth ys k+C)):=
 ⟨h.1.step (by rw[h.2.1];exact hk) hx hy,by rw[List.length_set];exact h.2.1,fun j hj=>by rw[oS (by omega)];exact h.2.2 j (by omega)⟩
def PQ (t:TypeId) (g off N c base n:Nat) (ax ys:List Nat) (w:World) (e:Ending) (w':World):Prop:=
 ∃os,e=.returned (.int .u32 ((vl 4294967296 ((ax.drop off).take n)/vl 4294967296 ys:Nat):Int))/\Own t w' base (some ⟨g,0,none⟩) N c os/\os.take off=ax.take off/\
  (∀j,off+n<=j->nth os j=nth ax j)/\vl 4294967296 ((os.drop off).take n)=vl 4294967296 ((ax.drop off).take n)%vl 4294967296 ys/\w.grownBy w' (some g)
set_option maxHeartbeats 2000000 in
theorem IK (g off N m c d cc q:Nat) (B:Option Addr) (ax ys:List Nat) (n base:Nat) (w:World) (ha:Own 223 w base (some ⟨g,0,none⟩) N c ax) (hoff:off+n<=N) (hN:N<=1099511627776)
  (hb:U32 w g B m d ys) (hm:m<n) (hq:q<=4294967295) (hv:0<vl 4294967296 ys)
  (hq1:vl 4294967296 ((ax.drop off).take n)/vl 4294967296 ys<=q) (hq2:q<=vl 4294967296 ((ax.drop off).take n)/vl 4294967296 ys+1):
  Calls Tryz.prog 236 #[.slice (some ⟨g,off,none⟩) n cc,.slice B m d,.int .u64 (q:Int)] w (PQ 223 g off N c base n ax ys w):=by
 have HA:=Lib.hid ha.len
 have HB:=Lib.hid hb.len
 have hgs:g<=w.heap.size:=by
  obtain⟨g2,e,_,h2⟩:=ha.form (by omega)
  injection e with e;injection e with e;omega
 go_enter Tryz.func236,Tryz.ntmps236
 go_wp2_with fail
 go_loopw [7,8,18] (fun cy bo i wr=>∃(k C b:Nat) (os:List Nat),k<=n/\i=.int .i64 (k:Int)/\cy=.int .u64 (C:Int)/\bo=.int .u64 (b:Int)/\Own 223 wr base (some ⟨g,0,none⟩) N c os/\Hid (os.take off=ax.take off)/\TakeInv (ax.drop off) (os.drop off) ys q k C b/\w.grownBy wr (some g)) (fun _ _ i _=>n-(intOf i).toNat)
 case atStart=>exact⟨0,0,0,ax,Nat.zero_le _,rfl,rfl,rfl,ha,rfl,TakeInv.zero _ _ _,Lc _ _⟩
 case round=>
  obtain⟨k,C,b,os,hk,rfl,rfl,rfl,hown,ht,hI,hgr⟩:=hrel
  have hbw:=zC hgr hgs
  by_cases hlt:k<n
  ·have ho1:=hown.cell (show off+k<N by omega)
   have ho2:=hown.frozen (off+k)
   have ho3:=hown.lim.nth (by omega) (off+k)
   have hC:=hI.1
   have hb1:=hI.2.1
   have hat:=hI.at_
   rw[kX,kX]at hat
   have Hat:=Lib.hid hat
   have hset:=hown.set (off+k) (v:=pB (nth os (off+k)) (gN (q*nth ys k+C)) b) (Wf _ _ _)
   have hstep:=hI.step (by rw[List.length_drop,HA.out];omega) hq (ha.lim.drop off) hb.lim
   rw[kX,<-hat,<-Fc]at hstep
   clear hat
   have hts:=Fd os off k (pB (nth os (off+k)) (gN (q*nth ys k+C)) b)
   rw[ht.out]at hts
   have Hts:=Lib.hid hts
   clear hts
   by_cases hkm:k<m
   ·obtain⟨b2,o2,sp2,rfl,hbb2,hcc2⟩:=(hb.below hbw).at_ hkm
    have hy1:=hb.lim.nth (by omega) k
    obtain⟨p0,p1⟩:=Wj hq hy1
    go_wp2_with fail
    go_roundw
    case rel=>
     rw[Wk (nth os (off+k)) (q*nth ys k+C) b ((q:Int)*(nth ys k:Int)+(C:Int)) (by simp) ho3 hb1,Rx (nth os (off+k)) (q*nth ys k+C) b ((q:Int)*(nth ys k:Int)+(C:Int)) (by simp) ho3 hb1]
     exact⟨k+1,_,_,_,by omega,by go_num,rfl,rfl,hset,Hts,hstep,vF hgr _ _⟩
    case measure=>simp[intOf];omega
   have hy0:nth ys k=0:=fP (by rw[HB.out];omega)
   rw[hy0,Nat.mul_zero,Nat.zero_add]at hset hstep Hts
   clear hy0
   go_wp2_with fail
   go_roundw
   case rel=>
    rw[IJ (nth os (off+k)) C b ho3 hC hb1,DX (nth os (off+k)) C b ho3 hC hb1]
    exact⟨k+1,_,_,_,by omega,by go_num,rfl,rfl,hset,Hts,hstep,vF hgr _ _⟩
   case measure=>simp[intOf];omega
  obtain rfl:k=n:=by omega
  have hb1:=hI.2.1
  have hhi:∀j,off+k<=j->nth os j=nth ax j:=fun j hj=>by
   have:=hI.2.2.2.2.1 (j-off) (by omega)
   rwa[kX,kX,show off+(j-off)=j by omega]at this
  have Hhi:=Lib.hid hhi
  clear hhi
  rcases(show b=0\/b=1 by omega)with rfl | rfl
  ·obtain⟨r1,r2⟩:=hI.right (by rw[HB.out];exact hm) hq1 hv
   have R1:=Lib.hid r1
   have R2:=Lib.hid r2
   clear r1 r2 hI hq1 hq2
   go_wp2_with fail
   go_ret
   exact⟨os,by rw[<-R1.out];rfl,hown,ht.out,Hhi.out,R2.out,hgr⟩
  obtain⟨hq0,r1,r2⟩:=hI.over (by rw[HB.out];exact hm) (by rw[List.length_drop,hown.len];omega) (hown.lim.drop off) hb.lim hq2 hv
  have R1:=Lib.hid r1
  have R2:=Lib.hid r2
  have HO:=Lib.hid hown.len
  have hol:=hown.lim.drop off
  clear r1 r2 hI hq1 hq2
  obtain⟨wo,rfl⟩:∃wo:World,wo=wr:=⟨_,rfl⟩
  rw[show((1:Nat):Int)=1 from rfl]
  go_wp2_with fail
  go_loopw [13,62] (fun cy i wr=>∃(j C2:Nat) (oz:List Nat),j<=k/\i=.int .i64 (j:Int)/\cy=.int .u32 (C2:Int)/\Own 223 wr base (some ⟨g,0,none⟩) N c oz/\Hid (oz.take off=ax.take off)/\BackInv (os.drop off) (oz.drop off) ys j C2/\w.grownBy wr (some g)) (fun _ i _=>k-(intOf i).toNat)
  case atStart=>exact⟨0,0,os,Nat.zero_le _,rfl,rfl,hown,ht,BackInv.zero _ _,hgr⟩
  case round=>
   obtain⟨j,C2,oz,hj,rfl,rfl,hown2,ht2,hK,hgr2⟩:=hrel
   have hbw2:=zC hgr2 hgs
   by_cases hlj:j<k
   ·have ho1:=hown2.cell (show off+j<N by omega)
    have ho2:=hown2.frozen (off+j)
    have ho3:=hown2.lim.nth (by omega) (off+j)
    have hC2:=hK.1.le
    have hat:=hK.at_
    rw[kX,kX]at hat
    have hset:=hown2.set (off+j) (v:=gN (nth oz (off+j)+nth ys j+C2)) (Ek _)
    have hstep:=hK.step (by rw[List.length_drop,HO.out];omega) hol hb.lim
    rw[kX,<-hat,<-Fc]at hstep
    clear hat
    have hts:=Fd oz off j (gN (nth oz (off+j)+nth ys j+C2))
    rw[ht2.out]at hts
    have Hts:=Lib.hid hts
    clear hts
    by_cases hkm:j<m
    ·obtain⟨b2,o2,sp2,rfl,hbb2,hcc2⟩:=(hb.below hbw2).at_ hkm
     have hy1:=hb.lim.nth (by omega) j
     go_wp2_with fail
     refine(xM _ _ _ _ ho3 hy1 (by omega)).mono ?_
     rintro e w' ⟨rfl,rfl⟩
     go_wp2_with fail
     go_roundw
     case rel=>exact⟨j+1,_,_,by omega,by go_num,rfl,hset,Hts,hstep,vF hgr2 _ _⟩
     case measure=>simp[intOf];omega
    have hy0:nth ys j=0:=fP (by rw[HB.out];omega)
    rw[hy0]at hset hstep Hts
    clear hy0
    go_wp2_with fail
    refine(xM _ 0 _ _ ho3 (by omega) (by omega)).mono ?_
    rintro e w' ⟨rfl,rfl⟩
    go_wp2_with fail
    go_roundw
    case rel=>exact⟨j+1,_,_,by omega,by go_num,rfl,hset,Hts,hstep,vF hgr2 _ _⟩
    case measure=>simp[intOf];omega
   obtain rfl:j=k:=by omega
   have h1:vl 4294967296 ((oz.drop off).take j)=vl 4294967296 ((ax.drop off).take j)%vl 4294967296 ys:=by
    refine R2.out _ C2 ?_ hK.1.le ?_
    ·have:=fY ((hown2.lim.drop off).take j)
     rwa[dU,List.length_drop,hown2.len,Nat.min_eq_left (by omega)]at this
    have:=hK.1.2
    rwa[cK 4294967296 (l:=ys) (by rw[HB.out];omega)]at this
   have H1:=Lib.hid h1
   have h2:∀i,off+j<=i->nth oz i=nth ax i:=fun i hi=>by
    have:=hK.2.2 (i-off) (by omega)
    rw[kX,kX,show off+(i-off)=i by omega]at this
    rw[this];exact Hhi.out i hi
   have H2:=Lib.hid h2
   clear h1 h2 hK
   go_wp2_with fail
   go_ret
   exact⟨oz,by rw[<-R1.out];go_num,hown2,ht2.out,H2.out,H1.out,hgr2⟩
end Go.Proofs.YtimiaildfkimfaaGreatDoor
namespace Go.Proofs.YtimiaildfkimfaaGreatDoor
open Go Go.Shelf
def laysLz_ren:Go.Shelf.Ren:=⟨fun | 133=>233 | 128=>242 | n=>n,fun | 51=>223 | 3=>3 | 4=>4 | 46=>245 | 5=>5 | 9=>9 | n=>n,fun | n=>n⟩
theorem DY:Go.Proofs.Lays.n133 Tryz.prog laysLz_ren:={
 mixed:=by kernel_rfl
 f128:=Tryz.func242.trans (congrArg some (by kernel_rfl))
 f133:=Tryz.func233.trans (congrArg some (by kernel_rfl))
 t3:=Tryz.underlying3
 a3:=Tryz.isAgg3
 z3:=Tryz.sizeOf3
 v3:=Tryz.zeroValue3
 t4:=Tryz.underlying4
 a4:=Tryz.isAgg4
 z4:=Tryz.sizeOf4
 v4:=Tryz.zeroValue4
 t5:=Tryz.underlying5
 a5:=Tryz.isAgg5
 z5:=Tryz.sizeOf5
 v5:=Tryz.zeroValue5
 t9:=Tryz.underlying9
 a9:=Tryz.isAgg9
 z9:=Tryz.sizeOf9
 v9:=Tryz.zeroValue9
 t46:=Tryz.underlying245
 a46:=Tryz.isAgg245
 z46:=Tryz.sizeOf245
 v46:=Tryz.zeroValue245
 t51:=Tryz.underlying223
 a51:=Tryz.isAgg223
 z51:=Tryz.sizeOf223
 v51:=Tryz.zeroValue223}
theorem yY:∀(f x:Nat),x<2^f->x≠0->0<Lib.bitLenAux f x/\2^(Lib.bitLenAux f x-1)<=x/\x<2^Lib.bitLenAux f x/\Lib.bitLenAux f x<=f
 | 0,x,h,h0=>by simp at h;exact absurd h h0
 | f+1,x,h,h0=>by
  simp only[Lib.bitLenAux,if_neg h0]
  by_cases h1:x/2=0
  ·rw[h1]
   have:x=1:=by omega
   subst this
   cases f <;> simp[Lib.bitLenAux]
  obtain⟨a,b,c,d⟩:=yY f (x/2) (by rw[Nat.pow_succ]at h;omega) h1
  generalize Lib.bitLenAux f (x/2)=k at*
  have e:2^k=2*2^(k-1):=by
   rw[<-Nat.pow_succ',show(k-1).succ=k by omega]
  refine⟨by omega,?_,?_,by omega⟩
  ·rw[show 1+k-1=k by omega];omega
  rw[Nat.add_comm,Nat.pow_succ];omega
theorem Mp {x:Nat}(h:x<4294967296) (h0:x≠0):∃k:Nat,(32:Int)-(Lib.bitLen x:Int)=(k:Int)/\k<32/\2147483648<=x*2^k/\x*2^k<4294967296:=by
 have hx:x<2^64:=Nat.lt_trans h (by decide)
 obtain⟨a,b,c,_⟩:=yY 64 x hx h0
 have hl:Lib.bitLen x<=32:=Lib.bitLen_le x 32 (by omega) (by omega)
 have hd:Lib.bitLen x=Lib.bitLenAux 64 x:=rfl
 rw[<-hd]at a b c
 generalize Lib.bitLen x=l at*
 have e1:2^(l-1)*2^(32-l)=2147483648:=by
  rw[<-Nat.pow_add,show l-1+(32-l)=31 by omega]
 have e2:2^l*2^(32-l)=4294967296:=by
  rw[<-Nat.pow_add,show l+(32-l)=32 by omega]
 have hp:0<2^(32-l):=Nat.pos_of_ne_zero (by simp)
 refine⟨32-l,by omega,by omega,?_,?_⟩
 ·rw[<-e1];exact Nat.mul_le_mul_right _ b
 rw[<-e2];exact Nat.mul_lt_mul_of_pos_right c hp
theorem bits_LeadingZeros32 (x:Nat) (w:World) (h:x<4294967296) (h0:x≠0):
  ∃k:Nat,k<32/\2147483648<=x*2^k/\x*2^k<4294967296/\
   Calls Tryz.prog 233 #[.int .u32 (x:Int)] w fun e w'=>e=.returned (.int .i64 (k:Int))/\w=w':=by
 obtain⟨k,e,k1,k2,k3⟩:=Mp h h0
 refine⟨k,k1,k2,k3,(Any.bits_LeadingZeros32 DY (x:Int) w (by omega) (by omega)).mono fun _ _ ⟨h1,h2⟩=>⟨?_,h2.symm⟩⟩
 rw[h1,<-e]
 rfl
end Go.Proofs.YtimiaildfkimfaaGreatDoor
namespace Go.Proofs.YtimiaildfkimfaaGreatDoor
open Go Go.RowKit
theorem Nd {l:List Nat}{m:Nat}(h:vl 4294967296 l<4294967296^m):vl 4294967296 (l.take m)=vl 4294967296 l/\vl 4294967296 (l.drop m)=0:=by
 by_cases hm:m<=l.length
 ·have e:=zB 4294967296 l m hm
  have:vl 4294967296 (l.drop m)=0:=by
   rcases Nat.eq_zero_or_pos (vl 4294967296 (l.drop m))with h0 | h0
   ·exact h0
   have:4294967296^m*1<=4294967296^m*vl 4294967296 (l.drop m):=Nat.mul_le_mul_left _ h0
   omega
  rw[this,Nat.mul_zero,Nat.add_zero]at e
  exact⟨e.symm,this⟩
 rw[cT (by omega),List.drop_eq_nil_of_le (by omega)]
 exact⟨rfl,rfl⟩
def DMInv (a0 os qs ys:List Nat) (k:Nat):Prop:=
 os.length=a0.length/\(∀j,j<k->nth os j=nth a0 j)/\vl 4294967296 (os.drop k)<vl 4294967296 ys/\vl 4294967296 (a0.drop k)=vl 4294967296 (qs.drop k)*vl 4294967296 ys+vl 4294967296 (os.drop k)
theorem DMInv.top {a ys:List Nat}{Q:Nat}(ha:Lim 4294967296 a) (hQ:Q+ys.length=a.length+1) (hy:ys.length≠0) (hv:4294967296^(ys.length-1)<=vl 4294967296 ys):
  DMInv (a++[0]) (a++[0]) (List.replicate Q 0) ys Q:=by
 refine⟨rfl,fun _ _=>rfl,?_,?_⟩
 ·have e:(a++[0]).drop Q=a.drop Q++[0]:=by rw[List.drop_append_of_le_length (by omega)]
  rw[e,oF,Nat.mul_zero,Nat.add_zero]
  have:=fY (ha.drop Q)
  rw[List.length_drop,show a.length-Q=ys.length-1 by omega]at this
  omega
 have e:(List.replicate Q 0).drop Q=[]:=List.drop_eq_nil_of_le (by simp)
 rw[e,RI,Nat.zero_mul,Nat.zero_add]
theorem DMInv.window {a0 os qs ys:List Nat}{i:Nat}(h:DMInv a0 os qs ys (i+1)) (hi:i<os.length) (hy:Lim 4294967296 ys) (ho:Lim 4294967296 os):
  vl 4294967296 ((os.drop i).take (ys.length+1))=vl 4294967296 (os.drop i)/\vl 4294967296 (os.drop i)=nth os i+4294967296*vl 4294967296 (os.drop (i+1))/\
   vl 4294967296 (os.drop i)<vl 4294967296 ys*4294967296/\vl 4294967296 ((os.drop i).drop (ys.length+1))=0:=by
 obtain⟨h1,h2,h3,h4⟩:=h
 have e:=mI 4294967296 (l:=os) (k:=i+1) (by omega) (by omega)
 rw[show i+1-1=i by omega]at e
 have o1:=ho.nth (by omega) i
 have hv:=fY hy
 have hlt:vl 4294967296 (os.drop i)<vl 4294967296 ys*4294967296:=by
  rw[e]
  generalize vl 4294967296 (os.drop (i+1))=r at*
  generalize vl 4294967296 ys=v at*
  omega
 have hp:vl 4294967296 (os.drop i)<4294967296^(ys.length+1):=by
  rw[Nat.pow_succ]
  exact Nat.lt_of_lt_of_le hlt (Nat.mul_le_mul_right _ (Nat.le_of_lt hv))
 obtain⟨t1,t2⟩:=Nd hp
 exact⟨t1,e,hlt,t2⟩
theorem Kq {a b:List Nat}(hl:a.length=b.length){k:Nat}(h:∀j,k<=j->nth a j=nth b j):a.drop k=b.drop k:=by
 apply List.ext_getElem
 ·simp[hl]
 intro i h1 h2
 rw[List.length_drop]at h1 h2
 have:=h (k+i) (by omega)
 rw[dT (by omega),dT (by omega)]at this
 simpa using this
theorem yZ {a b:List Nat}{i:Nat}(h:a.take i=b.take i){j:Nat}(hj:j<i):nth a j=nth b j:=by
 have e:∀l:List Nat,nth (l.take i) j=nth l j:=fun l=>by
  unfold nth
  rw[List.getD_eq_getElem?_getD,List.getD_eq_getElem?_getD,List.getElem?_take,if_pos hj]
 rw[<-e a,<-e b,h]
theorem DMInv.step {a0 os qs ys os':List Nat}{i:Nat}(h:DMInv a0 os qs ys (i+1)) (hi:i<os.length) (hq:i<qs.length) (hy:Lim 4294967296 ys) (ho:Lim 4294967296 os) (hv:0<vl 4294967296 ys)
  (hl:os'.length=os.length) (ht:os'.take i=os.take i) (hhi:∀j,i+(ys.length+1)<=j->nth os' j=nth os j)
  (hr:vl 4294967296 ((os'.drop i).take (ys.length+1))=vl 4294967296 ((os.drop i).take (ys.length+1))%vl 4294967296 ys) (hN:i+(ys.length+1)<=os.length):
  DMInv a0 os' (qs.set i (vl 4294967296 ((os.drop i).take (ys.length+1))/vl 4294967296 ys)) ys i:=by
 obtain⟨w1,w2,w3,w4⟩:=h.window hi hy ho
 obtain⟨h1,h2,h3,h4⟩:=h
 have hd:(os'.drop i).drop (ys.length+1)=(os.drop i).drop (ys.length+1):=by
  rw[List.drop_drop,List.drop_drop]
  exact Kq hl hhi
 have hv':vl 4294967296 (os'.drop i)=vl 4294967296 (os.drop i)%vl 4294967296 ys:=by
  rw[zB 4294967296 (os'.drop i) (ys.length+1) (by rw[List.length_drop];omega),hd,w4,hr,w1]
  omega
 have e:=mI 4294967296 (l:=a0) (k:=i+1) (by omega) (by omega)
 rw[show i+1-1=i by omega]at e
 have e2:=mI 4294967296 (l:=qs.set i (vl 4294967296 ((os.drop i).take (ys.length+1))/vl 4294967296 ys)) (k:=i+1) (by omega) (by rw[List.length_set];omega)
 have e3:(qs.set i (vl 4294967296 ((os.drop i).take (ys.length+1))/vl 4294967296 ys)).drop (i+1)=qs.drop (i+1):=by rw[List.drop_set,if_pos (by omega)]
 rw[show i+1-1=i by omega,Iw hq,e3]at e2
 refine⟨by omega,fun j hj=>by rw[yZ ht hj];exact h2 j (by omega),by rw[hv'];exact Nat.mod_lt _ hv,?_⟩
 rw[e,e2,hv',h4,<-h2 i (by omega),w1]
 have hdm:=Nat.div_add_mod (vl 4294967296 (os.drop i)) (vl 4294967296 ys)
 rw[w2]at hdm⊢
 generalize vl 4294967296 (os.drop (i+1))=r at*
 generalize vl 4294967296 ys=v at*
 generalize vl 4294967296 (qs.drop (i+1))=q at*
 generalize (nth os i+4294967296*r)/v=d at*
 generalize (nth os i+4294967296*r)%v=m at*
 grind
theorem DMInv.end_ {a0 os qs ys:List Nat}(h:DMInv a0 os qs ys 0) (hv:0<vl 4294967296 ys):vl 4294967296 qs=vl 4294967296 a0/vl 4294967296 ys/\vl 4294967296 os=vl 4294967296 a0%vl 4294967296 ys:=by
 obtain⟨_,_,h3,h4⟩:=h
 simp only[List.drop_zero]at h3 h4
 exact DW hv (by omega) h3
theorem PR {l:List Nat}{m:Nat}(h:l.length=m+3):vl 4294967296 l=((nth l (m+2)*4294967296+nth l (m+1))*4294967296+nth l m)*4294967296^m+vl 4294967296 (l.take m):=by
 have e1:=cD 4294967296 l m
 have e2:=cD 4294967296 l (m+1)
 have e3:=cD 4294967296 l (m+1+1)
 rw[cK 4294967296 (l:=l) (by omega)]at e3
 rw[e3,e2,e1]
 simp only[Nat.pow_succ]
 generalize 4294967296^m=p at*
 grind
theorem PS {l:List Nat}{m:Nat}(h:l.length=m+2):vl 4294967296 l=(nth l (m+1)*4294967296+nth l m)*4294967296^m+vl 4294967296 (l.take m):=by
 have e1:=cD 4294967296 l m
 have e2:=cD 4294967296 l (m+1)
 rw[cK 4294967296 (l:=l) (by omega)]at e2
 rw[e2,e1]
 simp only[Nat.pow_succ]
 generalize 4294967296^m=p at*
 grind
theorem PT {B p f s hi mid low v' ul:Nat}(hs:s<B) (hv:v'<p) (hlt:((hi*B+mid)*B+low)*p+ul<((f*B+s)*p+v')*B):hi<=f:=by
 rcases Nat.lt_or_ge f hi with h | h
 ·exfalso
  have hB:0<B:=by omega
  have h1:(f*B+s)*p+v'<(f*B+s+1)*p:=by rw[Nat.succ_mul];omega
  have h2:=Nat.mul_lt_mul_of_pos_right h1 hB
  have h3:f*B+s+1<=(f+1)*B:=by rw[Nat.succ_mul];omega
  have h4:=Nat.mul_le_mul_right B (Nat.mul_le_mul_right p h3)
  have h5:=Nat.mul_le_mul_right B (Nat.mul_le_mul_right p (Nat.mul_le_mul_right B h))
  have h6:hi*B*p*B=hi*B*B*p:=by rw[Nat.mul_assoc (hi*B) p B,Nat.mul_comm p B,<-Nat.mul_assoc]
  have h7:hi*B*B*p<=((hi*B+mid)*B+low)*p:=Nat.mul_le_mul_right _ (by rw[Nat.add_mul];omega)
  have h8:(f+1)*B*p*B<=hi*B*p*B:=h5
  omega
 exact h
theorem Ry {u:List Nat}{ys:List Nat}{m:Nat}(hu:Lim 4294967296 u) (hul:u.length=m+3) (hy:Lim 4294967296 ys) (hyl:ys.length=m+2) (hf:2147483648<=nth ys (m+1)) (hlt:vl 4294967296 u<vl 4294967296 ys*4294967296):
  nth u (m+2)<=nth ys (m+1)/\
  vl 4294967296 u/vl 4294967296 ys<=gV ((nth u (m+2)*4294967296+nth u (m+1))*4294967296+nth u m) (nth ys (m+1)*4294967296+nth ys m)/\
  gV ((nth u (m+2)*4294967296+nth u (m+1))*4294967296+nth u m) (nth ys (m+1)*4294967296+nth ys m)<=vl 4294967296 u/vl 4294967296 ys+1:=by
 have e1:=PR hul
 have e2:=PS hyl
 have l1:=fY (hu.take m)
 have l2:=fY (hy.take m)
 rw[dU,Nat.min_eq_left (by omega)]at l1 l2
 have y1:=hy.nth (by omega) m
 refine⟨?_,Zk e1 l1 e2 l2 (by omega) hlt⟩
 rw[e1,e2]at hlt
 exact PT y1 l2 hlt
def Apart (A1 A2:Option Addr):Prop:=∀a b,A1=some a->A2=some b->a.block≠b.block
theorem Apart.left (A:Option Addr):Apart none A:=fun _ _ h=>by cases h
theorem Apart.symm {A1 A2:Option Addr}(h:Apart A1 A2):Apart A2 A1:=fun a b ha hb e=>h b a hb ha e.symm
theorem Apart.of {t:TypeId}{w0 w1:World}{b1 b2 n1 c1 n2 c2:Nat}{A1 A2:Option Addr}{xs ys:List Nat}(h1:Own t w0 b1 A1 n1 c1 xs) (h2:Own t w1 b2 A2 n2 c2 ys) (h:w0.heap.size<=b2):Apart A1 A2:=by
 rintro a b rfl rfl e
 rcases h1.row.2 with⟨hh,_⟩ | ⟨g,cap,cur,hv,_,hg,_⟩
 ·cases hh
 rcases h2.row.2 with⟨hh,_⟩ | ⟨g2,cap2,cur2,hv2,hb2,_⟩
 ·cases hh
 injection hv with e1
 injection e1 with e1
 injection hv2 with e2
 injection e2 with e2
 subst e1;subst e2
 have:=(Array.getElem?_eq_some_iff.1 hg).1
 dsimp only at e
 omega
def Od (q r:List Nat) (e1:Nat) (w:World) (e:Ending) (w':World):Prop:=
 ∃A1 n1 c1 A2 n2 c2,e=.returned (.tuple #[.slice A1 n1 c1,.slice A2 n2 c2,.int .i64 (e1:Int)])/\Own 223 w' w.heap.size A1 n1 c1 q/\Own 223 w' w.heap.size A2 n2 c2 r/\Apart A1 A2/\Below w.heap.size w w'
set_option maxHeartbeats 1000000 in
theorem Nf (A B:Option Addr) (n m c d:Nat) (xs ys:List Nat) (w:World) (ha:U32 w w.heap.size A n c xs) (hb:U32 w w.heap.size B m d ys) (hn:n<=549755813888) (hm:m<=549755813888) (hlt:vl 4294967296 xs<vl 4294967296 ys):
  Calls Tryz.prog 217 #[.slice A n c,.slice B m d] w (Od (dg 4294967296 (vl 4294967296 xs/vl 4294967296 ys)) (dg 4294967296 (vl 4294967296 xs%vl 4294967296 ys)) 0 w):=by
 have e1:=Lib.hid (vC hlt)
 have e2:=Lib.hid (Nat.div_eq_of_lt hlt)
 have e3:=Lib.hid (Nat.mod_eq_of_lt hlt)
 have e4:=Lib.hid (fR (by omega) ha.lim:dg 4294967296 (vl 4294967296 xs)=trim xs)
 have hy:trim ys≠[]:=fun e=>by
  have:=(lJ 4294967296 (by omega) ys).1 e
  omega
 go_enter Tryz.func217,Tryz.ntmps217
 go_wp2_with fail
 refine(gU _ _ _ xs _ ha (by omega)).mono ?_
 rintro e w1 ⟨A1,n1,c1,rfl,h1,hb1⟩
 go_wp2_with fail
 refine(gU _ _ _ ys _ (hb.now hb1) (by omega)).mono ?_
 rintro e w2 ⟨A2,n2,c2,rfl,h2,hb2⟩
 have hn2:0<n2:=by
  rw[<-h2.len]
  exact List.length_pos_iff.2 hy
 have hq:((n2:Int)==0)=false:=by rw[beq_eq_false_iff_ne];omega
 have h3:=h1.below hb2
 have hb3:=hb1.trans (hb2.mono hb1.size)
 clear hy
 go_wp2_with fail
 refine(vW _ _ _ _ _ _ _ _ _ _ h3.u32 h2.u32).mono ?_
 rintro e w' ⟨rfl,q,rfl⟩
 rw[eF,eF,e1.out]
 go_wp2_with fail
 go_ret3
 refine⟨none,0,0,A1,n1,c1,rfl,by rw[e2.out];exact Own.nil,by rw[e3.out,e4.out];exact h3.drew_base,Apart.left _,iZ hb3 _⟩
set_option maxHeartbeats 1000000 in
theorem Kr (A B:Option Addr) (n m c d y:Nat) (xs ys:List Nat) (w:World) (ha:U32 w w.heap.size A n c xs) (hb:U32 w w.heap.size B m d ys) (hn:n<=549755813888) (hm:m<=549755813888) (hle:vl 4294967296 ys<=vl 4294967296 xs) (ht:trim ys=[y]):
  Calls Tryz.prog 217 #[.slice A n c,.slice B m d] w (Od (dg 4294967296 (vl 4294967296 xs/vl 4294967296 ys)) (dg 4294967296 (vl 4294967296 xs%vl 4294967296 ys)) 0 w):=by
 have hy1:vl 4294967296 ys=y:=by rw[<-eF,ht,xN]
 have hyl:y<4294967296:=by
  have:=hb.lim.trim
  rw[ht]at this
  exact this.head
 have hy0:y≠0:=by
  have:=wA (sX ys) (by rw[ht];simp)
  simpa[ht]using this
 have hge:¬sK (vl 4294967296 (trim xs)) (vl 4294967296 (trim ys))<0:=by
  rw[eF,eF]
  rcases Nat.lt_or_ge (vl 4294967296 ys) (vl 4294967296 xs)with h | h
  ·rw[qK h];omega
  rw[yX (by omega)];omega
 have htl:=dH xs
 rw[ha.len]at htl
 have hx1:=eF 4294967296 xs
 rw[hy1]
 have HT:=Lib.hid ht
 clear ht hle hy1
 go_enter Tryz.func217,Tryz.ntmps217
 go_wp2_with fail
 refine(gU _ _ _ xs _ ha (by omega)).mono ?_
 rintro e w1 ⟨A1,n1,c1,rfl,h1,hb1⟩
 have H1:=Lib.hid h1.len
 go_wp2_with fail
 refine(gU _ _ _ ys _ (hb.now hb1) (by omega)).mono ?_
 rintro e w2 ⟨A2,n2,c2,rfl,h2,hb2⟩
 obtain rfl:n2=1:=by rw[<-h2.len,HT.out];rfl
 have h3:=h1.below hb2
 have hb3:=hb1.trans (hb2.mono hb1.size)
 clear hb1 hb2 h1
 obtain⟨g,rfl,hg1,hg2⟩:=h2.form (by omega)
 have hc:=h2.cell (j:=0) (by omega)
 rw[HT.out,show nth [y] 0=y from rfl]at hc
 have HX:=Lib.hid hx1
 clear hx1
 go_wp2_with fail
 refine(vW _ _ _ _ _ _ _ _ _ _ h3.u32 h2.u32).mono ?_
 rintro e w' ⟨rfl,q,rfl⟩
 go_wp2_with fail
 refine(uC _ _ _ _ _ (w2.drewN q) h3.drew_base.u32 (by rw[<-H1.out];omega) (by omega) hyl).mono ?_
 rintro e w3 ⟨A3,n3,c3,rfl,h4,hb4⟩
 have hb5:Below w.heap.size w w3:=(iZ hb3 q).trans (hb4.mono hb3.size)
 have hr:vl 4294967296 (trim xs)%y<4294967296:=Nat.lt_trans (Nat.mod_lt _ (by omega)) hyl
 clear hb4
 go_wp2_with fail
 have hU:U32 (w3.alloc (.cells #[.int .u32 (vl 4294967296 (trim xs)%y:Nat)] 223)) (w3.alloc (.cells #[.int .u32 (vl 4294967296 (trim xs)%y:Nat)] 223)).heap.size (some ⟨w3.heap.size,0,none⟩) 1 1 [vl 4294967296 (trim xs)%y]:=by
  refine⟨⟨rfl,aX _,by omega,fun _=>⟨_,rfl,by simp,fun k u hu=>?_⟩⟩,Lim.cons hr Lim.nil⟩
  have hk:k=0:=by
   rcases Nat.eq_zero_or_pos k with h | h
   ·exact h
   rw[List.getElem?_eq_none (by rw[mW];exact h)]at hu;cases hu
  subst hk
  rw[show(⟨w3.heap.size,0,none⟩:Addr).add 0=⟨w3.heap.size,0,none⟩ from rfl,rM _ _ _ 0 rfl]
  exact hu
 refine(gU _ _ _ [vl 4294967296 (trim xs)%y] _ hU (by omega)).mono ?_
 rintro e w4 ⟨A4,n4,c4,rfl,h5,hb6⟩
 have hbA:Below w3.heap.size w3 (w3.alloc (.cells #[.int .u32 (vl 4294967296 (trim xs)%y:Nat)] 223)):=tU _ _
 have hb7:=hbA.trans (hb6.mono hbA.size)
 go_wp2_with fail
 go_ret3
 refine⟨_,_,_,_,_,_,rfl,?_,?_,?_,hb5.trans (hb7.mono hb5.size)⟩
 ·have:=(h4.below hb7).base_le hb3.size
  rwa[HX.out]at this
 ·have:=h5.base_le (base':=w.heap.size) (Nat.le_trans hb5.size hbA.size)
  rw[<-fR (by omega) (Lim.cons hr Lim.nil),xN,HX.out]at this
  exact this
 exact Apart.of h4 h5 hbA.size
theorem PU {P:Program}{f:FuncId}{args:Array Value}{w:World}{n:Nat}{v:Value}
  (h:Calls P f args (w.drewN n) fun e w'=>e=.returned v/\∃m,w'=(w.drewN n).drewN m):
  Calls P f args (w.drewN n) fun e w''=>e=.returned v/\∃m,w''=w.drewN m:=
 h.mono fun _ _ ⟨he,m,hm⟩=>⟨he,n+m,by rw[hm,World.drewN_drewN]⟩
theorem Iz (A:Option Addr) (n c up R:Nat) (xs:List Nat) (w:World) (ha:U32 w w.heap.size A n c xs) (hv:vl 4294967296 xs=R*2^up) (hn:n<=1099511627775) (hup:up<32):
  Calls Tryz.prog 234 #[.slice A n c,.int .i64 (-(up:Int))] w (Cv (dg 4294967296 R) 0 w):=by
 have hP:0<2^up:=Nat.pos_of_ne_zero (by simp)
 rcases Nat.eq_zero_or_pos R with h0 | h0
 ·subst h0
  exact Ix A n c _ xs w ha (by rw[hv,Nat.zero_mul])
 have hne:R*2^up≠0:=Nat.pos_iff_ne_zero.1 (Nat.mul_pos h0 hP)
 rcases Nat.eq_zero_or_pos up with h1 | h1
 ·subst h1
  rw[show(-((0:Nat):Int))=((0:Nat):Int) from rfl]
  have:=uD A n c 0 R xs w ha (by rw[hv];simp) hn (by omega) (by omega)
  simpa using this
 have:=Iy A n c up (R*2^up) xs w ha hv hn h1 hup hne
 rwa[Nat.mul_div_cancel _ hP]at this
theorem YN (w:World) (v:Nat):Rd (w.alloc (.cells #[.int .u32 (v:Int)] 223)) (w.heap.size+1) 1 (some ⟨w.heap.size,0,none⟩) 1 1 (iV [v]):=by
 refine⟨rfl,aX _,by omega,fun _=>⟨_,rfl,by simp,fun k u hu=>?_⟩⟩
 have hk:k=0:=by
  rcases Nat.eq_zero_or_pos k with h | h
  ·exact h
  rw[List.getElem?_eq_none (by rw[mW];exact h)]at hu;cases hu
 subst hk
 rw[show(⟨w.heap.size,0,none⟩:Addr).add 0=⟨w.heap.size,0,none⟩ from rfl,rM _ _ _ 0 rfl]
 exact hu
theorem DZ {ys:List Nat}{lb up:Nat}(hy:Lim 4294967296 ys) (hl:ys.length=lb) (h2:2<=lb) (hup:up<32) (u2:2147483648<=nth ys (lb-1)*2^up) (u3:nth ys (lb-1)*2^up<4294967296):
  (dg 4294967296 (vl 4294967296 ys*2^up)).length=lb/\2147483648<=nth (dg 4294967296 (vl 4294967296 ys*2^up)) (lb-1)/\0<vl 4294967296 ys/\4294967296^(lb-1)<=vl 4294967296 ys*2^up:=by
 have e:=cD 4294967296 ys (lb-1)
 rw[show lb-1+1=lb by omega,cK 4294967296 (l:=ys) (by omega)]at e
 have hlow:=fY (hy.take (lb-1))
 rw[dU,Nat.min_eq_left (by omega)]at hlow
 have hB:0<4294967296^(lb-1):=Nat.pos_of_ne_zero (by simp)
 have hP:0<2^up:=Nat.pos_of_ne_zero (by simp)
 have hpow:2^up*2^(32-up)=4294967296:=by rw[<-Nat.pow_add,show up+(32-up)=32 by omega]
 have htop:(nth ys (lb-1)+1)*2^up<=4294967296:=by
  rw[<-hpow]at u3⊢
  rw[Nat.mul_comm]at u3
  have:=Nat.lt_of_mul_lt_mul_left u3
  rw[Nat.mul_comm]
  exact Nat.mul_le_mul_left _ this
 have hge:2147483648*4294967296^(lb-1)<=vl 4294967296 ys*2^up:=by
  rw[e,Nat.add_mul]
  have:2147483648*4294967296^(lb-1)<=nth ys (lb-1)*2^up*4294967296^(lb-1):=Nat.mul_le_mul_right _ u2
  have e2:nth ys (lb-1)*2^up*4294967296^(lb-1)=4294967296^(lb-1)*nth ys (lb-1)*2^up:=by
   rw[Nat.mul_assoc,Nat.mul_comm (2^up),<-Nat.mul_assoc,Nat.mul_comm (nth ys (lb-1))]
  omega
 have hlt:vl 4294967296 ys*2^up<4294967296^lb:=by
  have h1:vl 4294967296 ys<(nth ys (lb-1)+1)*4294967296^(lb-1):=by rw[Nat.succ_mul,Nat.mul_comm (nth ys (lb-1)),e];omega
  have h2:=Nat.mul_lt_mul_of_pos_right h1 hP
  have h3:(nth ys (lb-1)+1)*4294967296^(lb-1)*2^up=(nth ys (lb-1)+1)*2^up*4294967296^(lb-1):=by
   rw[Nat.mul_assoc,Nat.mul_comm (4294967296^(lb-1)),<-Nat.mul_assoc]
  have h4:(nth ys (lb-1)+1)*2^up*4294967296^(lb-1)<=4294967296*4294967296^(lb-1):=Nat.mul_le_mul_right _ htop
  have h5:4294967296^lb=4294967296*4294967296^(lb-1):=by rw[<-Nat.pow_succ',show(lb-1).succ=lb by omega]
  omega
 have hpos:0<vl 4294967296 ys:=by
  rcases Nat.eq_zero_or_pos (vl 4294967296 ys)with h | h
  ·rw[h]at hge;omega
  exact h
 generalize vl 4294967296 ys*2^up=v at*
 have hlen:(dg 4294967296 v).length=lb:=by
  have h1:=cW (B:=4294967296) (by omega) hlt
  have h2:=qP (B:=4294967296) (n:=v) (by omega)
  rcases Nat.lt_or_ge (dg 4294967296 v).length lb with h | h
  ·have:4294967296^(dg 4294967296 v).length<=4294967296^(lb-1):=Nat.pow_le_pow_right (by omega) (by omega)
   omega
  omega
 refine⟨hlen,?_,hpos,by omega⟩
 have e3:=cD 4294967296 (dg 4294967296 v) (lb-1)
 rw[show lb-1+1=lb by omega,cK 4294967296 (l:=dg 4294967296 v) (by omega),cL (by omega)]at e3
 have h6:=fY ((aU (B:=4294967296) (by omega) v).take (lb-1))
 rw[dU,Nat.min_eq_left (by omega)]at h6
 rcases Nat.lt_or_ge (nth (dg 4294967296 v) (lb-1)) 2147483648 with h | h
 ·exfalso
  have h7:4294967296^(lb-1)*nth (dg 4294967296 v) (lb-1)<=4294967296^(lb-1)*2147483647:=Nat.mul_le_mul_left _ (by omega)
  omega
 exact h
set_option maxHeartbeats 4000000 in
theorem Ja (A B:Option Addr) (n m c d:Nat) (xs ys:List Nat) (w:World) (ha:U32 w w.heap.size A n c xs) (hb:U32 w w.heap.size B m d ys) (hn:n<=549755813888) (hm:m<=549755813888) (hle:vl 4294967296 ys<=vl 4294967296 xs) (h2:2<=(trim ys).length):
    Calls Tryz.prog 217 #[.slice A n c,.slice B m d] w (Od (dg 4294967296 (vl 4294967296 xs/vl 4294967296 ys)) (dg 4294967296 (vl 4294967296 xs%vl 4294967296 ys)) 0 w):=by
  have hge:¬sK (vl 4294967296 (trim xs)) (vl 4294967296 (trim ys))<0:=by
    rw[eF,eF]
    rcases Nat.lt_or_ge (vl 4294967296 ys) (vl 4294967296 xs)with h | h
    · rw[qK h];omega
    rw[yX (by omega)];omega
  have htl:=dH xs
  have hty:=dH ys
  rw[ha.len]at htl
  rw[hb.len]at hty
  obtain⟨la,hla⟩:∃la,(trim xs).length=la:=⟨_,rfl⟩
  obtain⟨lb,hlb⟩:∃lb,(trim ys).length=lb:=⟨_,rfl⟩
  rw[hla]at htl
  rw[hlb]at hty h2
  have hlast:nth (trim ys) (lb-1)≠0:=by
    have h:=wA (sX ys) (by intro e;rw[e]at hlb;simp at hlb;omega)
    rw[List.getLast_eq_getElem]at h
    rw[dT (by omega)]
    simpa[hlb]using h
  have hlim:=hb.lim.trim.nth (by omega) (lb-1)
  obtain⟨up,u1,u2,u3,hlz⟩:∃up:Nat,up<32/\2147483648<=nth (trim ys) (lb-1)*2^up/\nth (trim ys) (lb-1)*2^up<4294967296/\
      ∀w:World,Calls Tryz.prog 233 #[.int .u32 (nth (trim ys) (lb-1):Int)] w fun e w'=>e=.returned (.int .i64 (up:Int))/\w=w':=by
    obtain⟨k,e,k1,k2,k3⟩:=Mp hlim hlast
    refine⟨k,k1,k2,k3,fun w=>(Any.bits_LeadingZeros32 DY _ w (by omega) (by omega)).mono fun _ _ ⟨h1,h2⟩=>⟨?_,h2.symm⟩⟩
    rw[h1,<-e]
    rfl
  obtain⟨n1,n2,n3,n4⟩:=DZ hb.lim.trim hlb h2 u1 u2 u3
  rw[eF]at n1 n2 n3 n4
  have hX:vl 4294967296 (trim xs)=vl 4294967296 xs:=eF _ _
  have hY:vl 4294967296 (trim ys)=vl 4294967296 ys:=eF _ _
  generalize vl 4294967296 xs=X at*
  generalize vl 4294967296 ys=Y at*
  have hx0:X≠0:=by omega
  have hlaX:lb<=(dg 4294967296 (X*2^up)).length:=by
    rw[<-n1];exact dS (by omega) (Nat.mul_le_mul_right _ hle)
  have hlaX2:(dg 4294967296 (X*2^up)).length<=la+1:=by
    apply cW (by omega)
    rw[Nat.pow_succ]
    have h1:=fY ha.lim.trim
    rw[hX,hla]at h1
    exact Nat.mul_lt_mul_of_lt_of_lt h1 (Nat.lt_of_lt_of_le (Nat.pow_lt_pow_right (by omega) u1) (by decide))
  obtain⟨lx,hlx⟩:∃lx,(dg 4294967296 (X*2^up)).length=lx:=⟨_,rfl⟩
  rw[hlx]at hlaX hlaX2
  have HLA:=Lib.hid hla
  have HLB:=Lib.hid hlb
  have HLX:=Lib.hid hlx
  have HN1:=Lib.hid n1
  have HX:=Lib.hid hX
  have HY:=Lib.hid hY
  have hq0:((lb:Int)==0)=false:=by rw[beq_eq_false_iff_ne];omega
  have hq1:((lb:Int)==1)=false:=by rw[beq_eq_false_iff_ne];omega
  clear hla hlb hlx n1 hX hY
  go_enter Tryz.func217,Tryz.ntmps217
  go_wp2_with fail
  refine(gU _ _ _ xs _ ha (by omega)).mono ?_
  rintro e w1 ⟨A1,k1,c1,rfl,h1,hb1⟩
  obtain rfl:k1=la:=by rw[<-h1.len,HLA.out]
  go_wp2_with fail
  refine(gU _ _ _ ys _ (hb.now hb1) (by omega)).mono ?_
  rintro e w2 ⟨A2,k2,c2,rfl,h2',hb2⟩
  obtain rfl:k2=lb:=by rw[<-h2'.len,HLB.out]
  have h3:=h1.below hb2
  have hb3:=hb1.trans (hb2.mono hb1.size)
  clear hb1 hb2 h1
  obtain⟨g,rfl,hg1,hg2⟩:=h2'.form (by omega)
  have hc:=h2'.cell (j:=k2-1) (by omega)
  go_wp2_with fail
  refine(vW _ _ _ _ _ _ _ _ _ _ h3.u32 h2'.u32).mono ?_
  rintro e w' ⟨rfl,q,rfl⟩
  go_wp2_with fail
  refine(hlz _).mono ?_
  rintro e w' ⟨rfl,rfl⟩
  go_wp2_with fail
  refine(uD _ _ _ _ _ _ (w2.drewN q) h2'.drew_base.u32 HY.out (by omega) u1 (by omega)).mono ?_
  rintro e w3 ⟨A3,k3,c3,rfl,h4,hb4⟩
  obtain rfl:k3=k2:=by rw[<-h4.len,HN1.out]
  have h5:=h3.drew_base.below hb4
  have hb5:Below w.heap.size w w3:=(iZ hb3 q).trans (hb4.mono hb3.size)
  clear hb4 h3 h2' hc hb3
  go_wp2_with fail
  refine(uD _ _ _ _ _ _ _ h5.u32 HX.out (by omega) u1 hx0).mono ?_
  rintro e w4 ⟨A4,k4,c4,rfl,h6,hb6⟩
  obtain rfl:k4=lx:=by rw[<-h6.len,HLX.out]
  have hb7:=hb5.trans (hb6.mono hb5.size)
  have hz6:=hb6.size
  obtain⟨Q,hQ⟩:∃Q,Q+k3=k4+1:=⟨k4+1-k3,by omega⟩
  have hQ1:1<=Q:=by omega
  have hQ2:Q<=k4+1:=by omega
  have hQ3:(Q:Int)=(k4:Int)+1-k3:=by omega
  have HQ:=Lib.hid hQ
  have HQ3:=Lib.hid hQ3
  clear hQ hQ3
  have h7:=(h6.below (tU w4 (.cells #[.int .u32 ((0:Nat):Int)] 223))).row
  go_wp2_with (first
    | (at_builtin
       refine uK _ vV rfl (.tmp 63) (.tmp 64) rfl w3.heap.size _ k4 _ rfl h7 _ _ 1 1 _ rfl (YN w4 0) (Df _) (by omega) (by omega) (by simp;omega) ?_
       intro A5 c5 w5 hO5 hg5 hat5)
    | (refine sY _ vV rfl (.tmp 69) (.tmp 69) rfl .i64 .i64 _ _ Q rfl rfl HQ3.out.symm HQ3.out.symm (by omega) (by omega) ?_
       intro w6 hO6 hb66 hz66))
  have oA:Own 223 w5 w3.heap.size A5 (k4+1) c5 (dg 4294967296 (X*2^up)++[0]):=⟨by rw[Gu];exact hO5,(aU (by omega) _).append (Lim.cons (by omega) Lim.nil)⟩
  have bA:Below w3.heap.size w3 w5:=wC (hb6.alloc hb6.size _) h7 hg5 (by simp;omega) (aX _)
  have bW:Below w.heap.size w w5:=hb5.trans (bA.mono hb5.size)
  obtain⟨ga,rfl,hga1,hga2⟩:=oA.form (by omega)
  have uB:=((h4.u32.below bA).more hga1).below (hb66.mono (Nat.le_of_lt hga2))
  have oA6:=oA.below hb66
  have oQ:=Own.made hO6
  have bW6:=bW.trans (hb66.mono bW.size)
  have hz5:=bW.size
  have hz3:=hb5.size
  obtain⟨gb,rfl,_,_⟩:=h4.form (by omega)
  have D0:=DMInv.top (a:=dg 4294967296 (X*2^up)) (ys:=dg 4294967296 (Y*2^up)) (Q:=Q) (aU (by omega) _) (by rw[HN1.out,HLX.out];exact HQ.out) (by rw[HN1.out];omega) (by rw[HN1.out,cL (by omega)];exact n4)
  have hN:=oA6.len
  have HN:=Lib.hid hN
  have hcA:k4+1<=c5:=oA6.u32.cap
  have hcB:c5<=9223372036854775807:=oA6.u32.big
  clear hN h7 hO5 hg5 hat5 hO6 oA bA bW hb6 hb7 h4 h5 h6 hb66 hlz
  obtain⟨mm,hmm⟩:∃mm,k3=mm+2:=⟨k3-2,by omega⟩
  have HMM:=Lib.hid hmm
  clear hmm
  go_loopw [12] (fun i wr=>∃(k:Nat) (os qs:List Nat),k<=Q/\i=.int .i64 ((k:Int)-1)/\Own 223 wr w3.heap.size (some ⟨ga,0,none⟩) (k4+1) c5 os/\Own 223 wr w5.heap.size (some ⟨w5.heap.size,0,none⟩) Q Q qs/\
      DMInv (dg 4294967296 (X*2^up)++[0]) os qs (dg 4294967296 (Y*2^up)) k/\Below ga w6 wr) (fun i _=>(intOf i+1).toNat)
  case atStart=>exact⟨Q,_,_,aX _,by go_num,oA6,oQ,D0,Below.refl _ _⟩
  case round=>
    obtain⟨k,os,qs,hk,rfl,hoA,hoQ,hD,hbB⟩:=hrel
    by_cases h0:0<k
    · obtain⟨i,rfl⟩:∃i,k=i+1:=⟨k-1,by omega⟩
      rw[show((i+1:Nat):Int)-1=(i:Int) from by omega]
      have hQ:=HQ.out
      have hbnd:i+k3+1<=k4+1:=by omega
      clear hQ
      have ca1:=hoA.cell (j:=i+k3) (by omega)
      have ca2:=hoA.cell (j:=i+k3-1) (by omega)
      have ca3:=hoA.cell (j:=i+k3-2) (by omega)
      have uB1:=uB.below hbB
      have cb1:=uB1.cell0 (j:=k3-1) (by omega)
      have cb2:=uB1.cell0 (j:=k3-2) (by omega)
      have hw:=hD.window (by rw[hoA.len];omega) (aU (by omega) _) hoA.lim
      have hgu:=Ry (u:=(os.drop i).take (k3+1)) (ys:=dg 4294967296 (Y*2^up)) (m:=mm) ((hoA.lim.drop i).take _) (by rw[dU,List.length_drop,hoA.len,HMM.out];have:=HMM.out;omega) (aU (by omega) _)
        (by rw[HN1.out,HMM.out]) (by rw[show mm+1=k3-1 by rw[HMM.out];omega];exact n2) (by rw[<-HN1.out,hw.1];exact hw.2.2.1)
      have ne:∀j,j<=k3->nth ((os.drop i).take (k3+1)) j=nth os (i+j):=fun j hj=>by
        rw[<-kX];exact yZ (i:=k3+1) (by rw[List.take_take,Nat.min_self]) (by omega)
      have e0:mm+2=k3:=HMM.out.symm
      rw[ne (mm+2) (by omega),ne (mm+1) (by omega),ne mm (by omega),show mm+2=k3 from e0,show i+(mm+1)=i+k3-1 by omega,show i+mm=i+k3-2 by omega,show mm+1=k3-1 by omega,show mm=k3-2 by omega]at hgu
      obtain⟨hg1',hg2',hg3'⟩:=hgu
      clear e0 ne
      have lA:=hoA.lim
      have la1:=lA.nth (by omega) (i+k3-1)
      have la2:=lA.nth (by omega) (i+k3-2)
      have lb1:=(aU (B:=4294967296) (by omega) (Y*2^up)).nth (by omega) (k3-1)
      have lb2:=(aU (B:=4294967296) (by omega) (Y*2^up)).nth (by omega) (k3-2)
      have t0:(0:Int)<=(i:Int)+(k3:Int):=by omega
      have t1:(0:Int)<=(i:Int)+(k3:Int)-1:=by omega
      have t2:(0:Int)<=(i:Int)+(k3:Int)-2:=by omega
      have t3:(0:Int)<=(k3:Int)-1:=by omega
      have t4:(0:Int)<=(k3:Int)-2:=by omega
      have v0:(i:Int)+(k3:Int)<(k4:Int)+1:=by omega
      have v1:(i:Int)+(k3:Int)-1<(k4:Int)+1:=by omega
      have v2:(i:Int)+(k3:Int)-2<(k4:Int)+1:=by omega
      have v3:(k3:Int)-1<(k3:Int):=by omega
      have v4:(k3:Int)-2<(k3:Int):=by omega
      have s0:IntKind.i64.wrap ((i:Int)+(k3:Int))=(i:Int)+(k3:Int):=IntWalk.i64_in _ (by omega)
      have s1:IntKind.i64.wrap ((i:Int)+(k3:Int)-1)=(i:Int)+(k3:Int)-1:=IntWalk.i64_in _ (by omega)
      have s2:IntKind.i64.wrap ((i:Int)+(k3:Int)-2)=(i:Int)+(k3:Int)-2:=IntWalk.i64_in _ (by omega)
      have s3:IntKind.i64.wrap ((k3:Int)-1)=(k3:Int)-1:=IntWalk.i64_in _ (by omega)
      have s4:IntKind.i64.wrap ((k3:Int)-2)=(k3:Int)-2:=IntWalk.i64_in _ (by omega)
      have r0:((i:Int)+(k3:Int)).toNat=i+k3:=by omega
      have r1:((i:Int)+(k3:Int)-1).toNat=i+k3-1:=by omega
      have r2:((i:Int)+(k3:Int)-2).toNat=i+k3-2:=by omega
      have r3:((k3:Int)-1).toNat=k3-1:=by omega
      have r4:((k3:Int)-2).toNat=k3-2:=by omega
      go_wp2_with fail
      go_quiet ((go_at_call 235;exact PU (DV _ _ _ _ _ _ n2 lb1 hg1' la1 la2 lb2)))
      clear t0 t1 t2 t3 t4 v0 v1 v2 v3 v4 s0 s1 s2 s3 s4 r0 r1 r2 r3 r4 ca1 ca2 ca3 cb1 cb2
      go_wp2_with fail
      rw[show i+k3+1-i=k3+1 by omega]
      have oAn:Own 223 (wr.drewN nq) w3.heap.size (some ⟨ga,0,none⟩) (k4+1) c5 os:=hoA.drew_base
      have hYv:0<vl 4294967296 (dg 4294967296 (Y*2^up)):=by
        rw[cL (by omega)];exact Nat.mul_pos n3 (Nat.pos_of_ne_zero (by simp))
      refine(IK ga i (k4+1) k3 c5 c3 (c5-i) _ _ os (dg 4294967296 (Y*2^up)) (k3+1) w3.heap.size (wr.drewN nq) oAn (by omega) (by omega) (uB1.below (iZ (Below.refl _ _) _)) (by omega) (Nat.min_le_left _ _) hYv hg2' hg3').mono ?_
      rintro e w7 ⟨os',rfl,oA7,ht7,hh7,hv7,gr7⟩
      have hgq:w5.heap.size≠ga:=by omega
      have oQ7:=(hoQ.drew_base (k:=nq)).only gr7 hgq
      have oA8:=oA7.len
      have hst:=hD.step (i:=i) (os':=os') (by rw[hoA.len];omega) (by rw[hoQ.len];omega) (aU (by omega) _) hoA.lim hYv (by rw[oA8,hoA.len]) ht7 (fun j hj=>hh7 j (by rw[HN1.out]at hj;omega))
        (by rw[HN1.out];exact hv7) (by rw[HN1.out,hoA.len];omega)
      rw[HN1.out]at hst
      have hqv:vl 4294967296 ((os.drop i).take (k3+1))/vl 4294967296 (dg 4294967296 (Y*2^up))<4294967296:=
        Nat.lt_of_le_of_lt hg2' (Nat.lt_of_le_of_lt (Nat.min_le_left _ _) (by omega))
      have cq1:=oQ7.cell (j:=i) (by omega)
      have cq2:=oQ7.frozen i
      have oQ8:=oQ7.set i hqv
      have oA9:=oA7.only (g':=w5.heap.size) (vF (Lc w7 w5.heap.size) i (.int .u32 ((vl 4294967296 ((os.drop i).take (k3+1))/vl 4294967296 (dg 4294967296 (Y*2^up)):Nat):Int))) (Ne.symm hgq)
      have bb9:Below ga w6 w7:=(iZ hbB nq).trans (zC gr7 (by have:=hbB.size;show ga<=wr.heap.size;omega))
      generalize vl 4294967296 ((os.drop i).take (k3+1))/vl 4294967296 (dg 4294967296 (Y*2^up))=qd at*
      clear oA8 hh7 ht7 hv7 hw hg2' hg3' hD
      go_wp2_with fail
      go_roundw
      case rel=>exact⟨i,os',_,by omega,by go_num,oA9,oQ8,hst,bb9.setCell (by show ga<=w5.heap.size;omega) _⟩
      case measure=>simp[intOf]
    obtain rfl:k=0:=by omega
    have hYv:0<vl 4294967296 (dg 4294967296 (Y*2^up)):=by
      rw[cL (by omega)];exact Nat.mul_pos n3 (Nat.pos_of_ne_zero (by simp))
    obtain⟨f1,f2⟩:=hD.end_ hYv
    have hPp:0<2^up:=Nat.pos_of_ne_zero (by simp)
    rw[oF,Nat.mul_zero,Nat.add_zero,cL (by omega),cL (by omega),Nat.mul_div_mul_right _ _ hPp]at f1
    rw[oF,Nat.mul_zero,Nat.add_zero,cL (by omega),cL (by omega),Nat.mul_mod_mul_right]at f2
    have F1:=Lib.hid f1
    have F2:=Lib.hid f2
    have bWr:Below w.heap.size w wr:=bW6.trans (hbB.mono (by omega))
    clear f1 f2 hD
    go_wp2_with fail
    refine(Iz _ _ _ _ _ _ _ hoA.u32 F2.out (by omega) u1).mono ?_
    rintro e w8 ⟨A8,n8,c8,rfl,h8,hb8⟩
    have hoQ8:=hoQ.below hb8
    have bW8:=bWr.trans (hb8.mono bWr.size)
    go_wp2_with fail
    refine(gU _ _ _ _ _ hoQ8.u32 (by omega)).mono ?_
    rintro e w9 ⟨A9,n9,c9,rfl,h9,hb9⟩
    have bW9:=bW8.trans (hb9.mono bW8.size)
    go_wp2_with fail
    go_ret3
    refine⟨_,_,_,_,_,_,rfl,?_,(h8.below hb9).base_le bWr.size,(Apart.of h8 h9 (aX _)).symm,bW9⟩
    have:=h9.base_le (base':=w.heap.size) bW8.size
    rwa[<-fR (by omega) hoQ.lim,F1.out]at this
theorem Jb (A B:Option Addr) (n m c d:Nat) (xs ys:List Nat) (w:World) (ha:U32 w w.heap.size A n c xs) (hb:U32 w w.heap.size B m d ys) (hn:n<=549755813888) (hm:m<=549755813888) (hy:vl 4294967296 ys≠0):
  Calls Tryz.prog 217 #[.slice A n c,.slice B m d] w (Od (dg 4294967296 (vl 4294967296 xs/vl 4294967296 ys)) (dg 4294967296 (vl 4294967296 xs%vl 4294967296 ys)) 0 w):=by
 rcases Nat.lt_or_ge (vl 4294967296 xs) (vl 4294967296 ys)with h | h
 ·exact Nf A B n m c d xs ys w ha hb hn hm h
 match ht:trim ys with
 | []=>exact absurd ((lJ 4294967296 (by omega) ys).1 ht) hy
 | [y]=>exact Kr A B n m c d y xs ys w ha hb hn hm h ht
 | y::z::l=>exact Ja A B n m c d xs ys w ha hb hn hm h (by rw[ht];simp)
structure URows (w:World) (B:Nat) (A:Option Addr) (n c:Nat) (rows:List (List Nat)):Prop where
 len:rows.length=n
 cap:n<=c
 big:c<=9223372036854775807
 cell:∀k,k<n->∃b o sp Ai ni ci,A=some ⟨b,o,sp⟩/\b<B/\w.cell? ((⟨b,o,sp⟩:Addr).add k)=some (.slice Ai ni ci)/\U32 w B Ai ni ci (rows.getD k [])
theorem URows.below {w w':World}{B n c:Nat}{A:Option Addr}{rows:List (List Nat)}(h:URows w B A n c rows) (hb:Below B w w'):URows w' B A n c rows:=
 ⟨h.len,h.cap,h.big,fun k hk=>by
  obtain⟨b,o,sp,Ai,ni,ci,e,hB,hc,hu⟩:=h.cell k hk
  exact⟨b,o,sp,Ai,ni,ci,e,hB,(hb.cell (by rw[mR];exact hB)).trans hc,hu.below hb⟩⟩
theorem URows.now {w w':World}{n c:Nat}{A:Option Addr}{rows:List (List Nat)}(h:URows w w.heap.size A n c rows) (hb:Below w.heap.size w w'):URows w' w'.heap.size A n c rows:=by
 have h1:=h.below hb
 refine⟨h1.len,h1.cap,h1.big,fun k hk=>?_⟩
 obtain⟨b,o,sp,Ai,ni,ci,e,hB,hc,hu⟩:=h1.cell k hk
 exact⟨b,o,sp,Ai,ni,ci,e,Nat.lt_of_lt_of_le hB hb.size,hc,hu.more hb.size⟩
def vX (rows:List (List Nat)):Nat:=rows.foldl (fun g r=>Nat.gcd g (vl 4294967296 r)) 0
theorem EA {rows:List (List Nat)}{k:Nat}(h:k<rows.length):vX (rows.take (k+1))=Nat.gcd (vX (rows.take k)) (vl 4294967296 (rows.getD k [])):=by
 unfold vX
 rw[List.take_succ_eq_append_getElem h,List.foldl_append]
 simp[List.getD_eq_getElem?_getD,h]
set_option maxHeartbeats 2000000 in
theorem PV (A:Option Addr) (n c:Nat) (rows:List (List Nat)) (w:World) (ha:URows w w.heap.size A n c rows) (hn:n<=1099511627776) (hs:∀k,k<n->(rows.getD k []).length<=549755813888):
  Calls Tryz.prog 220 #[.slice A n c] w (rC (dg 4294967296 (vX rows)) w):=by
 have HL:=Lib.hid ha.len
 have Hs:=Lib.hid hs
 clear hs
 go_enter Tryz.func220,Tryz.ntmps220
 go_wp2_with fail
 go_loopg [3,11] n (fun gk a i wr=>∃(k:Nat) (A3:Option Addr) (n3 c3:Nat),k<=n/\gk=n-k/\i=.int .i64 (k:Int)/\a=.slice A3 n3 c3/\n3<=549755813888/\U32 wr wr.heap.size A3 n3 c3 (dg 4294967296 (vX (rows.take k)))/\Below w.heap.size w wr)
 case atStart=>exact⟨0,none,0,0,Nat.zero_le _,by omega,rfl,rfl,by omega,U32.nil,Below.refl _ _⟩
 case round=>
  obtain⟨k,A3,n3,c3,hk,hgk,rfl,rfl,hn3,hu3,hbw⟩:=hrel
  have HG:=Lib.hid hgk
  clear hgk
  by_cases hlt:k<n
  ·obtain⟨b,o,sp,Ai,ni,ci,rfl,hB,hc,hui⟩:=(ha.now hbw).cell k hlt
   have hni:ni<=549755813888:=by rw[<-hui.len];exact Hs.out k hlt
   have hnext:=EA (rows:=rows) (k:=k) (by rw[HL.out];exact hlt)
   have HN:=Lib.hid hnext
   clear hnext
   go_wp2_with fail
   refine(gU _ _ _ _ _ hui (by omega)).mono ?_
   rintro e w1 ⟨A1,n1,c1,rfl,h1,hb1⟩
   have hn1:n1<=549755813888:=by
    have:=dH (rows.getD k [])
    rw[<-h1.len]
    have:=hui.len
    omega
   have hu1:=h1.u32
   rw[<-fR (by omega) hui.lim]at hu1
   have hu3':=hu3.now hb1
   have hbw1:=hbw.trans (hb1.mono hbw.size)
   clear hb1 h1 hu3
   go_wp2_with fail
   obtain⟨wo,rfl⟩:∃wo:World,wo=wr:=⟨_,rfl⟩
   go_loopg [3,5] (vl 4294967296 (rows.getD k [])) (fun gm a b wr=>∃(Ax:Option Addr) (nx cx:Nat) (Ay:Option Addr) (ny cy X Y:Nat),a=.slice Ax nx cx/\b=.slice Ay ny cy/\gm=Y/\nx<=549755813888/\ny<=549755813888/\
    U32 wr wr.heap.size Ax nx cx (dg 4294967296 X)/\U32 wr wr.heap.size Ay ny cy (dg 4294967296 Y)/\Hid (Nat.gcd X Y=vX (rows.take (k+1)))/\Below w.heap.size w wr)
   case atStart=>exact⟨_,_,_,_,_,_,_,_,rfl,rfl,rfl,hn3,hn1,hu3',hu1,HN.out.symm,hbw1⟩
   case round=>
    obtain⟨Ax,nx,cx,Ay,ny,cy,X,Y,rfl,rfl,hY,hnx,hny,hux,huy,hgc,hbw2⟩:=hrel
    have HY:=Lib.hid hY
    clear hY
    by_cases hy0:Y=0
    ·subst hy0
     have hny0:ny=0:=huy.len.symm
     subst hny0
     have hgx:X=vX (rows.take (k+1)):=by rw[<-hgc.out,Nat.gcd_zero_right]
     have HX:=Lib.hid hgx
     clear hgx
     go_wp2_with fail
     go_roundg (n-(k+1))
     case measure=>rw[HG.out];omega
     case rel=>exact⟨k+1,_,_,_,by omega,rfl,by go_num,rfl,hnx,by rw[<-HX.out];exact hux,hbw2⟩
    have hny1:0<ny:=by
     rcases Nat.eq_zero_or_pos ny with h | h
     ·subst h
      exact absurd ((fC (by omega)).1 (List.eq_nil_of_length_eq_zero huy.len)) hy0
     exact h
    go_wp2_with fail
    refine(Jb _ _ _ _ _ _ _ _ _ hux huy hnx hny (by rw[cL (by omega)];exact hy0)).mono ?_
    rintro e w2 ⟨A1',n1',c1',A2',n2',c2',rfl,hq,hr,_,hb2⟩
    rw[cL (by omega),cL (by omega)]at hr
    have hn2:n2'<=549755813888:=by
     have:=dS (B:=4294967296) (by omega) (Nat.le_of_lt (Nat.mod_lt X (Nat.pos_of_ne_zero hy0)))
     rw[hr.len,huy.len]at this
     omega
    have huy2:=huy.now hb2
    have hur:=hr.u32
    have hbw3:=hbw2.trans (hb2.mono hbw2.size)
    have hg2:Hid (Nat.gcd Y (X%Y)=vX (rows.take (k+1))):=by
     rw[<-hgc.out]
     show Nat.gcd Y (X%Y)=Nat.gcd X Y
     rw[Nat.gcd_comm Y,<-Nat.gcd_rec,Nat.gcd_comm]
    clear hq hb2
    go_wp2_with fail
    go_roundg (X%Y)
    case measure=>rw[HY.out];exact Nat.mod_lt _ (Nat.pos_of_ne_zero hy0)
    case rel=>exact⟨_,_,_,_,_,_,Y,X%Y,rfl,rfl,rfl,hny,hn2,huy2,hur,hg2,hbw3⟩
  obtain rfl:k=n:=by omega
  have hall:rows.take k=rows:=cT (by rw[HL.out];exact aX _)
  have HA:=Lib.hid hall
  clear hall
  go_wp2_with fail
  refine(vB _ _ _ _ _ hu3 (by omega)).mono ?_
  rintro e w1 ⟨A1,n1,c1,rfl,h1,hb1⟩
  rw[HA.out]at h1
  go_wp2_with fail
  go_ret
  exact⟨_,_,_,rfl,h1.base_le hbw.size,hbw.trans (hb1.mono hbw.size)⟩
def dV (neg:Bool) (m:Nat):Int:=if neg then-(m:Int)else m
def aZ (z:Int):Bool:=decide (z<0)
def eV (neg:Bool) (xs:List Nat):Bool:=(xs.isEmpty&& !neg)||(!xs.isEmpty&&nth xs (xs.length-1)!= 0)
def eP (neg:Bool) (xs:List Nat):Int:=if eV neg xs then dV neg (vl 4294967296 xs)else 0
theorem mP (neg:Bool) (m:Nat):(dV neg m).natAbs=m:=by unfold dV;split <;> omega
theorem zA (neg:Bool) (m:Nat):aZ (dV neg m)=(neg&&decide (0<m)):=by
 unfold dV aZ
 cases neg <;> simp
theorem Rz (z:Int):dV (aZ z) z.natAbs=z:=by
 unfold dV aZ
 by_cases h:z<0 <;> simp[h] <;> omega
theorem qL {m n:Nat}(h:(dg 4294967296 m).length=n):decide (0<n)=decide (0<m):=by
 rcases Nat.eq_zero_or_pos n with h0 | h0
 ·subst h0
  have:=(fC (by omega)).1 (List.eq_nil_of_length_eq_zero h)
  subst this
  rfl
 rcases Nat.eq_zero_or_pos m with h1 | h1
 ·subst h1
  rw[(fC (B:=4294967296) (by omega)).2 rfl]at h
  simp at h
  omega
 simp[h0,h1]
theorem Jc {neg:Bool}{m n:Nat}(h:(dg 4294967296 m).length=n):(neg&&decide (0<n))=aZ (dV neg m):=by rw[zA,qL h]
theorem Zl {neg:Bool}{xs:List Nat}(h:eV neg xs=true):trim xs=xs:=by
 rcases xs with _ | ⟨x,l⟩
 ·rfl
 have h1:nth (x::l) ((x::l).length-1)≠0:=by simpa[eV]using h
 have h2:=wB (xs:=x::l) (k:=(x::l).length) (by simp) (aX _) h1
 rwa[cT (aX _)]at h2
theorem vD {neg:Bool}{xs:List Nat}(hl:Lim 4294967296 xs) (h:eV neg xs=true):dg 4294967296 (eP neg xs).natAbs=xs:=by
 unfold eP
 rw[if_pos h,mP,fR (by omega) hl,Zl h]
theorem El {neg:Bool}{xs:List Nat}(hl:Lim 4294967296 xs) (h:eV neg xs=true):aZ (eP neg xs)=neg:=by
 have h1:=vD hl h
 unfold eP at h1⊢
 rw[if_pos h]at h1⊢
 rw[mP]at h1
 rw[zA]
 rcases xs with _ | ⟨x,l⟩
 ·have:neg=false:=by simpa[eV]using h
  subst this
  rfl
 have h2:=qL (m:=vl 4294967296 (x::l)) (n:=(x::l).length) (by rw[h1])
 rw[<-h2]
 simp
theorem EB {neg:Bool}{xs:List Nat}(h:eV neg xs=false):eP neg xs=0:=by unfold eP;rw[h];rfl
theorem Cw (z:Int):eV (aZ z) (dg 4294967296 z.natAbs)=true:=by
 unfold eV
 by_cases h0:z=0
 ·subst h0
  rw[show dg 4294967296 (Int.natAbs 0)=[] from(fC (by omega)).2 rfl]
  rfl
 have hn:dg 4294967296 z.natAbs≠[]:=fun e=>h0 (by have:=(fC (by omega)).1 e;omega)
 have h:=wA (xP (B:=4294967296) (by omega) _) hn
 rw[List.getLast_eq_getElem]at h
 have h2:=List.length_pos_iff.2 hn
 have:(dg 4294967296 z.natAbs).isEmpty=false:=by simpa using hn
 rw[this,dT (by omega)]
 simpa using h
theorem Cy (z:Int):eP (aZ z) (dg 4294967296 z.natAbs)=z:=by
 unfold eP
 rw[if_pos (Cw z),cL (by omega),Rz]
def SG (z:Int) (w:World) (e:Ending) (w':World):Prop:=
 ∃A n c,e=.returned (.agg #[.bool (aZ z),.slice A n c])/\Own 223 w' w.heap.size A n c (dg 4294967296 z.natAbs)/\Below w.heap.size w w'
set_option maxHeartbeats 400000 in
theorem Jd (neg:Bool) (A:Option Addr) (n c:Nat) (hn:n<=9223372036854775807) (w:World):
  Calls Tryz.prog 170 #[.bool neg,.slice A n c] w fun e w'=>e=.returned (.agg #[.bool (neg&&decide (0<n)),.slice A n c])/\Below w.heap.size w w':=by
 cases neg
 ·go_enter Tryz.func170,Tryz.ntmps170
  go_wp2_with fail
  refine bodyPost_ret (v:=.agg #[.bool false,.slice A n c]) (by simp[results,Tryz.results170,go_sem]) rfl ⟨rfl,?_⟩
  (repeat (first | exact Below.refl _ _ | assumption | refine Below.drew ?_ | refine Below.alloc ?_ (by first | exact aX _ | exact Below.size (by assumption) | (simp;done) | (simp;omega) | omega) _))
 go_enter Tryz.func170,Tryz.ntmps170
 go_wp2_with fail
 refine bodyPost_ret (v:=.agg #[.bool (decide (0<n)),.slice A n c]) (by simp[results,Tryz.results170,go_sem]) rfl ⟨rfl,?_⟩
 (repeat (first | exact Below.refl _ _ | assumption | refine Below.drew ?_ | refine Below.alloc ?_ (by first | exact aX _ | exact Below.size (by assumption) | (simp;done) | (simp;omega) | omega) _))
theorem LO {P:Program}{c:Code}{Q:Exit->Act->World->Prop}{a:Act}{W:World}(F:World->Prop) (h:F W) (k:∀W0,F W0->c.wp P Q a W0):c.wp P Q a W:=k W h
abbrev Hld (s:Nat) (w:World) (B g k:Nat) (W0 w':World):Prop:=
 Below s w w'/\g<w'.heap.size/\B<=w'.heap.size/\s<=g/\s<=B/\(∀b o,b<B->b≠g->w'.cell? ⟨b,o,none⟩=W0.cell? ⟨b,o,none⟩)/\(∀o,o<k->(w'.cell? ⟨g,o,none⟩).isSome=true/\w'.frozen? ⟨g,o,none⟩=false)
theorem Hld.call {s B g k:Nat}{w W0 W w1:World}(h:Hld s w B g k W0 W) (hb:Below W.heap.size W w1):Hld s w B g k W0 w1:=by
 obtain⟨h1,h2,h2',h3,h4,h5,h6⟩:=h
 refine⟨h1.trans (hb.mono (by omega)),Nat.lt_of_lt_of_le h2 hb.size,Nat.le_trans h2' hb.size,h3,h4,fun b o hlt hne=>?_,fun o ho=>?_⟩
 ·rw[hb.cell (p:=⟨b,o,none⟩) (show b<W.heap.size by omega)]
  exact h5 b o hlt hne
 rw[hb.cell (p:=⟨g,o,none⟩) h2,hb.frozen (p:=⟨g,o,none⟩) h2]
 exact h6 o ho
theorem Hld.alloc {s B g k:Nat}{w W0 W:World}(h:Hld s w B g k W0 W) (o:Obj):Hld s w B g k W0 (W.alloc o):=Hld.call h (tU W o)
theorem Hld.bel {s B g k:Nat}{w W0 W:World}(h:Hld s w B g k W0 W):Below s w W:=h.1
theorem Hld.res {s B g k:Nat}{w W0 W:World}(h:Hld s w B g k W0 W) (o:Nat) (ho:o<k):∃v,W.cell? ⟨g,o,none⟩=some v:=Option.isSome_iff_exists.1 (h.2.2.2.2.2.2 o ho).1
theorem Hld.fro {s B g k:Nat}{w W0 W:World}(h:Hld s w B g k W0 W) (o:Nat) (ho:o<k):W.frozen? ⟨g,o,none⟩=false:=(h.2.2.2.2.2.2 o ho).2
theorem Hld.base {s B g k:Nat}{w W0 W:World}(h:Hld s w B g k W0 W):g+1<=W.heap.size:=h.2.1
theorem Own.setLow {t:TypeId}{w:World}{base n c:Nat}{A:Option Addr}{xs:List Nat}(h:Own t w base A n c xs){p:Addr}(hp:p.block<base) (v:Value):Own t (w.setCell p v) base A n c xs:=
 ⟨ownsRow_setCell_below h.row hp v,h.lim⟩
theorem Own.over {t:TypeId}{w w':World}{base n c:Nat}{A:Option Addr}{xs:List Nat}(h:Own t w base A n c xs) (hb:Below w.heap.size w w'):Own t w' base A n c xs:=h.below hb
theorem Wl (a b:Int):dV (!(aZ a==aZ b)) (a.natAbs*b.natAbs)=a*b:=by
 show dV (aZ a != aZ b) (a.natAbs*b.natAbs)=a*b
 unfold dV aZ
 have e:((a.natAbs*b.natAbs:Nat):Int)=(a.natAbs:Int)*(b.natAbs:Int):=by simp
 rw[e]
 by_cases ha:a<0 <;> by_cases hb:b<0 <;> simp only[ha,hb,decide_true,decide_false,bne_self_eq_false,Bool.false_eq_true,if_false,if_true,Bool.true_bne,Bool.false_bne,Bool.not_false,Bool.not_true]
 ·rw[show(a.natAbs:Int)=-a by omega,show(b.natAbs:Int)=-b by omega,Int.neg_mul_neg]
 ·rw[show(a.natAbs:Int)=-a by omega,show(b.natAbs:Int)=b by omega,Int.neg_mul,Int.neg_neg]
 ·rw[show(a.natAbs:Int)=a by omega,show(b.natAbs:Int)=-b by omega,Int.mul_neg,Int.neg_neg]
 rw[show(a.natAbs:Int)=a by omega,show(b.natAbs:Int)=b by omega]
theorem Mq {a b q r:Int}(h0:b≠0) (h:r+b*q=a) (hp:0<b->0<=r/\r<b) (hn:b<0->b<r/\r<=0):a.fdiv b=q/\a.fmod b=r:=by
 by_cases hb:0<b
 ·exact(Int.fdiv_fmod_unique hb).2 ⟨h,hp hb⟩
 exact(Int.fdiv_fmod_unique' (by omega)).2 ⟨h,hn (by omega)⟩
theorem PW {a b:Int}(h0:b≠0) (hs:aZ a=aZ b):a.fdiv b=dV false (a.natAbs/b.natAbs)/\a.fmod b=dV (aZ b) (a.natAbs%b.natAbs):=by
 have e:=Nat.div_add_mod a.natAbs b.natAbs
 have l:=Nat.mod_lt a.natAbs (show 0<b.natAbs by omega)
 generalize a.natAbs/b.natAbs=q at*
 generalize a.natAbs%b.natAbs=r at*
 have e2:(b.natAbs:Int)*q+r=a.natAbs:=by exact_mod_cast e
 by_cases hb:b<0
 ·have ha:a<0:=by simpa[aZ,hb]using hs
  rw[show(b.natAbs:Int)=-b by omega,show(a.natAbs:Int)=-a by omega,Int.neg_mul]at e2
  apply Mq h0 <;> simp[dV,aZ,hb] <;> omega
 have ha:¬a<0:=by simpa[aZ,hb]using hs
 rw[show(b.natAbs:Int)=b by omega,show(a.natAbs:Int)=a by omega]at e2
 apply Mq h0 <;> simp[dV,aZ,hb] <;> omega
theorem PX {a b:Int}(h0:b≠0) (hs:aZ a≠aZ b) (hr:a.natAbs%b.natAbs=0):a.fdiv b=dV true (a.natAbs/b.natAbs)/\a.fmod b=dV (aZ b) (a.natAbs%b.natAbs):=by
 have e:=Nat.div_add_mod a.natAbs b.natAbs
 rw[hr]at e⊢
 generalize a.natAbs/b.natAbs=q at*
 have e2:(b.natAbs:Int)*q=a.natAbs:=by exact_mod_cast e
 by_cases hb:b<0
 ·have ha:¬a<0:=by simpa[aZ,hb]using hs
  rw[show(b.natAbs:Int)=-b by omega,show(a.natAbs:Int)=a by omega,Int.neg_mul]at e2
  apply Mq h0 <;> simp[dV,aZ,hb,Int.mul_neg] <;> omega
 have ha:a<0:=by simpa[aZ,hb]using hs
 rw[show(b.natAbs:Int)=b by omega,show(a.natAbs:Int)=-a by omega]at e2
 apply Mq h0 <;> simp[dV,aZ,hb,Int.mul_neg] <;> omega
theorem PY {a b:Int}(h0:b≠0) (hs:aZ a≠aZ b) (hr:a.natAbs%b.natAbs≠0):a.fdiv b=dV true (a.natAbs/b.natAbs+1)/\a.fmod b=dV (aZ b) (b.natAbs-a.natAbs%b.natAbs):=by
 have e:=Nat.div_add_mod a.natAbs b.natAbs
 have l:=Nat.mod_lt a.natAbs (show 0<b.natAbs by omega)
 generalize a.natAbs/b.natAbs=q at*
 generalize a.natAbs%b.natAbs=r at*
 have e2:(b.natAbs:Int)*q+r=a.natAbs:=by exact_mod_cast e
 by_cases hb:b<0
 ·have ha:¬a<0:=by simpa[aZ,hb]using hs
  rw[show(b.natAbs:Int)=-b by omega,show(a.natAbs:Int)=a by omega,Int.neg_mul]at e2
  apply Mq h0 <;> simp[dV,aZ,hb,Int.mul_neg,Int.mul_add] <;> omega
 have ha:a<0:=by simpa[aZ,hb]using hs
 rw[show(b.natAbs:Int)=b by omega,show(a.natAbs:Int)=-a by omega]at e2
 apply Mq h0 <;> simp[dV,aZ,hb,Int.mul_neg,Int.mul_add] <;> omega
theorem EC {u:Nat}(h:u<18446744073709551616):dg 4294967296 u=trim [u%4294967296,u/4294967296]:=by
 have e:vl 4294967296 [u%4294967296,u/4294967296]=u:=by
  simp only[vl]
  omega
 have hl:Lim 4294967296 [u%4294967296,u/4294967296]:=by
  intro x hx
  simp at hx
  omega
 rw[<-fR (by omega) hl,e]
theorem Sa (w:World) (x y:Nat) (hx:x<4294967296) (hy:y<4294967296) (e:TypeId):U32 (w.alloc (.cells #[.int .u32 (x:Int),.int .u32 (y:Int)] e)) (w.alloc (.cells #[.int .u32 (x:Int),.int .u32 (y:Int)] e)).heap.size (some ⟨w.heap.size,0,none⟩) 2 2 [x,y]:=by
 refine⟨⟨rfl,aX _,by omega,fun _=>⟨⟨w.heap.size,0,none⟩,rfl,by simp,fun k u hk=>?_⟩⟩,fun z hz=>by simp at hz;omega⟩
 match k with
 | 0=>
  have e1:(⟨w.heap.size,0,none⟩:Addr).add 0=⟨w.heap.size,0,none⟩:=rfl
  rw[e1,rM _ _ _ 0 rfl]
  simpa[iV]using hk
 | 1=>
  have e1:(⟨w.heap.size,0,none⟩:Addr).add 1=⟨w.heap.size,1,none⟩:=rfl
  rw[e1,rM _ _ _ 1 rfl]
  simpa[iV]using hk
 | k+2=>simp[iV]at hk
set_option maxHeartbeats 2000000 in
theorem SH (z:Int) (w:World) (h1:-9223372036854775808<=z) (h2:z<=9223372036854775807):
  Calls Tryz.prog 111 #[.int .i64 z] w (SG z w):=by
 by_cases hz:z<0
 ·have e0:IntKind.u64.wrap (-IntKind.u64.wrap z)=(z.natAbs:Int):=by
   rw[IntKind.wrap_u64,IntKind.wrap_u64]
   omega
  have e1:IntKind.u64.wrap (-IntKind.u64.wrap z)%4294967296=((z.natAbs%4294967296:Nat):Int):=by rw[e0];omega
  have e2:IntKind.u64.wrap (-IntKind.u64.wrap z)/4294967296%4294967296=((z.natAbs/4294967296:Nat):Int):=by rw[e0];omega
  have E1:=Lib.hid e1
  have E2:=Lib.hid e2
  clear e0 e1 e2
  go_enter Tryz.func111,Tryz.ntmps111
  go_upto_region 1 with fail
  refine LO (fun W0=>Hld w.heap.size w w.heap.size w.heap.size 2 W0 W0) ?_ ?_
  ·refine⟨by(repeat (first | exact Below.refl _ _ | assumption | refine Below.drew ?_ | refine Below.setCell ?_ (by first | exact aX _ | (simp;done) | (simp;omega) | omega) _ | refine Below.alloc ?_ (by first | exact aX _ | exact Below.size (by assumption) | (simp;done) | (simp;omega) | omega) _)),by simp,by simp,by omega,by omega,fun _ _ _ _=>rfl,fun o ho=>?_⟩
   match o,ho with
   | 0,_=>constructor <;> go_simp
   | 1,_=>constructor <;> go_simp
  intro W0 hH0
  go_wp2_with fail
  rw[E1.out,E2.out]
  refine(gU _ 2 2 [z.natAbs%4294967296,z.natAbs/4294967296] _ (Sa W0 _ _ (by omega) (by omega) _) (by omega)).mono ?_
  rintro e w1 ⟨A1,n1,c1,rfl,h3,hb1⟩
  rw[<-EC (by omega)]at h3
  have hH1:=(hH0.alloc _).call hb1
  have h3:=h3.base_le (hH0.alloc _).base
  have hl3:=h3.len
  have hcap3:=h3.u32.cap
  have hbig3:=h3.u32.big
  have HL3:=Lib.hid hl3
  clear hl3
  go_wp2_with fail
  refine(Jd _ A1 n1 c1 (by omega) _).mono ?_
  rintro e w2 ⟨rfl,hb2⟩
  rw[Jc HL3.out,show dV true z.natAbs=z by unfold dV;simp;omega]
  have h3:=h3.over hb2
  have hH2:=hH1.call hb2
  obtain⟨v0,hv0⟩:=hH2.res 0 (by omega)
  obtain⟨v1,hv1⟩:=hH2.res 1 (by omega)
  have hf0:=hH2.fro 0 (by omega)
  have hf1:=hH2.fro 1 (by omega)
  go_wp2_with fail
  refine bodyPost_ret (v:=.agg #[.bool (aZ z),.slice A1 n1 c1]) (by simp[results,Tryz.results111,go_sem,World.cell?_setCell_other,hv0,hv1]) rfl ⟨A1,n1,c1,rfl,?_,?_⟩
  ·refine Own.base_le (((h3.setLow ?_ _).setLow ?_ _)) (by omega) <;> simp
  (have hb:=hH2.bel;(repeat (first | exact Below.refl _ _ | assumption | refine Below.drew ?_ | refine Below.setCell ?_ (by first | exact aX _ | (simp;done) | (simp;omega) | omega) _ | refine Below.alloc ?_ (by first | exact aX _ | exact Below.size (by assumption) | (simp;done) | (simp;omega) | omega) _)))
 have e1:z%4294967296=((z.natAbs%4294967296:Nat):Int):=by omega
 have e2:z/4294967296=((z.natAbs/4294967296:Nat):Int):=by omega
 have E1:=Lib.hid e1
 have E2:=Lib.hid e2
 clear e1 e2
 go_enter Tryz.func111,Tryz.ntmps111
 go_upto_region 1 with fail
 refine LO (fun W0=>Hld w.heap.size w w.heap.size w.heap.size 2 W0 W0) ?_ ?_
 ·refine⟨by(repeat (first | exact Below.refl _ _ | assumption | refine Below.drew ?_ | refine Below.setCell ?_ (by first | exact aX _ | (simp;done) | (simp;omega) | omega) _ | refine Below.alloc ?_ (by first | exact aX _ | exact Below.size (by assumption) | (simp;done) | (simp;omega) | omega) _)),by simp,by simp,by omega,by omega,fun _ _ _ _=>rfl,fun o ho=>?_⟩
  match o,ho with
  | 0,_=>constructor <;> go_simp
  | 1,_=>constructor <;> go_simp
 intro W0 hH0
 go_wp2_with fail
 rw[E1.out,E2.out]
 refine(gU _ 2 2 [z.natAbs%4294967296,z.natAbs/4294967296] _ (Sa W0 _ _ (by omega) (by omega) _) (by omega)).mono ?_
 rintro e w1 ⟨A1,n1,c1,rfl,h3,hb1⟩
 rw[<-EC (by omega)]at h3
 have hH1:=(hH0.alloc _).call hb1
 have h3:=h3.base_le (hH0.alloc _).base
 have hl3:=h3.len
 have hcap3:=h3.u32.cap
 have hbig3:=h3.u32.big
 have HL3:=Lib.hid hl3
 clear hl3
 go_wp2_with fail
 refine(Jd _ A1 n1 c1 (by omega) _).mono ?_
 rintro e w2 ⟨rfl,hb2⟩
 rw[Jc HL3.out,show dV false z.natAbs=z by unfold dV;simp;omega]
 have h3:=h3.over hb2
 have hH2:=hH1.call hb2
 obtain⟨v0,hv0⟩:=hH2.res 0 (by omega)
 obtain⟨v1,hv1⟩:=hH2.res 1 (by omega)
 have hf0:=hH2.fro 0 (by omega)
 have hf1:=hH2.fro 1 (by omega)
 go_wp2_with fail
 refine bodyPost_ret (v:=.agg #[.bool (aZ z),.slice A1 n1 c1]) (by simp[results,Tryz.results111,go_sem,World.cell?_setCell_other,hv0,hv1]) rfl ⟨A1,n1,c1,rfl,?_,?_⟩
 ·refine Own.base_le (((h3.setLow ?_ _).setLow ?_ _)) (by omega) <;> simp
 (have hb:=hH2.bel;(repeat (first | exact Below.refl _ _ | assumption | refine Below.drew ?_ | refine Below.setCell ?_ (by first | exact aX _ | (simp;done) | (simp;omega) | omega) _ | refine Below.alloc ?_ (by first | exact aX _ | exact Below.size (by assumption) | (simp;done) | (simp;omega) | omega) _)))
def eC (na:Bool) (xs:List Nat) (nb:Bool) (ys:List Nat):Bool:=eV na xs&&eV nb ys&&decide (0<eP nb ys)&&(Int.gcd (eP na xs) (eP nb ys)==1)
theorem Em {xs:List Nat}(hl:Lim 4294967296 xs){neg:Bool}:(dg 4294967296 (eP neg xs).natAbs).length<=xs.length:=by
 cases h:eV neg xs
 ·rw[EB h,show dg 4294967296 (Int.natAbs 0)=[] from(fC (by omega)).2 rfl]
  simp
 rw[vD hl h]
 exact aX _
def Cz (na:Bool) (xs:List Nat) (nb:Bool) (ys:List Nat):Rat:=if eC na xs nb ys then Rat.divInt (eP na xs) (eP nb ys)else 0
theorem Da {na nb:Bool}{xs ys:List Nat}(h:eC na xs nb ys=true):eV na xs=true/\eV nb ys=true/\0<eP nb ys/\Int.gcd (eP na xs) (eP nb ys)=1:=by
 unfold eC at h
 simp only[Bool.and_eq_true,decide_eq_true_eq,beq_iff_eq]at h
 exact⟨h.1.1.1,h.1.1.2,h.1.2,h.2⟩
theorem Zm {a b:Int}(h0:0<b) (hg:Int.gcd a b=1):(Rat.divInt a b).num=a:=by
 rw[Rat.num_divInt,Int.gcd_comm,hg,Int.sign_eq_one_of_pos h0]
 simp
theorem Zo {a b:Int}(h0:0<b) (hg:Int.gcd a b=1):((Rat.divInt a b).den:Int)=b:=by
 rw[Rat.den_divInt,Int.gcd_comm,hg,if_neg (by omega)]
 simp
 omega
theorem Wm {na nb:Bool}{xs ys:List Nat}(h:eC na xs nb ys=true):(Cz na xs nb ys).num=eP na xs:=by
 obtain⟨_,_,h3,h4⟩:=Da h
 unfold Cz
 rw[if_pos h,Zm h3 h4]
theorem Wn {na nb:Bool}{xs ys:List Nat}(h:eC na xs nb ys=true):((Cz na xs nb ys).den:Int)=eP nb ys:=by
 obtain⟨_,_,h3,h4⟩:=Da h
 unfold Cz
 rw[if_pos h,Zo h3 h4]
theorem Mr {na nb:Bool}{xs ys:List Nat}(h:eC na xs nb ys=false):Cz na xs nb ys=0:=by
 unfold Cz
 rw[h]
 rfl
def Sz (L:Nat) (q:Rat):Prop:=(dg 4294967296 q.num.natAbs).length<=L/\(dg 4294967296 q.den).length<=L
theorem PZ:dg 4294967296 0=[]:=(fC (by omega)).2 rfl
theorem YO {na nb:Bool}{xs ys:List Nat}{L:Nat}(hx:Lim 4294967296 xs) (hy:Lim 4294967296 ys) (h1:xs.length<=L) (h2:ys.length<=L) (h3:1<=L):Sz L (Cz na xs nb ys):=by
 cases h:eC na xs nb ys
 ·rw[Mr h]
  refine⟨?_,?_⟩
  ·show(dg 4294967296 0).length<=L
   rw[PZ]
   exact Nat.zero_le _
  show(dg 4294967296 1).length<=L
  exact h3
 refine⟨?_,?_⟩
 ·rw[Wm h]
  exact Nat.le_trans (Em hx) h1
 rw[show(Cz na xs nb ys).den=(eP nb ys).natAbs by rw[<-Wn h];simp]
 exact Nat.le_trans (Em hy) h2
theorem Dj (n:Nat):aZ (n:Int)=false:=by unfold aZ;simp
theorem xT (k:Nat):eP false (dg 4294967296 k)=(k:Int):=by
 have h:=Cy (k:Int)
 rwa[Dj,Int.natAbs_natCast]at h
theorem rR {N D:Int}(h0:0<D):(Rat.divInt N D).num=N.fdiv (Int.gcd N D)/\((Rat.divInt N D).den:Int)=D.fdiv (Int.gcd N D):=by
 have hg:(0:Int)<=(Int.gcd N D:Int):=by omega
 rw[Int.fdiv_eq_ediv_of_nonneg _ hg,Int.fdiv_eq_ediv_of_nonneg _ hg,Rat.num_divInt,Rat.den_divInt,Int.gcd_comm D N,Int.sign_eq_one_of_pos h0,if_neg (by omega),Int.one_mul]
 refine⟨rfl,?_⟩
 rw[Int.natCast_ediv,Int.natAbs_of_nonneg (by omega)]
theorem On {N D:Int}(h0:D<0):(Rat.divInt N D).num=N.fdiv (-(Int.gcd N D:Int))/\((Rat.divInt N D).den:Int)=D.fdiv (-(Int.gcd N D:Int)):=by
 have hg:(0:Int)<=(Int.gcd N D:Int):=by omega
 have h:=rR (N:=-N) (D:=-D) (by omega)
 rw[Rat.neg_divInt_neg]at h
 have e:Int.gcd (-N) (-D)=Int.gcd N D:=by rw[Int.gcd_neg,Int.neg_gcd]
 rw[e]at h
 rw[h.1,h.2]
 refine⟨?_,?_⟩
 ·rw[<-Int.neg_fdiv_neg,Int.neg_neg]
 rw[<-Int.neg_fdiv_neg,Int.neg_neg]
theorem Zp (a b:Nat):(dg 4294967296 (a*b)).length<=(dg 4294967296 a).length+(dg 4294967296 b).length:=by
 refine cW (by omega) ?_
 rw[Nat.pow_add]
 exact Nat.mul_lt_mul_of_lt_of_lt (qP (by omega)) (qP (by omega))
theorem Tn (a b:Int):(dg 4294967296 (a*b).natAbs).length<=(dg 4294967296 a.natAbs).length+(dg 4294967296 b.natAbs).length:=by
 rw[Int.natAbs_mul]
 exact Zp _ _
theorem To (a b:Int){L:Nat}(ha:(dg 4294967296 a.natAbs).length<=L) (hb:(dg 4294967296 b.natAbs).length<=L):(dg 4294967296 (a+b).natAbs).length<=L+1:=by
 refine cW (by omega) ?_
 have h1:a.natAbs<4294967296^L:=Nat.lt_of_lt_of_le (qP (by omega)) (Nat.pow_le_pow_right (by omega) ha)
 have h2:b.natAbs<4294967296^L:=Nat.lt_of_lt_of_le (qP (by omega)) (Nat.pow_le_pow_right (by omega) hb)
 rw[Nat.pow_succ]
 generalize 4294967296^L=p at*
 omega
theorem FM {p q:Rat}(h:p.den=q.den):Rat.divInt (p.num+q.num) (p.den:Int)=p+q:=by
 have hp:(p.den:Int)≠0:=by have:=p.den_nz;omega
 have e:=Rat.divInt_add_divInt p.num q.num hp hp
 have e1:=Rat.num_divInt_den p
 have e2:=Rat.num_divInt_den q
 rw[<-h]at e2
 rw[e1,e2]at e
 rw[e,<-Int.add_mul,Rat.divInt_mul_right hp]
theorem wE (p q:Rat):Rat.divInt (p.num*q.den+q.num*p.den) ((p.den:Int)*q.den)=p+q:=by
 have hp:(p.den:Int)≠0:=by have:=p.den_nz;omega
 have hq:(q.den:Int)≠0:=by have:=q.den_nz;omega
 have e:=Rat.divInt_add_divInt p.num q.num hp hq
 rw[Rat.num_divInt_den,Rat.num_divInt_den]at e
 exact e.symm
structure Lv where
 A:Option Addr
 n:Nat
 c:Nat
structure Zv where
 s:Bool
 A:Option Addr
 n:Nat
 c:Nat
structure Rv where
 s:Bool
 A:Option Addr
 n:Nat
 c:Nat
 t:Bool
 B:Option Addr
 m:Nat
 d:Nat
structure LimR (W:World) (N:Nat->Prop) (A:Option Addr) (n c:Nat) (xs:List Nat):Prop where
 len:xs.length=n
 cap:n<=c
 big:c<=9223372036854775807
 lim:Lim 4294967296 xs
 cell:0<n->∃ad,A=some ad/\N ad.block/\∀k u,(iV xs)[k]? =some u->W.cell? (ad.add k)=some u
section
variable {W W':World}{N N':Nat->Prop}{A:Option Addr}{n c:Nat}{xs:List Nat}
theorem LimR.u32 {B:Nat}(h:LimR W N A n c xs) (hN:∀b,N b->b<B):U32 W B A n c xs:=
 ⟨⟨by rw[mW,h.len,Nat.mul_one],h.cap,h.big,fun hn=>let ⟨ad,e,hb,hc⟩:=h.cell hn;⟨ad,e,hN _ hb,hc⟩⟩,h.lim⟩
end
theorem Lk (q:Rat):eC (aZ q.num) (dg 4294967296 q.num.natAbs) false (dg 4294967296 q.den)=true:=by
 unfold eC
 have h1:=Cw q.num
 have h2:=Cw (q.den:Int)
 have h3:=Cy q.num
 rw[Dj,Int.natAbs_natCast]at h2
 have h4:=xT q.den
 rw[h1,h2,h3,h4]
 have hp:=q.den_pos
 have hg:Int.gcd q.num q.den=1:=q.reduced
 simp[hg,hp]
theorem YP (q:Rat):Cz (aZ q.num) (dg 4294967296 q.num.natAbs) false (dg 4294967296 q.den)=q:=by
 unfold Cz
 rw[Lk,Cy,xT]
 simp only[if_true]
 exact Rat.num_divInt_den q
theorem Own.blk {t:TypeId}{w:World}{base n c:Nat}{A:Option Addr}{xs:List Nat}(h:Own t w base A n c xs):∀b∈(Value.slice A n c).ownBlock.toList,base<=b/\b<w.heap.size:=by
 intro b hb
 rcases h.row.2 with⟨h2,_⟩ | ⟨g,cap,cur,hv,hb',hh,rest⟩
 ·rw[h2]at hb
  simp[Value.ownBlock]at hb
 rw[hv]at hb
 simp[Value.ownBlock]at hb
 subst hb
 exact⟨hb',(Array.getElem?_eq_some_iff.1 hh).1⟩
def tA (L:Nat) (k:Int):Prop:=(dg 4294967296 k.natAbs).length<=L
theorem sO {L:Nat}{q:Rat}(h:Sz L q):tA L (q.den:Int):=by
 unfold tA
 rw[Int.natAbs_natCast]
 exact h.2
section
variable {w:World}{r r':Rv}{p q:Rat}
end
section
variable {w:World}{z z':Zv}{k k':Int}
end
theorem oG {L M:Nat}{a b:Int}(ha:tA L a) (hb:tA M b):tA (L+M) (a*b):=Nat.le_trans (Tn a b) (Nat.add_le_add ha hb)
theorem Tp {a b:Int}(hb:0<b):(Rat.divInt a b).num.sign=a.sign:=by
 rw[(rR (N:=a) hb).1]
 have hg:0<Int.gcd a b:=Nat.gcd_pos_of_pos_right _ (by omega)
 have hd:((Int.gcd a b:Nat):Int)∣ a:=Int.gcd_dvd_left ..
 obtain⟨k,hk⟩:=hd
 generalize Int.gcd a b=g at*
 subst hk
 have h1:((g:Int)*k).fdiv g=k:=by
  rw[Int.fdiv_eq_ediv_of_nonneg _ (by omega)]
  exact Int.mul_ediv_cancel_left k (by omega)
 rw[h1,Int.sign_mul,Int.sign_eq_one_of_pos (show(0:Int)<g by omega),Int.one_mul]
theorem AO (p q:Rat):(p.num*(q.den:Int)-q.num*(p.den:Int)).sign=(p-q).num.sign:=by
 have h:=wE p (-q)
 rw[Rat.neg_num,Rat.neg_den,Int.neg_mul,<-Int.sub_eq_add_neg,<-Rat.sub_eq_add_neg]at h
 rw[<-h,Tp]
 exact Int.mul_pos (by have:=p.den_pos;omega) (by have:=q.den_pos;omega)
theorem qB {a:Rat}:a.num<0↔a<0:=by
 rw[Rat.lt_iff]
 simp
theorem Gl {a:Rat}:0<a.num↔0<a:=by
 rw[Rat.lt_iff]
 simp
theorem pL (p q:Rat):(p-q).num.sign=if p<q then-1 else if p=q then 0 else 1:=by
 split
 ·rename_i h
  have h1:p-q<0:=by grind
  exact Int.sign_eq_neg_one_of_neg (qB.2 h1)
 split
 ·rename_i h
  subst h
  rw[show p-p=0 by grind]
  rfl
 rename_i h1 h2
 have h3:0<p-q:=by grind
 exact Int.sign_eq_one_of_pos (Gl.2 h3)
theorem Sz.mono {L M:Nat}{q:Rat}(h:Sz L q) (hL:L<=M):Sz M q:=⟨Nat.le_trans h.1 hL,Nat.le_trans h.2 hL⟩
theorem nU {a b:Int}{L M:Nat}(hb:0<b) (ha:tA L a) (hb':tA M b):(dg 4294967296 (Rat.divInt a b).num.natAbs).length<=L/\(dg 4294967296 (Rat.divInt a b).den).length<=M:=by
 have h1:=(rR (N:=a) hb)
 have hg:0<Int.gcd a b:=Nat.gcd_pos_of_pos_right _ (by omega)
 constructor
 ·refine Nat.le_trans (dS (by omega) ?_) ha
  rw[h1.1]
  have hd:((Int.gcd a b:Nat):Int)∣ a:=Int.gcd_dvd_left ..
  obtain⟨k,hk⟩:=hd
  generalize Int.gcd a b=g at*
  subst hk
  rw[Int.fdiv_eq_ediv_of_nonneg _ (by omega),Int.mul_ediv_cancel_left k (by omega),Int.natAbs_mul]
  exact Nat.le_mul_of_pos_left _ (by omega)
 refine Nat.le_trans (dS (by omega) ?_) hb'
 have h2:((Rat.divInt a b).den:Int)<=b:=by
  rw[h1.2,Int.fdiv_eq_ediv_of_nonneg _ (by omega)]
  exact Int.ediv_le_self _ (by omega)
 omega
theorem AS {L M:Nat}{p q:Rat}(hp:Sz L p) (hq:Sz M q):Sz (L+M+1) (p+q):=by
 rw[<-wE p q]
 have h1:=oG hp.1 (sO hq)
 have h2:=oG hq.1 (sO hp)
 have h3:=oG (sO hp) (sO hq)
 have h4:tA (L+M+1) (p.num*q.den+q.num*p.den):=To _ _ h1 (Nat.le_trans h2 (by omega))
 have h5:=nU (Int.mul_pos (show(0:Int)<p.den by have:=p.den_pos;omega) (show(0:Int)<q.den by have:=q.den_pos;omega)) h4 h3
 exact⟨h5.1,Nat.le_trans h5.2 (by omega)⟩
theorem tH {L:Nat}{p:Rat}(hp:Sz L p):Sz L (-p):=⟨by rw[Rat.neg_num,Int.natAbs_neg];exact hp.1,by rw[Rat.neg_den];exact hp.2⟩
theorem UC {L M:Nat}{p q:Rat}(hp:Sz L p) (hq:Sz M q):Sz (L+M+1) (p-q):=by
 rw[Rat.sub_eq_add_neg]
 exact AS hp (tH hq)
theorem cU {z:Int}(h1:-9223372036854775808<=z) (h2:z<=9223372036854775807):Sz 2 (z:Rat):=by
 refine⟨?_,?_⟩
 ·exact cW (by omega) (by show z.natAbs<_;omega)
 exact cW (by omega) (by show(1:Nat)<_;omega)
theorem MO (p q:Rat):decide (0<(q-p).num.sign)=decide (p<q):=by
 rw[pL]
 by_cases h:q<p
 ·have:¬p<q:=by grind
  simp[h,this]
 by_cases h2:q=p
 ·subst h2;simp[h]
 have:p<q:=by grind
 simp[h,h2,this]
def iM (p:Rat) (l:List Rat):Rat:=l.foldl (fun a b=>if a<b then b else a) p
theorem IL (p:Rat) (l:List Rat):iM p l=p\/iM p l∈l:=by
 unfold iM
 induction l generalizing p with
 | nil=>exact .inl rfl
 | cons x l ih=>
  rw[List.foldl_cons]
  rcases ih (if p<x then x else p)with h | h
  ·rw[h]
   split
   ·exact .inr (by simp)
   exact .inl rfl
  exact .inr (List.mem_cons_of_mem _ h)
end Go.Proofs.YtimiaildfkimfaaGreatDoor
