/- Part 6 of a proof: Nat6 to S4. -/
import Derived.Test.YteggpgndiajdpaaDoorM5
import Derived.Deep.LoopGhost
import Derived.Deep.Cut
import Derived.Deep.CutRange
import Derived.Deep.DeepCutAuto
import Derived.Test.YteggpgndiajdpaaDoorM1
import Derived.KernelRfl
import Derived.Test.YteggpgndiajdpaaDoorProg
import Derived.Test.YteggpgndiajdpaaDoorM4
import Derived.Shelf.Strings.Trim
import Derived.Shelf.Strings.SlTrimAscii
set_option maxRecDepth 100000
set_option linter.unusedVariables false
set_option linter.unusedSimpArgs false
namespace Go.Proofs.YteggpgndiajdpaaDoor
open Go Go.RowKit
theorem Fk {P:Program}{f:FuncId}{args:Array Value}{w:World}{n:Nat}{v:Value}
  (h:Calls P f args (w.drewN n) fun e w'=>e=.returned v∧∃m,w'=(w.drewN n).drewN m):
  Calls P f args (w.drewN n) fun e w''=>e=.returned v∧∃m,w''=w.drewN m:=
 h.mono fun _ _ ⟨he,m,hm⟩=>⟨he,n+m,by rw[hm,World.drewN_drewN]⟩
theorem oC (A:Option Addr) (n c up R:Nat) (xs:List Nat) (w:World) (ha:U32 w w.heap.size A n c xs) (hv:vl 4294967296 xs=R*2^up) (hn:n≤1099511627775) (hup:up<32):
  Calls Tryd.prog 78 #[.slice A n c,.int .i64 (-(up:Int))] w (nY (dg 4294967296 R) 0 w):=by
 have hP:0<2^up:=Nat.pos_of_ne_zero (by simp)
 rcases Nat.eq_zero_or_pos R with h0 | h0
 ·subst h0
  exact nZ A n c _ xs w ha (by rw[hv,Nat.zero_mul])
 have hne:R*2^up≠0:=Nat.pos_iff_ne_zero.1 (Nat.mul_pos h0 hP)
 rcases Nat.eq_zero_or_pos up with h1 | h1
 ·subst h1
  rw[show(-((0:Nat):Int))=((0:Nat):Int) from rfl]
  have:=gB A n c 0 R xs w ha (by rw[hv];simp) hn (by omega) (by omega)
  simpa using this
 have:=oB A n c up (R*2^up) xs w ha hv hn h1 hup hne
 rwa[Nat.mul_div_cancel _ hP]at this
theorem Jg (w:World) (v:Nat):Rd (w.alloc (.cells #[.int .u32 (v:Int)] 64)) (w.heap.size+1) 1 (some ⟨w.heap.size,0,none⟩) 1 1 (cJ [v]):=by
 refine⟨rfl,Nat.le_refl _,by omega,fun _=>⟨_,rfl,by simp,fun k u hu=>?_⟩⟩
 have hk:k=0:=by
  rcases Nat.eq_zero_or_pos k with h | h
  ·exact h
  rw[List.getElem?_eq_none (by rw[dN];exact h)]at hu;cases hu
 subst hk
 rw[show(⟨w.heap.size,0,none⟩:Addr).add 0=⟨w.heap.size,0,none⟩ from rfl,jE _ _ _ 0 rfl]
 exact hu
theorem zY {ys:List Nat}{lb up:Nat}(hy:Lim 4294967296 ys) (hl:ys.length=lb) (h2:2≤lb) (hup:up<32) (u2:2147483648≤nth ys (lb-1)*2^up) (u3:nth ys (lb-1)*2^up<4294967296):
  (dg 4294967296 (vl 4294967296 ys*2^up)).length=lb∧2147483648≤nth (dg 4294967296 (vl 4294967296 ys*2^up)) (lb-1)∧0<vl 4294967296 ys∧4294967296^(lb-1)≤vl 4294967296 ys*2^up:=by
 have e:=aN 4294967296 ys (lb-1)
 rw[show lb-1+1=lb by omega,aS 4294967296 (l:=ys) (by omega)]at e
 have hlow:=dE (hy.take (lb-1))
 rw[List.length_take,Nat.min_eq_left (by omega)]at hlow
 have hB:0<4294967296^(lb-1):=Nat.pos_of_ne_zero (by simp)
 have hP:0<2^up:=Nat.pos_of_ne_zero (by simp)
 have hpow:2^up*2^(32-up)=4294967296:=by rw[←Nat.pow_add,show up+(32-up)=32 by omega]
 have htop:(nth ys (lb-1)+1)*2^up≤4294967296:=by
  rw[←hpow]at u3⊢
  rw[Nat.mul_comm]at u3
  have:=Nat.lt_of_mul_lt_mul_left u3
  rw[Nat.mul_comm]
  exact Nat.mul_le_mul_left _ this
 have hge:2147483648*4294967296^(lb-1)≤vl 4294967296 ys*2^up:=by
  rw[e,Nat.add_mul]
  have:2147483648*4294967296^(lb-1)≤nth ys (lb-1)*2^up*4294967296^(lb-1):=Nat.mul_le_mul_right _ u2
  have e2:nth ys (lb-1)*2^up*4294967296^(lb-1)=4294967296^(lb-1)*nth ys (lb-1)*2^up:=by
   rw[Nat.mul_assoc,Nat.mul_comm (2^up),←Nat.mul_assoc,Nat.mul_comm (nth ys (lb-1))]
  omega
 have hlt:vl 4294967296 ys*2^up<4294967296^lb:=by
  have h1:vl 4294967296 ys<(nth ys (lb-1)+1)*4294967296^(lb-1):=by rw[Nat.succ_mul,Nat.mul_comm (nth ys (lb-1)),e];omega
  have h2:=Nat.mul_lt_mul_of_pos_right h1 hP
  have h3:(nth ys (lb-1)+1)*4294967296^(lb-1)*2^up=(nth ys (lb-1)+1)*2^up*4294967296^(lb-1):=by
   rw[Nat.mul_assoc,Nat.mul_comm (4294967296^(lb-1)),←Nat.mul_assoc]
  have h4:(nth ys (lb-1)+1)*2^up*4294967296^(lb-1)≤4294967296*4294967296^(lb-1):=Nat.mul_le_mul_right _ htop
  have h5:4294967296^lb=4294967296*4294967296^(lb-1):=by rw[←Nat.pow_succ',show(lb-1).succ=lb by omega]
  omega
 have hpos:0<vl 4294967296 ys:=by
  rcases Nat.eq_zero_or_pos (vl 4294967296 ys)with h | h
  ·rw[h]at hge;omega
  exact h
 generalize vl 4294967296 ys*2^up=v at*
 have hlen:(dg 4294967296 v).length=lb:=by
  have h1:=aI (B:=4294967296) (by omega) hlt
  have h2:=eL (B:=4294967296) (n:=v) (by omega)
  rcases Nat.lt_or_ge (dg 4294967296 v).length lb with h | h
  ·have:4294967296^(dg 4294967296 v).length≤4294967296^(lb-1):=Nat.pow_le_pow_right (by omega) (by omega)
   omega
  omega
 refine⟨hlen,?_,hpos,by omega⟩
 have e3:=aN 4294967296 (dg 4294967296 v) (lb-1)
 rw[show lb-1+1=lb by omega,aS 4294967296 (l:=dg 4294967296 v) (by omega),bT (by omega)]at e3
 have h6:=dE ((bK (B:=4294967296) (by omega) v).take (lb-1))
 rw[List.length_take,Nat.min_eq_left (by omega)]at h6
 rcases Nat.lt_or_ge (nth (dg 4294967296 v) (lb-1)) 2147483648 with h | h
 ·exfalso
  have h7:4294967296^(lb-1)*nth (dg 4294967296 v) (lb-1)≤4294967296^(lb-1)*2147483647:=Nat.mul_le_mul_left _ (by omega)
  omega
 exact h
set_option maxHeartbeats 4000000 in
theorem oD (A B:Option Addr) (n m c d:Nat) (xs ys:List Nat) (w:World) (ha:U32 w w.heap.size A n c xs) (hb:U32 w w.heap.size B m d ys) (hn:n≤549755813888) (hm:m≤549755813888) (hle:vl 4294967296 ys≤vl 4294967296 xs) (h2:2≤(trim ys).length):
    Calls Tryd.prog 40 #[.slice A n c,.slice B m d] w (rB (dg 4294967296 (vl 4294967296 xs/vl 4294967296 ys)) (dg 4294967296 (vl 4294967296 xs%vl 4294967296 ys)) 0 w):=by
  have hge:¬gW (vl 4294967296 (trim xs)) (vl 4294967296 (trim ys))<0:=by
    rw[bJ,bJ]
    rcases Nat.lt_or_ge (vl 4294967296 ys) (vl 4294967296 xs)with h | h
    · rw[gH h];omega
    rw[pH (by omega)];omega
  have htl:=bM xs
  have hty:=bM ys
  rw[ha.len]at htl
  rw[hb.len]at hty
  obtain⟨la,hla⟩:∃la,(trim xs).length=la:=⟨_,rfl⟩
  obtain⟨lb,hlb⟩:∃lb,(trim ys).length=lb:=⟨_,rfl⟩
  rw[hla]at htl
  rw[hlb]at hty h2
  have hlast:nth (trim ys) (lb-1)≠0:=by
    have h:=hG (gZ ys) (by intro e;rw[e]at hlb;simp at hlb;omega)
    rw[List.getLast_eq_getElem]at h
    rw[aR (by omega)]
    simpa[hlb]using h
  have hlim:=hb.lim.trim.nth (by omega) (lb-1)
  obtain⟨up,u1,u2,u3,hlz⟩:∃up:Nat,up<32∧2147483648≤nth (trim ys) (lb-1)*2^up∧nth (trim ys) (lb-1)*2^up<4294967296∧
      ∀w:World,Calls Tryd.prog 77 #[.int .u32 (nth (trim ys) (lb-1):Int)] w fun e w'=>e=.returned (.int .i64 (up:Int))∧w=w':=by
    obtain⟨k,e,k1,k2,k3⟩:=qO hlim hlast
    refine⟨k,k1,k2,k3,fun w=>(Any.bits_LeadingZeros32 zX _ w (by omega) (by omega)).mono fun _ _ ⟨h1,h2⟩=>⟨?_,h2.symm⟩⟩
    rw[h1,←e]
    rfl
  obtain⟨n1,n2,n3,n4⟩:=zY hb.lim.trim hlb h2 u1 u2 u3
  rw[bJ]at n1 n2 n3 n4
  have hX:vl 4294967296 (trim xs)=vl 4294967296 xs:=bJ _ _
  have hY:vl 4294967296 (trim ys)=vl 4294967296 ys:=bJ _ _
  generalize vl 4294967296 xs=X at*
  generalize vl 4294967296 ys=Y at*
  have hx0:X≠0:=by omega
  have hlaX:lb≤(dg 4294967296 (X*2^up)).length:=by
    rw[←n1];exact dZ (by omega) (Nat.mul_le_mul_right _ hle)
  have hlaX2:(dg 4294967296 (X*2^up)).length≤la+1:=by
    apply aI (by omega)
    rw[Nat.pow_succ]
    have h1:=dE ha.lim.trim
    rw[hX,hla]at h1
    exact Nat.mul_lt_mul_of_lt_of_lt h1 (Nat.lt_of_lt_of_le (Nat.pow_lt_pow_right (by omega) u1) (by decide))
  obtain⟨lx,hlx⟩:∃lx,(dg 4294967296 (X*2^up)).length=lx:=⟨_,rfl⟩
  rw[hlx]at hlaX hlaX2
  have HLA:=Lib.hid hla
  have HLB:=Lib.hid hlb
  have HLX:=Lib.hid hlx
  have HN1:=Lib.hid n1
  have HX:=Lib.hid hX
  have HY:=Lib.hid hY
  have hq0:((lb:Int)==0)=false:=by rw[beq_eq_false_iff_ne];omega
  have hq1:((lb:Int)==1)=false:=by rw[beq_eq_false_iff_ne];omega
  clear hla hlb hlx n1 hX hY
  go_enter Tryd.func40,Tryd.ntmps40
  go_wp2_with fail
  refine(cR _ _ _ xs _ ha (by omega)).mono ?_
  rintro e w1 ⟨A1,k1,c1,rfl,h1,hb1⟩
  obtain rfl:k1=la:=by rw[←h1.len,HLA.out]
  go_wp2_with fail
  refine(cR _ _ _ ys _ (hb.now hb1) (by omega)).mono ?_
  rintro e w2 ⟨A2,k2,c2,rfl,h2',hb2⟩
  obtain rfl:k2=lb:=by rw[←h2'.len,HLB.out]
  have h3:=h1.below hb2
  have hb3:=hb1.trans (hb2.mono hb1.size)
  clear hb1 hb2 h1
  obtain⟨g,rfl,hg1,hg2⟩:=h2'.form (by omega)
  have hc:=h2'.cell (j:=k2-1) (by omega)
  go_wp2_with fail
  refine(mY _ _ _ _ _ _ _ _ _ _ h3.u32 h2'.u32).mono ?_
  rintro e w' ⟨rfl,q,rfl⟩
  go_wp2_with fail
  refine(hlz _).mono ?_
  rintro e w' ⟨rfl,rfl⟩
  go_wp2_with fail
  refine(gB _ _ _ _ _ _ (w2.drewN q) h2'.drew_base.u32 HY.out (by omega) u1 (by omega)).mono ?_
  rintro e w3 ⟨A3,k3,c3,rfl,h4,hb4⟩
  obtain rfl:k3=k2:=by rw[←h4.len,HN1.out]
  have h5:=h3.drew_base.below hb4
  have hb5:Below w.heap.size w w3:=(dS hb3 q).trans (hb4.mono hb3.size)
  clear hb4 h3 h2' hc hb3
  go_wp2_with fail
  refine(gB _ _ _ _ _ _ _ h5.u32 HX.out (by omega) u1 hx0).mono ?_
  rintro e w4 ⟨A4,k4,c4,rfl,h6,hb6⟩
  obtain rfl:k4=lx:=by rw[←h6.len,HLX.out]
  have hb7:=hb5.trans (hb6.mono hb5.size)
  have hz6:=hb6.size
  obtain⟨Q,hQ⟩:∃Q,Q+k3=k4+1:=⟨k4+1-k3,by omega⟩
  have hQ1:1≤Q:=by omega
  have hQ2:Q≤k4+1:=by omega
  have hQ3:(Q:Int)=(k4:Int)+1-k3:=by omega
  have HQ:=Lib.hid hQ
  have HQ3:=Lib.hid hQ3
  clear hQ hQ3
  have h7:=(h6.below (dX w4 (.cells #[.int .u32 ((0:Nat):Int)] 64))).row
  go_wp2_with (first
    | (at_builtin
       refine gD _ gV rfl (.tmp 63) (.tmp 64) rfl w3.heap.size _ k4 _ rfl h7 _ _ 1 1 _ rfl (Jg w4 0) (lI _) (by omega) (by omega) (by simp;omega) ?_
       intro A5 c5 w5 hO5 hg5 hat5)
    | (refine fQ _ gV rfl (.tmp 69) (.tmp 69) rfl .i64 .i64 _ _ Q rfl rfl HQ3.out.symm HQ3.out.symm (by omega) (by omega) ?_
       intro w6 hO6 hb66 hz66))
  have oA:Own 64 w5 w3.heap.size A5 (k4+1) c5 (dg 4294967296 (X*2^up)++[0]):=⟨by rw[nE];exact hO5,(bK (by omega) _).append (Lim.cons (by omega) Lim.nil)⟩
  have bA:Below w3.heap.size w3 w5:=hJ (hb6.alloc hb6.size _) h7 hg5 (by simp;omega) (Nat.le_refl _)
  have bW:Below w.heap.size w w5:=hb5.trans (bA.mono hb5.size)
  obtain⟨ga,rfl,hga1,hga2⟩:=oA.form (by omega)
  have uB:=((h4.u32.below bA).more hga1).below (hb66.mono (Nat.le_of_lt hga2))
  have oA6:=oA.below hb66
  have oQ:=Own.made hO6
  have bW6:=bW.trans (hb66.mono bW.size)
  have hz5:=bW.size
  have hz3:=hb5.size
  obtain⟨gb,rfl,_,_⟩:=h4.form (by omega)
  have D0:=DMInv.top (a:=dg 4294967296 (X*2^up)) (ys:=dg 4294967296 (Y*2^up)) (Q:=Q) (bK (by omega) _) (by rw[HN1.out,HLX.out];exact HQ.out) (by rw[HN1.out];omega) (by rw[HN1.out,bT (by omega)];exact n4)
  have hN:=oA6.len
  have HN:=Lib.hid hN
  have hcA:k4+1≤c5:=oA6.u32.cap
  have hcB:c5≤9223372036854775807:=oA6.u32.big
  clear hN h7 hO5 hg5 hat5 hO6 oA bA bW hb6 hb7 h4 h5 h6 hb66 hlz
  obtain⟨mm,hmm⟩:∃mm,k3=mm+2:=⟨k3-2,by omega⟩
  have HMM:=Lib.hid hmm
  clear hmm
  go_loopw [12] (fun i wr=>∃(k:Nat) (os qs:List Nat),k≤Q∧i=.int .i64 ((k:Int)-1)∧Own 64 wr w3.heap.size (some ⟨ga,0,none⟩) (k4+1) c5 os∧Own 64 wr w5.heap.size (some ⟨w5.heap.size,0,none⟩) Q Q qs∧
      DMInv (dg 4294967296 (X*2^up)++[0]) os qs (dg 4294967296 (Y*2^up)) k∧Below ga w6 wr) (fun i _=>(intOf i+1).toNat)
  case atStart=>exact⟨Q,_,_,Nat.le_refl _,by go_num,oA6,oQ,D0,Below.refl _ _⟩
  case round=>
    obtain⟨k,os,qs,hk,rfl,hoA,hoQ,hD,hbB⟩:=hrel
    by_cases h0:0<k
    · obtain⟨i,rfl⟩:∃i,k=i+1:=⟨k-1,by omega⟩
      rw[show((i+1:Nat):Int)-1=(i:Int) from by omega]
      have hQ:=HQ.out
      have hbnd:i+k3+1≤k4+1:=by omega
      clear hQ
      have ca1:=hoA.cell (j:=i+k3) (by omega)
      have ca2:=hoA.cell (j:=i+k3-1) (by omega)
      have ca3:=hoA.cell (j:=i+k3-2) (by omega)
      have uB1:=uB.below hbB
      have cb1:=uB1.cell0 (j:=k3-1) (by omega)
      have cb2:=uB1.cell0 (j:=k3-2) (by omega)
      have hw:=hD.window (by rw[hoA.len];omega) (bK (by omega) _) hoA.lim
      have hgu:=tC (u:=(os.drop i).take (k3+1)) (ys:=dg 4294967296 (Y*2^up)) (m:=mm) ((hoA.lim.drop i).take _) (by rw[List.length_take,List.length_drop,hoA.len,HMM.out];have:=HMM.out;omega) (bK (by omega) _)
        (by rw[HN1.out,HMM.out]) (by rw[show mm+1=k3-1 by rw[HMM.out];omega];exact n2) (by rw[←HN1.out,hw.1];exact hw.2.2.1)
      have ne:∀j,j≤k3→nth ((os.drop i).take (k3+1)) j=nth os (i+j):=fun j hj=>by
        rw[←cU];exact jB (i:=k3+1) (by rw[List.take_take,Nat.min_self]) (by omega)
      have e0:mm+2=k3:=HMM.out.symm
      rw[ne (mm+2) (by omega),ne (mm+1) (by omega),ne mm (by omega),show mm+2=k3 from e0,show i+(mm+1)=i+k3-1 by omega,show i+mm=i+k3-2 by omega,show mm+1=k3-1 by omega,show mm=k3-2 by omega]at hgu
      obtain⟨hg1',hg2',hg3'⟩:=hgu
      clear e0 ne
      have lA:=hoA.lim
      have la1:=lA.nth (by omega) (i+k3-1)
      have la2:=lA.nth (by omega) (i+k3-2)
      have lb1:=(bK (B:=4294967296) (by omega) (Y*2^up)).nth (by omega) (k3-1)
      have lb2:=(bK (B:=4294967296) (by omega) (Y*2^up)).nth (by omega) (k3-2)
      have t0:(0:Int)≤(i:Int)+(k3:Int):=by omega
      have t1:(0:Int)≤(i:Int)+(k3:Int)-1:=by omega
      have t2:(0:Int)≤(i:Int)+(k3:Int)-2:=by omega
      have t3:(0:Int)≤(k3:Int)-1:=by omega
      have t4:(0:Int)≤(k3:Int)-2:=by omega
      have v0:(i:Int)+(k3:Int)<(k4:Int)+1:=by omega
      have v1:(i:Int)+(k3:Int)-1<(k4:Int)+1:=by omega
      have v2:(i:Int)+(k3:Int)-2<(k4:Int)+1:=by omega
      have v3:(k3:Int)-1<(k3:Int):=by omega
      have v4:(k3:Int)-2<(k3:Int):=by omega
      have s0:IntKind.i64.wrap ((i:Int)+(k3:Int))=(i:Int)+(k3:Int):=IntWalk.i64_in _ (by omega)
      have s1:IntKind.i64.wrap ((i:Int)+(k3:Int)-1)=(i:Int)+(k3:Int)-1:=IntWalk.i64_in _ (by omega)
      have s2:IntKind.i64.wrap ((i:Int)+(k3:Int)-2)=(i:Int)+(k3:Int)-2:=IntWalk.i64_in _ (by omega)
      have s3:IntKind.i64.wrap ((k3:Int)-1)=(k3:Int)-1:=IntWalk.i64_in _ (by omega)
      have s4:IntKind.i64.wrap ((k3:Int)-2)=(k3:Int)-2:=IntWalk.i64_in _ (by omega)
      have r0:((i:Int)+(k3:Int)).toNat=i+k3:=by omega
      have r1:((i:Int)+(k3:Int)-1).toNat=i+k3-1:=by omega
      have r2:((i:Int)+(k3:Int)-2).toNat=i+k3-2:=by omega
      have r3:((k3:Int)-1).toNat=k3-1:=by omega
      have r4:((k3:Int)-2).toNat=k3-2:=by omega
      go_wp2_with fail
      go_quiet ((go_at_call 79;exact Fk (zU _ _ _ _ _ _ n2 lb1 hg1' la1 la2 lb2)))
      clear t0 t1 t2 t3 t4 v0 v1 v2 v3 v4 s0 s1 s2 s3 s4 r0 r1 r2 r3 r4 ca1 ca2 ca3 cb1 cb2
      go_wp2_with fail
      rw[show i+k3+1-i=k3+1 by omega]
      have oAn:Own 64 (wr.drewN nq) w3.heap.size (some ⟨ga,0,none⟩) (k4+1) c5 os:=hoA.drew_base
      have hYv:0<vl 4294967296 (dg 4294967296 (Y*2^up)):=by
        rw[bT (by omega)];exact Nat.mul_pos n3 (Nat.pos_of_ne_zero (by simp))
      refine(Cc ga i (k4+1) k3 c5 c3 (c5-i) _ _ os (dg 4294967296 (Y*2^up)) (k3+1) w3.heap.size (wr.drewN nq) oAn (by omega) (by omega) (uB1.below (dS (Below.refl _ _) _)) (by omega) (Nat.min_le_left _ _) hYv hg2' hg3').mono ?_
      rintro e w7 ⟨os',rfl,oA7,ht7,hh7,hv7,gr7⟩
      have hgq:w5.heap.size≠ga:=by omega
      have oQ7:=(hoQ.drew_base (k:=nq)).only gr7 hgq
      have oA8:=oA7.len
      have hst:=hD.step (i:=i) (os':=os') (by rw[hoA.len];omega) (by rw[hoQ.len];omega) (bK (by omega) _) hoA.lim hYv (by rw[oA8,hoA.len]) ht7 (fun j hj=>hh7 j (by rw[HN1.out]at hj;omega))
        (by rw[HN1.out];exact hv7) (by rw[HN1.out,hoA.len];omega)
      rw[HN1.out]at hst
      have hqv:vl 4294967296 ((os.drop i).take (k3+1))/vl 4294967296 (dg 4294967296 (Y*2^up))<4294967296:=
        Nat.lt_of_le_of_lt hg2' (Nat.lt_of_le_of_lt (Nat.min_le_left _ _) (by omega))
      have cq1:=oQ7.cell (j:=i) (by omega)
      have cq2:=oQ7.frozen i
      have oQ8:=oQ7.set i hqv
      have oA9:=oA7.only (g':=w5.heap.size) (gM (pV w7 w5.heap.size) i (.int .u32 ((vl 4294967296 ((os.drop i).take (k3+1))/vl 4294967296 (dg 4294967296 (Y*2^up)):Nat):Int))) (Ne.symm hgq)
      have bb9:Below ga w6 w7:=(dS hbB nq).trans (jF gr7 (by have:=hbB.size;show ga≤wr.heap.size;omega))
      generalize vl 4294967296 ((os.drop i).take (k3+1))/vl 4294967296 (dg 4294967296 (Y*2^up))=qd at*
      clear oA8 hh7 ht7 hv7 hw hg2' hg3' hD
      go_wp2_with fail
      go_roundw
      case rel=>exact⟨i,os',_,by omega,by go_num,oA9,oQ8,hst,bb9.setCell (by show ga≤w5.heap.size;omega) _⟩
      case measure=>simp[intOf]
    obtain rfl:k=0:=by omega
    have hYv:0<vl 4294967296 (dg 4294967296 (Y*2^up)):=by
      rw[bT (by omega)];exact Nat.mul_pos n3 (Nat.pos_of_ne_zero (by simp))
    obtain⟨f1,f2⟩:=hD.end_ hYv
    have hPp:0<2^up:=Nat.pos_of_ne_zero (by simp)
    rw[dY,Nat.mul_zero,Nat.add_zero,bT (by omega),bT (by omega),Nat.mul_div_mul_right _ _ hPp]at f1
    rw[dY,Nat.mul_zero,Nat.add_zero,bT (by omega),bT (by omega),Nat.mul_mod_mul_right]at f2
    have F1:=Lib.hid f1
    have F2:=Lib.hid f2
    have bWr:Below w.heap.size w wr:=bW6.trans (hbB.mono (by omega))
    clear f1 f2 hD
    go_wp2_with fail
    refine(oC _ _ _ _ _ _ _ hoA.u32 F2.out (by omega) u1).mono ?_
    rintro e w8 ⟨A8,n8,c8,rfl,h8,hb8⟩
    have hoQ8:=hoQ.below hb8
    have bW8:=bWr.trans (hb8.mono bWr.size)
    go_wp2_with fail
    refine(cR _ _ _ _ _ hoQ8.u32 (by omega)).mono ?_
    rintro e w9 ⟨A9,n9,c9,rfl,h9,hb9⟩
    have bW9:=bW8.trans (hb9.mono bW8.size)
    go_wp2_with fail
    go_ret3
    refine⟨_,_,_,_,_,_,rfl,?_,(h8.below hb9).base_le bWr.size,(Apart.of h8 h9 (Nat.le_refl _)).symm,bW9⟩
    have:=h9.base_le (base':=w.heap.size) bW8.size
    rwa[←cY (by omega) hoQ.lim,F1.out]at this
theorem xS (A B:Option Addr) (n m c d:Nat) (xs ys:List Nat) (w:World) (ha:U32 w w.heap.size A n c xs) (hb:U32 w w.heap.size B m d ys) (hn:n≤549755813888) (hm:m≤549755813888) (hy:vl 4294967296 ys≠0):
  Calls Tryd.prog 40 #[.slice A n c,.slice B m d] w (rB (dg 4294967296 (vl 4294967296 xs/vl 4294967296 ys)) (dg 4294967296 (vl 4294967296 xs%vl 4294967296 ys)) 0 w):=by
 rcases Nat.lt_or_ge (vl 4294967296 xs) (vl 4294967296 ys)with h | h
 ·exact qV A B n m c d xs ys w ha hb hn hm h
 match ht:trim ys with
 | []=>exact absurd ((cX 4294967296 (by omega) ys).1 ht) hy
 | [y]=>exact pJ A B n m c d y xs ys w ha hb hn hm h ht
 | y::z::l=>exact oD A B n m c d xs ys w ha hb hn hm h (by rw[ht];simp)
structure URows (w:World) (B:Nat) (A:Option Addr) (n c:Nat) (rows:List (List Nat)):Prop where
 len:rows.length=n
 cap:n≤c
 big:c≤9223372036854775807
 cell:∀k,k<n→∃b o sp Ai ni ci,A=some ⟨b,o,sp⟩∧b<B∧w.cell? ((⟨b,o,sp⟩:Addr).add k)=some (.slice Ai ni ci)∧U32 w B Ai ni ci (rows.getD k [])
theorem URows.below {w w':World}{B n c:Nat}{A:Option Addr}{rows:List (List Nat)}(h:URows w B A n c rows) (hb:Below B w w'):URows w' B A n c rows:=
 ⟨h.len,h.cap,h.big,fun k hk=>by
  obtain⟨b,o,sp,Ai,ni,ci,e,hB,hc,hu⟩:=h.cell k hk
  exact⟨b,o,sp,Ai,ni,ci,e,hB,(hb.cell (by rw[cQ];exact hB)).trans hc,hu.below hb⟩⟩
theorem URows.now {w w':World}{n c:Nat}{A:Option Addr}{rows:List (List Nat)}(h:URows w w.heap.size A n c rows) (hb:Below w.heap.size w w'):URows w' w'.heap.size A n c rows:=by
 have h1:=h.below hb
 refine⟨h1.len,h1.cap,h1.big,fun k hk=>?_⟩
 obtain⟨b,o,sp,Ai,ni,ci,e,hB,hc,hu⟩:=h1.cell k hk
 exact⟨b,o,sp,Ai,ni,ci,e,Nat.lt_of_lt_of_le hB hb.size,hc,hu.more hb.size⟩
def tD (neg:Bool) (m:Nat):Int:=if neg then-(m:Int)else m
def mG (z:Int):Bool:=decide (z<0)
def dL (neg:Bool) (xs:List Nat):Bool:=(xs.isEmpty&& !neg)||(!xs.isEmpty&&nth xs (xs.length-1)!= 0)
def fU (neg:Bool) (xs:List Nat):Int:=if dL neg xs then tD neg (vl 4294967296 xs)else 0
theorem vZ (neg:Bool) (m:Nat):(tD neg m).natAbs=m:=by unfold tD;split <;> omega
theorem Jh (neg:Bool) (m:Nat):mG (tD neg m)=(neg&&decide (0<m)):=by
 unfold tD mG
 cases neg <;> simp
theorem Cd (z:Int):tD (mG z) z.natAbs=z:=by
 unfold tD mG
 by_cases h:z<0 <;> simp[h] <;> omega
theorem Fl {m n:Nat}(h:(dg 4294967296 m).length=n):decide (0<n)=decide (0<m):=by
 rcases Nat.eq_zero_or_pos n with h0 | h0
 ·subst h0
  have:=(cC (by omega)).1 (List.eq_nil_of_length_eq_zero h)
  subst this
  rfl
 rcases Nat.eq_zero_or_pos m with h1 | h1
 ·subst h1
  rw[(cC (B:=4294967296) (by omega)).2 rfl]at h
  simp at h
  omega
 simp[h0,h1]
theorem xT {neg:Bool}{xs:List Nat}(h:dL neg xs=true):trim xs=xs:=by
 rcases xs with _ | ⟨x,l⟩
 ·rfl
 have h1:nth (x::l) ((x::l).length-1)≠0:=by simpa[dL]using h
 have h2:=kI (xs:=x::l) (k:=(x::l).length) (by simp) (Nat.le_refl _) h1
 rwa[List.take_of_length_le (Nat.le_refl _)]at h2
theorem pK {neg:Bool}{xs:List Nat}(hl:Lim 4294967296 xs) (h:dL neg xs=true):dg 4294967296 (fU neg xs).natAbs=xs:=by
 unfold fU
 rw[if_pos h,vZ,cY (by omega) hl,xT h]
theorem Fm {neg:Bool}{xs:List Nat}(hl:Lim 4294967296 xs) (h:dL neg xs=true):mG (fU neg xs)=neg:=by
 have h1:=pK hl h
 unfold fU at h1⊢
 rw[if_pos h]at h1⊢
 rw[vZ]at h1
 rw[Jh]
 rcases xs with _ | ⟨x,l⟩
 ·have:neg=false:=by simpa[dL]using h
  subst this
  rfl
 have h2:=Fl (m:=vl 4294967296 (x::l)) (n:=(x::l).length) (by rw[h1])
 rw[←h2]
 simp
theorem zZ {neg:Bool}{xs:List Nat}(h:dL neg xs=false):fU neg xs=0:=by unfold fU;rw[h];rfl
theorem Aa (z:Int):dL (mG z) (dg 4294967296 z.natAbs)=true:=by
 unfold dL
 by_cases h0:z=0
 ·subst h0
  rw[show dg 4294967296 (Int.natAbs 0)=[] from(cC (by omega)).2 rfl]
  rfl
 have hn:dg 4294967296 z.natAbs≠[]:=fun e=>h0 (by have:=(cC (by omega)).1 e;omega)
 have h:=hG (uJ (B:=4294967296) (by omega) _) hn
 rw[List.getLast_eq_getElem]at h
 have h2:=List.length_pos_iff.2 hn
 have:(dg 4294967296 z.natAbs).isEmpty=false:=by simpa using hn
 rw[this,aR (by omega)]
 simpa using h
theorem Ab (z:Int):fU (mG z) (dg 4294967296 z.natAbs)=z:=by
 unfold fU
 rw[if_pos (Aa z),bT (by omega),Cd]
abbrev Hld (s:Nat) (w:World) (B g k:Nat) (W0 w':World):Prop:=
 Below s w w'∧g<w'.heap.size∧B≤w'.heap.size∧s≤g∧s≤B∧(∀b o,b<B→b≠g→w'.cell? ⟨b,o,none⟩=W0.cell? ⟨b,o,none⟩)∧(∀o,o<k→(w'.cell? ⟨g,o,none⟩).isSome=true∧w'.frozen? ⟨g,o,none⟩=false)
theorem Hld.call {s B g k:Nat}{w W0 W w1:World}(h:Hld s w B g k W0 W) (hb:Below W.heap.size W w1):Hld s w B g k W0 w1:=by
 obtain⟨h1,h2,h2',h3,h4,h5,h6⟩:=h
 refine⟨h1.trans (hb.mono (by omega)),Nat.lt_of_lt_of_le h2 hb.size,Nat.le_trans h2' hb.size,h3,h4,fun b o hlt hne=>?_,fun o ho=>?_⟩
 ·rw[hb.cell (p:=⟨b,o,none⟩) (show b<W.heap.size by omega)]
  exact h5 b o hlt hne
 rw[hb.cell (p:=⟨g,o,none⟩) h2,hb.frozen (p:=⟨g,o,none⟩) h2]
 exact h6 o ho
theorem Hld.alloc {s B g k:Nat}{w W0 W:World}(h:Hld s w B g k W0 W) (o:Obj):Hld s w B g k W0 (W.alloc o):=Hld.call h (dX W o)
theorem Hld.drew {s B g k:Nat}{w W0 W:World}(h:Hld s w B g k W0 W):Hld s w B g k W0 W.drew:=⟨h.1.drew,h.2⟩
theorem fK (w:World) (a b:Addr) (v:Value):(w.setCell a v).frozen? b=w.frozen? b:=by
 simp
theorem Hld.setCell {s B g k:Nat}{w W0 W:World}(h:Hld s w B g k W0 W){p:Addr}(hp:p.block=g∨B≤p.block) (v:Value):Hld s w B g k W0 (W.setCell p v):=by
 obtain⟨h1,h2,h2',h3,h4,h5,h6⟩:=h
 refine⟨h1.setCell (by omega) v,by simpa using h2,by simpa using h2',h3,h4,fun b o hlt hne=>?_,fun o ho=>⟨?_,?_⟩⟩
 ·rw[World.cell?_setCell_far _ _ _ _ (by show p.block≠b;omega)]
  exact h5 b o hlt hne
 ·obtain⟨v',hv'⟩:=Option.isSome_iff_exists.1 (h6 o ho).1
  obtain⟨v'',hv''⟩:=cell?_setCell_some (p:=p) (x:=v) hv'
  rw[hv''];rfl
 rw[fK];exact(h6 o ho).2
theorem Hld.from {P:Program}{f:FuncId}{args:Array Value}{s B g k:Nat}{w W0 W:World}{R:Ending→World→Prop}(hS:Hld s w B g k W0 W) (h:Hld s w B g k W0 W→Calls P f args W R):Calls P f args W R:=h hS
theorem Hld.bel {s B g k:Nat}{w W0 W:World}(h:Hld s w B g k W0 W):Below s w W:=h.1
theorem Hld.res {s B g k:Nat}{w W0 W:World}(h:Hld s w B g k W0 W) (o:Nat) (ho:o<k):∃v,W.cell? ⟨g,o,none⟩=some v:=Option.isSome_iff_exists.1 (h.2.2.2.2.2.2 o ho).1
theorem Hld.base {s B g k:Nat}{w W0 W:World}(h:Hld s w B g k W0 W):g+1≤W.heap.size:=h.2.1
theorem Own.setLow {t:TypeId}{w:World}{base n c:Nat}{A:Option Addr}{xs:List Nat}(h:Own t w base A n c xs){p:Addr}(hp:p.block<base) (v:Value):Own t (w.setCell p v) base A n c xs:=
 ⟨ownsRow_setCell_below h.row hp v,h.lim⟩
theorem Own.over {t:TypeId}{w w':World}{base n c:Nat}{A:Option Addr}{xs:List Nat}(h:Own t w base A n c xs) (hb:Below w.heap.size w w'):Own t w' base A n c xs:=h.below hb
theorem URows.two {w:World}{g n m c d:Nat}{A B:Option Addr}{xs ys:List Nat}(h0:w.cell? ⟨g,0,none⟩=some (.slice A n c)) (h1:w.cell? ⟨g,1,none⟩=some (.slice B m d)) (hg:g<w.heap.size)
  (ha:U32 w w.heap.size A n c xs) (hb:U32 w w.heap.size B m d ys):URows w w.heap.size (some ⟨g,0,none⟩) 2 2 [xs,ys]:=by
 refine⟨rfl,Nat.le_refl _,by omega,fun k hk=>?_⟩
 match k,hk with
 | 0,_=>exact⟨g,0,none,A,n,c,rfl,hg,h0,ha⟩
 | 1,_=>exact⟨g,0,none,B,m,d,rfl,hg,h1,hb⟩
abbrev Hld2 (s:Nat) (w:World) (B g g' k:Nat) (W0 w':World):Prop:=
 Below s w w'∧(g<w'.heap.size∧g'<w'.heap.size∧s≤g')∧B≤w'.heap.size∧s≤g∧s≤B∧(∀b o,b<B→b≠g→b≠g'→w'.cell? ⟨b,o,none⟩=W0.cell? ⟨b,o,none⟩)∧(∀o,o<k→(w'.cell? ⟨g,o,none⟩).isSome=true∧w'.frozen? ⟨g,o,none⟩=false)∧
  (∀o,o<k→(w'.cell? ⟨g',o,none⟩).isSome=true∧w'.frozen? ⟨g',o,none⟩=false)
theorem Hld2.call {s B g g' k:Nat}{w W0 W w1:World}(h:Hld2 s w B g g' k W0 W) (hb:Below W.heap.size W w1):Hld2 s w B g g' k W0 w1:=by
 obtain⟨h1,⟨h2,h2'',h2b⟩,h2',h3,h4,h5,h6,h7⟩:=h
 refine⟨h1.trans (hb.mono (by omega)),⟨Nat.lt_of_lt_of_le h2 hb.size,Nat.lt_of_lt_of_le h2'' hb.size,h2b⟩,Nat.le_trans h2' hb.size,h3,h4,fun b o hlt hne hne'=>?_,fun o ho=>?_,fun o ho=>?_⟩
 ·rw[hb.cell (p:=⟨b,o,none⟩) (show b<W.heap.size by omega)]
  exact h5 b o hlt hne hne'
 ·rw[hb.cell (p:=⟨g,o,none⟩) h2,hb.frozen (p:=⟨g,o,none⟩) h2]
  exact h6 o ho
 rw[hb.cell (p:=⟨g',o,none⟩) h2'',hb.frozen (p:=⟨g',o,none⟩) h2'']
 exact h7 o ho
theorem Hld2.alloc {s B g g' k:Nat}{w W0 W:World}(h:Hld2 s w B g g' k W0 W) (o:Obj):Hld2 s w B g g' k W0 (W.alloc o):=Hld2.call h (dX W o)
theorem Hld2.drew {s B g g' k:Nat}{w W0 W:World}(h:Hld2 s w B g g' k W0 W):Hld2 s w B g g' k W0 W.drew:=⟨h.1.drew,h.2⟩
theorem Hld2.setCell {s B g g' k:Nat}{w W0 W:World}(h:Hld2 s w B g g' k W0 W){p:Addr}(hp:p.block=g∨p.block=g'∨B≤p.block) (v:Value):Hld2 s w B g g' k W0 (W.setCell p v):=by
 obtain⟨h1,⟨h2,h2'',h2b⟩,h2',h3,h4,h5,h6,h7⟩:=h
 refine⟨h1.setCell (by omega) v,⟨by simpa using h2,by simpa using h2'',h2b⟩,by simpa using h2',h3,h4,fun b o hlt hne hne'=>?_,fun o ho=>⟨?_,?_⟩,fun o ho=>⟨?_,?_⟩⟩
 ·rw[World.cell?_setCell_far _ _ _ _ (by show p.block≠b;omega)]
  exact h5 b o hlt hne hne'
 ·obtain⟨v',hv'⟩:=Option.isSome_iff_exists.1 (h6 o ho).1
  obtain⟨v'',hv''⟩:=cell?_setCell_some (p:=p) (x:=v) hv'
  rw[hv''];rfl
 ·rw[fK];exact(h6 o ho).2
 ·obtain⟨v',hv'⟩:=Option.isSome_iff_exists.1 (h7 o ho).1
  obtain⟨v'',hv''⟩:=cell?_setCell_some (p:=p) (x:=v) hv'
  rw[hv''];rfl
 rw[fK];exact(h7 o ho).2
theorem Hld2.from {P:Program}{f:FuncId}{args:Array Value}{s B g g' k:Nat}{w W0 W:World}{R:Ending→World→Prop}(hS:Hld2 s w B g g' k W0 W) (h:Hld2 s w B g g' k W0 W→Calls P f args W R):Calls P f args W R:=h hS
theorem Hld2.bel {s B g g' k:Nat}{w W0 W:World}(h:Hld2 s w B g g' k W0 W):Below s w W:=h.1
theorem Hld2.res {s B g g' k:Nat}{w W0 W:World}(h:Hld2 s w B g g' k W0 W) (o:Nat) (ho:o<k):∃v,W.cell? ⟨g,o,none⟩=some v:=Option.isSome_iff_exists.1 (h.2.2.2.2.2.2.1 o ho).1
theorem Hld2.base {s B g g' k:Nat}{w W0 W:World}(h:Hld2 s w B g g' k W0 W):g+1≤W.heap.size:=h.2.1.1
theorem Hld2.base' {s B g g' k:Nat}{w W0 W:World}(h:Hld2 s w B g g' k W0 W):g'+1≤W.heap.size:=h.2.1.2.1
abbrev Hld0 (s:Nat) (w:World) (B:Nat) (W0 w':World):Prop:=
 Below s w w'∧B≤w'.heap.size∧s≤B∧(∀b o,b<B→w'.cell? ⟨b,o,none⟩=W0.cell? ⟨b,o,none⟩)
theorem Hld0.call {s B:Nat}{w W0 W w1:World}(h:Hld0 s w B W0 W) (hb:Below W.heap.size W w1):Hld0 s w B W0 w1:=by
 obtain⟨h1,h2,h4,h5⟩:=h
 refine⟨h1.trans (hb.mono (by omega)),Nat.le_trans h2 hb.size,h4,fun b o hlt=>?_⟩
 rw[hb.cell (p:=⟨b,o,none⟩) (show b<W.heap.size by omega)]
 exact h5 b o hlt
theorem Hld0.alloc {s B:Nat}{w W0 W:World}(h:Hld0 s w B W0 W) (o:Obj):Hld0 s w B W0 (W.alloc o):=Hld0.call h (dX W o)
theorem Hld0.drew {s B:Nat}{w W0 W:World}(h:Hld0 s w B W0 W):Hld0 s w B W0 W.drew:=⟨h.1.drew,h.2⟩
theorem Hld0.setCell {s B:Nat}{w W0 W:World}(h:Hld0 s w B W0 W){p:Addr}(hp:B≤p.block) (v:Value):Hld0 s w B W0 (W.setCell p v):=by
 obtain⟨h1,h2,h4,h5⟩:=h
 refine⟨h1.setCell (by omega) v,by simpa using h2,h4,fun b o hlt=>?_⟩
 rw[World.cell?_setCell_far _ _ _ _ (by show p.block≠b;omega)]
 exact h5 b o hlt
theorem Hld0.bel {s B:Nat}{w W0 W:World}(h:Hld0 s w B W0 W):Below s w W:=h.1
theorem Hld0.base {s B:Nat}{w W0 W:World}(h:Hld0 s w B W0 W):B≤W.heap.size:=h.2.1
theorem Hld0.from {P:Program}{f:FuncId}{args:Array Value}{s B:Nat}{w W0 W:World}{R:Ending→World→Prop}(hS:Hld0 s w B W0 W) (h:Hld0 s w B W0 W→Calls P f args W R):Calls P f args W R:=h hS
def Ji (na:Bool) (xs:List Nat) (nb:Bool) (ys:List Nat):Bool:=dL na xs&&dL nb ys&&decide (0<fU nb ys)&&(Int.gcd (fU na xs) (fU nb ys)==1)
theorem wA {xs:List Nat}(hl:Lim 4294967296 xs){neg:Bool}:(dg 4294967296 (fU neg xs).natAbs).length≤xs.length:=by
 cases h:dL neg xs
 ·rw[zZ h,show dg 4294967296 (Int.natAbs 0)=[] from(cC (by omega)).2 rfl]
  simp
 rw[pK hl h]
 exact Nat.le_refl _
def Ov (na:Bool) (xs:List Nat) (nb:Bool) (ys:List Nat):Rat:=if Ji na xs nb ys then Rat.divInt (fU na xs) (fU nb ys)else 0
def Sz (L:Nat) (q:Rat):Prop:=(dg 4294967296 q.num.natAbs).length≤L∧(dg 4294967296 q.den).length≤L
def Src (b0 base:Nat) (w:World) (A:Option Addr) (n c:Nat) (xs:List Nat):Prop:=U32 w b0 A n c xs∨Own 64 w base A n c xs
theorem Src.below {b0 base n c:Nat}{w w':World}{A:Option Addr}{xs:List Nat}(h:Src b0 base w A n c xs) (h0:b0≤w.heap.size) (hb:Below w.heap.size w w'):Src b0 base w' A n c xs:=by
 rcases h with h | h
 ·exact .inl (h.below (hb.mono h0))
 exact .inr (h.below hb)
theorem Src.u32 {b0 base n c:Nat}{w:World}{A:Option Addr}{xs:List Nat}(h:Src b0 base w A n c xs) (h0:b0≤w.heap.size):U32 w w.heap.size A n c xs:=by
 rcases h with h | h
 ·exact h.more h0
 exact h.u32
theorem Src.setCell {b0 base n c:Nat}{w:World}{A:Option Addr}{xs:List Nat}(h:Src b0 base w A n c xs){p:Addr}(h0:b0≤p.block) (h1:p.block<base) (v:Value):Src b0 base (w.setCell p v) A n c xs:=by
 rcases h with h | h
 ·refine .inl (h.keep fun q hq=>World.cell?_setCell_far _ _ _ _ ?_)
  omega
 exact .inr (h.setLow h1 v)
theorem Src.drew {b0 base n c:Nat}{w:World}{A:Option Addr}{xs:List Nat}(h:Src b0 base w A n c xs):Src b0 base w.drew A n c xs:=by
 rcases h with h | h
 ·exact .inl ⟨⟨h.rd.len,h.rd.cap,h.rd.big,h.rd.cell⟩,h.lim⟩
 exact .inr ⟨h.row,h.lim⟩
theorem Src.base_le {b0 base base' n c:Nat}{w:World}{A:Option Addr}{xs:List Nat}(h:Src b0 base w A n c xs) (hb:base'≤base):Src b0 base' w A n c xs:=by
 rcases h with h | h
 ·exact .inl h
 exact .inr (h.base_le hb)
theorem Hld.up {s B g k:Nat}{w W0 W:World}(h:Hld s w B g k W0 W):B≤W.heap.size:=h.2.2.1
theorem fA (a b:Nat):(dg 4294967296 (a*b)).length≤(dg 4294967296 a).length+(dg 4294967296 b).length:=by
 refine aI (by omega) ?_
 rw[Nat.pow_add]
 exact Nat.mul_lt_mul_of_lt_of_lt (eL (by omega)) (eL (by omega))
structure Lv where
 A:Option Addr
 n:Nat
 c:Nat
structure Zv where
 s:Bool
 A:Option Addr
 n:Nat
 c:Nat
structure Rv where
 s:Bool
 A:Option Addr
 n:Nat
 c:Nat
 t:Bool
 B:Option Addr
 m:Nat
 d:Nat
def Rv.x (r:Rv):Zv:=⟨r.s,r.A,r.n,r.c⟩
def Rv.y (r:Rv):Zv:=⟨r.t,r.B,r.m,r.d⟩
def Lv.v (l:Lv):Value:=.slice l.A l.n l.c
def Zv.cs (z:Zv):List Value:=[.bool z.s,.slice z.A z.n z.c]
def Rv.cs (r:Rv):List Value:=[.bool r.s,.slice r.A r.n r.c,.bool r.t,.slice r.B r.m r.d]
structure LimR (W:World) (N:Nat→Prop) (A:Option Addr) (n c:Nat) (xs:List Nat):Prop where
 len:xs.length=n
 cap:n≤c
 big:c≤9223372036854775807
 lim:Lim 4294967296 xs
 cell:0<n→∃ad,A=some ad∧N ad.block∧∀k u,(cJ xs)[k]? =some u→W.cell? (ad.add k)=some u
section
variable {W W':World}{N N':Nat→Prop}{A:Option Addr}{n c:Nat}{xs:List Nat}
theorem LimR.mono (h:LimR W N A n c xs) (hN:∀b,N b→N' b):LimR W N' A n c xs:=
 ⟨h.len,h.cap,h.big,h.lim,fun hn=>let ⟨ad,e,hb,hc⟩:=h.cell hn;⟨ad,e,hN _ hb,hc⟩⟩
theorem xU {ad:Addr}(h:W'.heap[ad.block]? =W.heap[ad.block]?) (k:Nat):W'.cell? (ad.add k)=W.cell? (ad.add k):=World.cell?_of_block (w:=W) (by rw[cQ];exact h)
theorem LimR.keep (h:LimR W N A n c xs) (hN:∀b,N b→W'.heap[b]? =W.heap[b]?):LimR W' N A n c xs:=
 ⟨h.len,h.cap,h.big,h.lim,fun hn=>let ⟨ad,e,hb,hc⟩:=h.cell hn;⟨ad,e,hb,fun k u hu=>(xU (hN _ hb) k).trans (hc k u hu)⟩⟩
theorem LimR.u32 {B:Nat}(h:LimR W N A n c xs) (hN:∀b,N b→b<B):U32 W B A n c xs:=
 ⟨⟨by rw[dN,h.len,Nat.mul_one],h.cap,h.big,fun hn=>let ⟨ad,e,hb,hc⟩:=h.cell hn;⟨ad,e,hN _ hb,hc⟩⟩,h.lim⟩
theorem LimR.of_own {t base:Nat}(h:Own t W base A n c xs):LimR W (· ∈(Value.slice A n c).ownBlock.toList) A n c xs:=by
 have hu:=h.u32
 refine⟨hu.len,hu.cap,hu.big,hu.lim,fun hn=>?_⟩
 obtain⟨ad,e,_,hc⟩:=hu.rd.cell hn
 exact⟨ad,e,by subst e;simp[Value.ownBlock],hc⟩
theorem LimR.nil:LimR W N none 0 0 []:=⟨rfl,Nat.le_refl _,by omega,Lim.nil,fun h=>absurd h (by omega)⟩
end
theorem Own.keep {t:TypeId}{w w':World}{base n c:Nat}{A:Option Addr}{xs:List Nat}(h:Own t w base A n c xs) (hk:∀b∈(Value.slice A n c).ownBlock.toList,w'.heap[b]? =w.heap[b]?):Own t w' base A n c xs:=by
 refine⟨⟨h.row.1,?_⟩,h.lim⟩
 rcases h.row.2 with h2 | ⟨g,cap,cur,hv,hb,hh,rest⟩
 ·exact .inl h2
 exact .inr ⟨g,cap,cur,hv,hb,(hk g (by rw[hv];simp[Value.ownBlock])).trans hh,rest⟩
theorem Own.blk {t:TypeId}{w:World}{base n c:Nat}{A:Option Addr}{xs:List Nat}(h:Own t w base A n c xs):∀b∈(Value.slice A n c).ownBlock.toList,base≤b∧b<w.heap.size:=by
 intro b hb
 rcases h.row.2 with⟨h2,_⟩ | ⟨g,cap,cur,hv,hb',hh,rest⟩
 ·rw[h2]at hb
  simp[Value.ownBlock]at hb
 rw[hv]at hb
 simp[Value.ownBlock]at hb
 subst hb
 exact⟨hb',(Array.getElem?_eq_some_iff.1 hh).1⟩
section
variable {w:World}{r r':Rv}{p q:Rat}
end
section
variable {w:World}{z z':Zv}{k k':Int}
end
theorem Sz.mono {L M:Nat}{q:Rat}(h:Sz L q) (hL:L≤M):Sz M q:=⟨Nat.le_trans h.1 hL,Nat.le_trans h.2 hL⟩
def aG (xs:List Nat):List Tr:=xs.map fun(n:Nat)=>.v (.int .u32 (n:Int))
def sU (o:Bool) (xs:List Nat):Tr:=.s o 64 1 xs.length (aG xs)
theorem jZ (xs:List Nat):(aG xs).length=xs.length:=by simp[aG]
theorem Jj (xs:List Nat):dI ((aG xs).map .t)=true:=by
 induction xs with
 | nil=>rfl
 | cons x xs ih=>simpa[aG,dI,gQ]using ih
theorem Ce (xs:List Nat):bQ ((aG xs).map .t)=true:=by
 induction xs with
 | nil=>rfl
 | cons x xs ih=>simpa[aG,bQ,lone]using ih
theorem eQ (xs:List Nat):NoFrL (aG xs):=by
 induction xs with
 | nil=>simp[aG,NoFrL]
 | cons x xs ih=>simpa[aG,NoFrL,jS]using ih
structure Fr4 where
 s:Bool
 x:List Nat
 t:Bool
 y:List Nat
namespace Fr4
def q (a:Fr4):Rat:=Ov a.s a.x a.t a.y
def of (q:Rat):Fr4:=⟨mG q.num,dg 4294967296 q.num.natAbs,false,dg 4294967296 q.den⟩
def ok (a:Fr4):Prop:=Lim 4294967296 a.x∧Lim 4294967296 a.y∧a.x.length≤68719476736∧a.y.length≤68719476736
end Fr4
section
variable {W:World}{N:Nat→Prop}
theorem Fn {o:Bool}{xs:List Nat}{u:Value}(h:FR W N (sU o xs) u) (hl:Lim 4294967296 xs):∃A c,u=.slice A xs.length c∧LimR W N A xs.length c xs:=by
 simp only[sU,FR]at h
 obtain⟨A,c,rfl,h1,h2,h3,h4⟩:=h
 refine⟨A,c,rfl,rfl,h1,h2,hl,fun hn=>?_⟩
 rcases h4 with h4 | ⟨ad,rfl,h5,h6⟩
 ·omega
 refine⟨ad,rfl,h5,fun k u hk=>?_⟩
 simp only[cJ,List.getElem?_map,Option.map_eq_some_iff]at hk
 obtain⟨m,hm,rfl⟩:=hk
 obtain⟨u,e1,e2⟩:=iQ h6 (j:=k) (x:=.v (.int .u32 (m:Int))) (by simp[aG,hm])
 simp only[FR]at e2
 rw[Nat.zero_add]at e1
 rw[e1,e2]
theorem oE {t:TypeId}{base n c:Nat}{A:Option Addr}{xs:List Nat}(h:Own t W base A n c xs):∃y:VT,y.val=.slice A n c∧OR W N (.s true t 1 xs.length (aG xs)) y∧y.ok W∧y.fp=(Value.slice A n c).ownBlock.toList:=by
 have hl:=h.len
 rcases h.row.2 with⟨h2,h3⟩ | ⟨g,cap,cur,hv,_,hg,hnc,hcm,hcs,htake⟩
 ·injection h2 with e1 e2 e3
  subst e1 e3
  subst h3
  have:xs=[]:=List.eq_nil_of_length_eq_zero hl
  subst this
  exact⟨.w (.slice none 0 0),rfl,by simp[OR,aG],by simp[VT.ok],by simp[VT.fp,Value.ownBlock]⟩
 injection hv with e1 e2 e3
 subst e1 e3
 have hor:ORL W N (aG xs) ((cJ xs).map VT.w):=by
  clear hl htake h
  induction xs with
  | nil=>simp[aG,cJ,ORL]
  | cons x xs ih=>simpa[aG,cJ,ORL,OR]using ih
 refine⟨.s g c t 1 n ((cJ xs).map .w),rfl,?_,?_,by simp[VT.fp,eX,Value.ownBlock]⟩
 ·simp only[OR]
  exact⟨trivial,hl.symm,trivial,trivial,hor⟩
 simp only[VT.ok]
 refine⟨⟨cur.toList.drop (n*1),?_,?_⟩,hnc,hcm,by simp[dN,hl],jP _⟩
 ·rw[jQ,←htake,List.take_append_drop]
  simpa using hg
 rw[jQ,←htake,List.take_append_drop]
 simpa using hcs
end
section
variable {f:FuncId}{args:List FV}
theorem oF {N:Nat→Prop}{w:World}{cs:List Co}{us:List Value}(hL:Loc ((aA (aL []) cs).flatMap Res.S) w w (aA (aL []) cs) [(Hu [] cs args us).on N]):cs=[]∧bC w (fun b=>b<w.heap.size∧N b) [] args us:=by
 have h:=Sh.off (hL.sh 0 rfl)
 have hc:cs=[]:=List.eq_nil_of_length_eq_zero (by have:=h.1.1;simpa[aL]using this.symm)
 subst hc
 exact⟨rfl,eM (fun _ _=>rfl) (fun b hb=>⟨hb.1.1,hb.2⟩) .refl _ _ h.2⟩
theorem Ended.mk0 {fresh:Bool}{N:Nat→Prop}{M:List Nat}{w W:World}{R:List Lt→FV→Prop}{v:Value}{r:FV}{y:List VT}(hR:R [] r) (hb:Below w.heap.size w W) (hok:VT.okL W y) (hnd:(VT.fpL y).Nodup) (hfp:∀b∈VT.fpL y,w.heap.size≤b∧b<W.heap.size)
  (hro:RO W (fun b=>fresh=false∧(b<W.heap.size∧b∉VT.fpL y)∧(N b∨w.heap.size≤b)) [] r v y):Ended fresh N M w [] [] R (.returned v) W:=by
 refine⟨v,[],[],r,y,rfl,hR,rfl,fun _ _ _ h=>by simp at h,rfl,.refl,?_⟩
 refine⟨⟨hb.os,hb.tape,hb.output,hb.size,fun k hk _=>hb.block k hk⟩,fun q hq=>?_,fun b hb=>?_,by simpa[aL,aA,dP]using hnd,fun q hq=>?_⟩
 ·simp[aL,aA]at hq
  subst hq
  exact hok
 ·have:=hfp b (by simpa[aL,aA,dP]using hb)
  exact⟨.inr this.1,this.2⟩
 simp at hq
 subst hq
 refine⟨⟨rfl,fun k o hk=>by simp[aL]at hk⟩,iT (fun _ _=>rfl) (fun b hb=>⟨hb.1,⟨⟨hb.2.1.1,?_⟩,hb.2.2.elim .inl fun h=>.inr (.inr h)⟩⟩) .refl hro⟩
 simpa[aL,aA,dP]using hb.2.1.2
theorem Cf {v:Value}(h:∀(N:Nat→Prop) (w:World) us,bC w N [] args us→(∀b,N b→b<w.heap.size)→Calls Tryd.prog f us.toArray w (fun e w'=>e=.returned v∧Below w.heap.size w w')):aP true Tryd.prog f [] args (bI (.one (tv v))):=by
 intro N w cs us hL
 obtain⟨rfl,hf⟩:=oF hL
 refine(h _ w us hf (fun b hb=>hb.1)).mono ?_
 rintro e W ⟨rfl,hb⟩
 refine .mk0 (y:=[.w v]) rfl hb (by simp[VT.okL,VT.ok]) (by simp[VT.fpL,VT.fp]) (by simp[VT.fpL,VT.fp]) ⟨.w v,rfl,rfl,?_⟩
 simp[CR,tv,OR]
end
theorem pL {W:World}{N:Nat→Prop}{a b:FV}{us:List Value}(h:bC W N [] [a,b] us):∃u v,us=[u,v]∧aK W N [] a u∧aK W N [] b v:=by
 match us,h with
 | [u,v],h=>
  simp only[bC]at h
  exact⟨u,v,rfl,h.1,h.2.1⟩
 | [],h=>simp only[bC]at h
 | [_],h=>simp only[bC]at h;exact h.2.elim
 | _::_::_::_,h=>simp only[bC]at h;exact absurd h.2.2 (by simp)
theorem Jk {W:World}{N:Nat→Prop}{a:FV}{us:List Value}(h:bC W N [] [a] us):∃u,us=[u]∧aK W N [] a u:=by
 match us,h with
 | [u],h=>
  simp only[bC]at h
  exact⟨u,rfl,h.1⟩
 | [],h=>simp only[bC]at h
 | _::_::_,h=>simp only[bC]at h;exact absurd h.2 (by simp)
section
variable {a b:Fr4}
end
theorem tE (xs:List Nat){k:Nat}(h:k<xs.length):((aG xs).drop (k*1)).take [Tr.v (.int .u32 ((nth xs k:Nat):Int))].length=[Tr.v (.int .u32 ((nth xs k:Nat):Int))]:=by
 rw[Nat.mul_one]
 have:(aG xs)[k]? =some (Tr.v (.int .u32 ((nth xs k:Nat):Int))):=by simp[aG,aR h,h]
 rw[List.length_singleton,List.take_one]
 simp[this]
theorem bO {x:Cx}{g:Nat→FV}{ob:List (Option Ob)}(h0:x.c0.length=0) (τ:List Nat) (live:List (Nat×FV)) (os:List Ob) (hn:τ.Nodup) (h1:kQ τ g live) (h2:dA τ ob τ os):Sub x g ob (cD live) (os.map some):=
 su τ (fun k hk=>by rw[h0]at hk;cases hk) live os hn h1 h2
theorem Cg {xs ys:List Nat}{k:Nat}(h:xs.take k=ys.take k) (h1:k<xs.length) (h2:k<ys.length) (he:nth xs k=nth ys k):xs.take (k+1)=ys.take (k+1):=by
 rw[List.take_add_one,List.take_add_one,h]
 rw[aR h1,aR h2]at he
 simp[List.getElem?_eq_getElem h1,List.getElem?_eq_getElem h2,he]
theorem gY (xs:List Nat):((aG xs).map AV.t).take (xs.length*1)=(aG xs).map .t:=by rw[Nat.mul_one,List.take_of_length_le (by simp[jZ])]
theorem cM (xs:List Nat):(aG xs).length=xs.length*1:=by simp[jZ]
theorem Jl {a b:Fr4}:a=b↔(a.s=b.s∧a.t=b.t)∧a.x=b.x∧a.y=b.y:=by
 obtain⟨s,x,t,y⟩:=a
 obtain⟨s',x',t',y'⟩:=b
 simp only[Fr4.mk.injEq]
 constructor
 ·rintro⟨h1,h2,h3,h4⟩
  exact⟨⟨h1,h3⟩,h2,h4⟩
 rintro⟨⟨h1,h3⟩,h2,h4⟩
 exact⟨h1,h2,h3,h4⟩
instance:DecidableEq Fr4:=fun a b=>decidable_of_iff _ Jl.symm
def Fr4.len (a:Fr4) (m:Nat):Prop:=a.x.length≤m∧a.y.length≤m
def hv:List Nat→List Nat
 | []=>[]
 | x::xs=>x%65536::x/65536::hv xs
def lb:List Nat→List Nat
 | []=>[]
 | [a]=>[a]
 | a::b::l=>(a+65536*b)::lb l
theorem Ch (xs ys:List Nat):(aG xs).map AV.t++(aG ys).map .t=(aG (xs++ys)).map .t:=by simp[aG]
theorem gI (a b:Nat):Int.tmod (a:Int) (b:Int)=((a%b:Nat):Int):=by
 rw[Int.tmod_eq_emod_of_nonneg (by omega)]
 rfl
theorem gJ (a b:Nat):Int.tdiv (a:Int) (b:Int)=((a/b:Nat):Int):=by
 rw[Int.tdiv_eq_ediv_of_nonneg (by omega)]
 rfl
theorem lE {k:IntKind}{a:Nat}(b:Nat) (hb:b≠0) (h:eV k (a:Int)):(b:Int)≠0∧eV k (Int.tdiv (a:Int) (b:Int)):=by
 refine⟨by omega,?_⟩
 rw[gJ]
 have:=Nat.div_le_self a b
 generalize a/b=c at this⊢
 cases k <;> simp only[eV]at h⊢ <;> omega
section
variable {x:Cx}{g:Nat→FV}{ob:List (Option Ob)}
theorem Ac {i k n:Nat}{zs zs':List Nat}(hi:Nat.blt i x.n=true) (hg:g i=.one (.sl k 0 n)) (ho:aZ ob k=some ⟨64,1,(aG zs).map .t⟩) (hn:n=zs.length) (he:zs=zs'):Sub x g ob (aH g i (.one (.t (sU false zs')))) (ob.set k none):=by
 subst he
 have:=fz hi hg ho (by rw[jZ,hn,Nat.mul_one])
 rw[hn]at this
 exact this
end
section
variable {l:List Nat}{k N:Nat}{z:Int}{xs:List Nat}{neg:Bool}
theorem qP {a b:Nat}(h:a≤b):(dg 4294967296 a).length≤(dg 4294967296 b).length:=dZ (by omega) h
end
theorem Ad (xs:List Nat){k:Nat}(h:k<xs.length):((aG xs).map AV.t)[0+k*1]? =some (tv (.int .u32 ((nth xs k:Nat):Int))):=by simp[aG,aR h,h,tv]
theorem pM (xs:List Nat){k v:Nat}(h:k<xs.length):bL ((aG xs).map AV.t) (0+k*1) [tv (.int .u32 (v:Int))]=(aG (xs.set k v)).map .t:=by
 rw[Nat.zero_add,Nat.mul_one,List.set_eq_take_append_cons_drop,if_pos h]
 simp[bL,aG,tv,List.map_take,List.map_drop]
theorem tF (xs:List Nat){k:Nat}{a:AV}(h:k<xs.length):0+k*1+[a].length≤((aG xs).map AV.t).length:=by simp[aG];omega
structure Zi where
 s:Bool
 x:List Nat
def Zi.of (k:Int):Zi:=⟨mG k,dg 4294967296 k.natAbs⟩
def Zn (a:Zi) (k:Int):Prop:=Lim 4294967296 a.x∧a.x.length≤137438953472∧fU a.s a.x=k
theorem Zn.of {k:Int}(h:(dg 4294967296 k.natAbs).length≤137438953472):Zn (.of k) k:=⟨bK (by omega) _,h,Ab k⟩
theorem Zn.len {a:Zi}{k:Int}(h:Zn a k):(dg 4294967296 k.natAbs).length≤137438953472:=by
 obtain⟨h1,h2,rfl⟩:=h
 exact Nat.le_trans (wA h1) h2
theorem Zn.right {a:Zi}{k:Int}(h:Zn a k) (hr:dL a.s a.x=true):mG k=a.s∧dg 4294967296 k.natAbs=a.x:=by
 obtain⟨h1,h2,rfl⟩:=h
 exact⟨Fm h1 hr,pK h1 hr⟩
theorem Ll:CallOk Tryd.prog 117:=.mk Tryd.func117 (by decide) rfl
def aU (l:List Nat):Nat:=l.foldl (fun n c=>n*10+(c-48)) 0
theorem Jm {l:List Nat}{k:Nat}(h:k<l.length):aU (l.take k)*10+(nth l k-48)=aU (l.take (k+1)):=by
 have e:l[k]? =some (nth l k):=by rw[aR h];simp[h]
 rw[List.take_add_one,e]
 simp[aU]
theorem rC:∀{l:List Nat}{k:Nat},(∀c∈l,48≤c∧c≤57)→k≤l.length→aU (l.take k)<10^k
 | l,0,_,_=>by simp[aU]
 | l,k+1,h,hk=>by
  have ih:=rC (k:=k) h (by omega)
  have h2:=h (nth l k) (by rw[aR (by omega)];exact List.getElem_mem _)
  rw[←Jm (by omega),Nat.pow_succ]
  omega
theorem Ae {l:List Nat}{k:Nat}(h:∀c∈l,48≤c∧c≤57) (hk:k<l.length):48≤nth l k∧nth l k≤57:=h _ (by rw[aR hk];exact List.getElem_mem hk)
theorem Fo {l:List Nat}(h:∀c∈l,48≤c∧c≤57):Lim 256 l:=fun c hc=>by have:=h c hc;omega
theorem Lm {k:Nat}(h:k≤17):10^k≤100000000000000000:=Nat.le_trans (Nat.pow_le_pow_right (by omega) h) (by decide)
theorem Fp {l:List Nat}(hd:∀c∈l,48≤c∧c≤57) (h0l:0<l.length) (h18:l.length≤18):aP true Tryd.prog 117 [] [.one (tv (.string (aT l)))] (bI (.tup [.one (tv (.int .i64 ((aU l:Nat):Int))),.one (tv .nilIface)])):=by
 refine eH Tryd.func117 rfl Tryd.ntmps117 rfl aW rfl fun N9 w9 c0 h0=>?_
 have hd0:=Ae hd h0l
 refine sq ?_;refine rl ?_;refine o1 ?_;refine o1 ?_;refine nl ?_;refine sq ?_;refine rl ?_;refine o1 ?_;refine o1 ?_
 refine WL.cast (t:=12) (u':=.int .i64 ((l.length:Nat):Int)) rfl (congrArg (fun n:Nat=>Value.int .i64 (n:Int)) (bF _)) ?_
 refine o1 ?_;refine nl ?_;refine sq ?_;refine sq ?_;refine rl ?_;refine o1 ?_;(iterate 6 refine iE ?_);(iterate 6 refine o1 ?_);refine WL.split (t:=25) rfl (fun h1=>?_) (fun h1=>?_)
 ·(iterate 5 refine o1 ?_);refine nl ?_;refine cA rfl (fun h2=>?_) (fun h2=>?_)
  ·refine sq ?_;refine rl ?_;refine o1 ?_;refine o1 ?_;refine nl ?_;refine sq ?_;refine sq ?_;refine rl ?_;refine o1 ?_;refine o1 ?_ (hC:=(by rw[bF];show 0<l.length;omega))
   refine WL.cast (t:=33) (u':=.int .u8 (((nth l 0):Nat):Int)) rfl (congrArg (fun n:Nat=>Value.int .u8 (n:Int)) (lS (i:=0) (by omega) (by omega))) ?_
   refine o1 ?_;refine o1 ?_;refine WL.split (t:=35) rfl (fun h3=>?_) (fun h3=>?_)
   ·omega
   refine o1 ?_;refine o1 ?_ (hC:=(by rw[bF];show 0<l.length;omega))
   refine WL.cast (t:=37) (u':=.int .u8 (((nth l 0):Nat):Int)) rfl (congrArg (fun n:Nat=>Value.int .u8 (n:Int)) (lS (i:=0) (by omega) (by omega))) ?_
   refine o1 ?_;refine o1 ?_;refine nl ?_;refine cA rfl (fun h4=>?_) (fun h4=>?_)
   ·omega
   refine sk ?_;refine sq ?_;refine rl ?_;refine o1 ?_;refine nl ?_;refine sq ?_;refine sq ?_;refine rl ?_;refine o1 ?_;refine Ot (Fo hd) (by omega) ?_
   refine o1 ?_;refine o1 ?_;refine nl ?_;refine bl ?_
   refine lp (γ:=Nat) (fun k=>cD [(5,.one (tv (.string (aT l)))),(6,.one (tv (.int .i64 ((aU (l.take k):Nat):Int)))),(47,.one (.t (.s false 5 1 l.length (aV l)))),(48,.one (tv (.int .i64 ((l.length:Nat):Int)))),(49,.one (tv (.int .i64 ((k:Nat):Int))))]) (fun _=>([]:List Ob).map some) (fun k=>k≤l.length) (fun k=>l.length-k) 0 (Nat.zero_le _) (bO h0 [] _ _ (by decide) ⟨rfl,rfl,rfl,rfl,rfl,trivial⟩ rfl) fun k hk=>?_
   refine sq ?_;refine rl ?_;refine o1 ?_;refine nl ?_;refine sq ?_;refine cA rfl (fun h5=>?_) (fun h5=>?_)
   ·refine sk ?_;refine sq ?_;refine bl ?_;refine sq ?_;have hdk:=Ae hd (k:=k) (by omega)
    have hvk:=Nat.lt_of_lt_of_le (rC (k:=k) hd hk) (Lm (by omega))
    refine rl ?_;refine o1 ?_;refine nS ([.v (.int .u8 ((nth l (k):Nat):Int))]) (lT l (k:=k) (by omega)) ?_
    refine o1 ?_;refine nl ?_;refine sq ?_;refine rl ?_;refine o1 ?_;refine o1 ?_;refine WL.cast (t:=54) (u':=.int .u8 (((nth l k-48):Nat):Int)) rfl (aM (by omega)) ?_
    refine o1 ?_;refine nl ?_;refine sq ?_;refine sq ?_;refine rl ?_;refine o1 ?_;refine o1 ?_;refine nl ?_;refine cA rfl (fun h6=>?_) (fun h6=>?_)
    ·omega
    refine sk ?_;refine rl ?_;refine o1 ?_;refine o1 ?_;refine WL.cast (t:=59) (u':=.int .i64 (((aU (l.take k)*10):Nat):Int)) rfl (aM (by omega)) ?_
    refine o1 ?_;refine o1 ?_;refine WL.cast (t:=61) (u':=.int .i64 (((nth l k-48):Nat):Int)) rfl (aM (by omega)) ?_
    refine o1 ?_;refine WL.cast (t:=62) (u':=.int .i64 (((aU (l.take k)*10+(nth l k-48)):Nat):Int)) rfl (aM (by omega)) ?_
    refine WL.cast (t:=62) (u':=.int .i64 (((aU (l.take k)*10)+(nth l k-48):Nat):Int)) rfl (aM (by omega)) ?_
    refine o1 ?_;refine nl ?_;refine rl ?_;refine o1 ?_;refine WL.cast (t:=63) (u':=.int .i64 ((k+1:Nat):Int)) rfl (aM (by omega)) ?_
    refine o1 ?_;refine nl ?_
    exact⟨k+1,by omega,by omega,bO h0 [] _ _ (by decide) ⟨rfl,qM (congrArg (fun n:Nat=>(n:Int)) (Jm (by omega)).symm),rfl,rfl,rfl,trivial⟩ rfl⟩
   refine ex ?_;refine sq ?_;refine sq ?_;refine rl ?_;refine o1 ?_;refine o1 ?_ (hC:=(by rw[bF];show 0<l.length;omega))
   refine WL.cast (t:=65) (u':=.int .u8 (((nth l 0):Nat):Int)) rfl (congrArg (fun n:Nat=>Value.int .u8 (n:Int)) (lS (i:=0) (by omega) (by omega))) ?_
   refine o1 ?_;refine nl ?_;refine cA rfl (fun h7=>?_) (fun h7=>?_)
   ·omega
   refine sk ?_;refine sq ?_;refine rl ?_;(iterate 3 refine o1 ?_);refine nl ?_;refine rt ?_;have hk9:k=l.length:=by omega
   exact en (.inl rfl) rfl (iW (.cons (dV _) (.cons (dV _) .nil))) (by decide) (fun _=>⟨trivial,trivial,trivial⟩) (by rw[hk9,List.take_of_length_le (Nat.le_refl _)];rfl)
  omega
 omega
theorem oG {l:List Nat}(hd:∀c∈l,48≤c∧c≤57) (h0l:0<l.length) (h18:l.length≤18):aP true Tryd.prog 86 [] [.one (tv (.string (aT l)))] (bI (.tup [.one (tv (.int .i64 ((aU l:Nat):Int))),.one (tv .nilIface)])):=by
 refine eH Tryd.func86 rfl Tryd.ntmps86 rfl aW rfl fun N9 w9 c0 h0=>?_
 refine sq ?_;refine rl ?_;refine o1 ?_;refine o1 ?_;refine nl ?_;refine sq ?_;refine rl ?_;refine o1 ?_
 refine ca (Fp hd h0l h18) Ll ⟨a1 rfl,rfl⟩ (.tup [.one (tv (.int .i64 ((aU l:Nat):Int))),.one (tv .nilIface)]) ?_;(iterate 5 refine o1 ?_);refine nl ?_;refine sq ?_;refine sq ?_
 refine rl ?_;refine o1 ?_;refine Ou ?_ (by kernel_rfl)
 refine nl ?_;refine uV rfl ?_;refine sk ?_;refine sq ?_;refine rl ?_;(iterate 3 refine o1 ?_);refine nl ?_;refine rt ?_
 exact en (.inl rfl) rfl (iW (.cons (dV _) (.cons (dV _) .nil))) (by decide) (fun _=>⟨trivial,trivial,trivial⟩) rfl
end Go.Proofs.YteggpgndiajdpaaDoor
namespace Go.Proofs.YteggpgndiajdpaaDoor
open Go Go.Shelf
def lays160_ren:Go.Shelf.Ren:=⟨fun | 160=>85 | 232=>111 | 231=>110 | 227=>112 | 234=>114 | 233=>113 | 236=>116 | 235=>115 | 228=>125 | 271=>128 | 151=>127 | 197=>126 | 120=>136 | 152=>135 | 260=>134 | 137=>141 | 119=>142 | 224=>143 | 225=>144 | 217=>148 | 266=>150 | n=>n,fun | 9=>9 | 4=>4 | 3=>3 | 5=>5 | 117=>129 | 116=>128 | 0=>0 | 124=>132 | 21=>21 | 105=>139 | 46=>113 | 119=>156 | 139=>159 | 138=>158 | n=>n,fun | 3=>3 | 4=>4 | n=>n⟩
theorem Fq:Go.Proofs.Lays.n160 Tryd.prog lays160_ren:={
 mixed:=by kernel_rfl
 f119:=Tryd.func142.trans (congrArg some (by kernel_rfl))
 f120:=Tryd.func136.trans (congrArg some (by kernel_rfl))
 f137:=Tryd.func141.trans (congrArg some (by kernel_rfl))
 f151:=Tryd.func127.trans (congrArg some (by kernel_rfl))
 f152:=Tryd.func135.trans (congrArg some (by kernel_rfl))
 f160:=Tryd.func85.trans (congrArg some (by kernel_rfl))
 f197:=Tryd.func126.trans (congrArg some (by kernel_rfl))
 f217:=Tryd.func148.trans (congrArg some (by kernel_rfl))
 f224:=Tryd.func143.trans (congrArg some (by kernel_rfl))
 f225:=Tryd.func144.trans (congrArg some (by kernel_rfl))
 f227:=Tryd.func112.trans (congrArg some (by kernel_rfl))
 f228:=Tryd.func125.trans (congrArg some (by kernel_rfl))
 f231:=Tryd.func110.trans (congrArg some (by kernel_rfl))
 f232:=Tryd.func111.trans (congrArg some (by kernel_rfl))
 f233:=Tryd.func113.trans (congrArg some (by kernel_rfl))
 f234:=Tryd.func114.trans (congrArg some (by kernel_rfl))
 f235:=Tryd.func115.trans (congrArg some (by kernel_rfl))
 f236:=Tryd.func116.trans (congrArg some (by kernel_rfl))
 f260:=Tryd.func134.trans (congrArg some (by kernel_rfl))
 f266:=Tryd.func150.trans (congrArg some (by kernel_rfl))
 f271:=Tryd.func128.trans (congrArg some (by kernel_rfl))
 t0:=Tryd.underlying0
 a0:=Tryd.isAgg0
 z0:=Tryd.sizeOf0
 v0:=Tryd.zeroValue0
 t3:=Tryd.underlying3
 a3:=Tryd.isAgg3
 z3:=Tryd.sizeOf3
 v3:=Tryd.zeroValue3
 t4:=Tryd.underlying4
 a4:=Tryd.isAgg4
 z4:=Tryd.sizeOf4
 v4:=Tryd.zeroValue4
 t5:=Tryd.underlying5
 a5:=Tryd.isAgg5
 z5:=Tryd.sizeOf5
 v5:=Tryd.zeroValue5
 t9:=Tryd.underlying9
 a9:=Tryd.isAgg9
 z9:=Tryd.sizeOf9
 v9:=Tryd.zeroValue9
 t21:=Tryd.underlying21
 a21:=Tryd.isAgg21
 z21:=Tryd.sizeOf21
 v21:=Tryd.zeroValue21
 t46:=Tryd.underlying113
 a46:=Tryd.isAgg113
 z46:=Tryd.sizeOf113
 v46:=Tryd.zeroValue113
 t105:=Tryd.underlying139
 a105:=Tryd.isAgg139
 z105:=Tryd.sizeOf139
 v105:=Tryd.zeroValue139
 t116:=Tryd.underlying128
 a116:=Tryd.isAgg128
 z116:=Tryd.sizeOf128
 t117:=Tryd.underlying129
 a117:=Tryd.isAgg129
 z117:=Tryd.sizeOf129
 v117:=Tryd.zeroValue129
 t119:=Tryd.underlying156
 a119:=Tryd.isAgg156
 z119:=Tryd.sizeOf156
 t124:=Tryd.underlying132
 a124:=Tryd.isAgg132
 z124:=Tryd.sizeOf132
 v124:=Tryd.zeroValue132
 t138:=Tryd.underlying158
 a138:=Tryd.isAgg158
 z138:=Tryd.sizeOf158
 v138:=Tryd.zeroValue158
 t139:=Tryd.underlying159
 a139:=Tryd.isAgg159
 z139:=Tryd.sizeOf159
 v139:=Tryd.zeroValue159
 g3:=by kernel_rfl
 g4:=by kernel_rfl}
end Go.Proofs.YteggpgndiajdpaaDoor
namespace Go.Proofs.YteggpgndiajdpaaDoor
open Go Go.RowKit
section
variable {f:FuncId}{args:List FV}
theorem fV {xs:List Nat}(h:∀(N:Nat→Prop) (w:World) us,bC w N [] args us→(∀b,N b→b<w.heap.size)→Calls Tryd.prog f us.toArray w (fP xs w)):aP true Tryd.prog f [] args (bI (.one (.t (sU true xs)))):=by
 intro N w cs us hL
 obtain⟨rfl,hf⟩:=oF hL
 refine(h _ w us hf (fun b hb=>hb.1)).mono ?_
 rintro e W ⟨A,n,c,rfl,ho,hb⟩
 obtain⟨y1,a1,a2,a3,a4⟩:=oE (N:=fun b=>true=false∧(b<W.heap.size∧b∉VT.fpL [])∧(N b∨w.heap.size≤b)) ho
 refine .mk0 (y:=[y1]) rfl hb (by simp only[VT.okL];exact⟨a3,trivial⟩) ?_ (fun b hb'=>?_) ?_
 ·simp only[VT.fpL,a4,List.append_nil]
  cases A <;> simp[Value.ownBlock]
 ·simp only[VT.fpL,a4,List.append_nil]at hb'
  exact ho.blk b hb'
 exact⟨y1,rfl,a1.symm,eR (fun _ _=>rfl) (fun b hb=>absurd hb.1 (by simp)) _ _ a2⟩
variable {xs ys:List Nat}
theorem eI {W:World}{N:Nat→Prop}{v:Value}(h:aK W N [] (.one (.t (sU false xs))) v) (hl:Lim 4294967296 xs) (hN:∀b,N b→b<W.heap.size):∃A c,v=.slice A xs.length c∧U32 W W.heap.size A xs.length c xs:=by
 simp only[aK,AR]at h
 obtain⟨A,c,rfl,l⟩:=Fn h hl
 exact⟨A,c,rfl,l.u32 hN⟩
theorem Jn (hx:Lim 4294967296 xs) (h:xs.length≤1099511627776):aP true Tryd.prog 47 [] [.one (.t (sU false xs))] (bI (.one (.t (sU true (trim xs))))):=fV fun N w us hf hN=>by
 obtain⟨u,rfl,h1⟩:=Jk hf
 obtain⟨A,c,rfl,u1⟩:=eI h1 hx hN
 exact cR A _ c xs w u1 h
theorem Fs (hx:Lim 4294967296 xs) (h:xs.length≤1099511627776):aP true Tryd.prog 69 [] [.one (.t (sU false xs))] (bI (.one (.t (sU true xs)))):=fV fun N w us hf hN=>by
 obtain⟨u,rfl,h1⟩:=Jk hf
 obtain⟨A,c,rfl,u1⟩:=eI h1 hx hN
 exact lU A _ c xs w u1 h
theorem Ln (hx:Lim 4294967296 xs) (hy:Lim 4294967296 ys) (h:xs.length≤1099511627776) (h':ys.length≤1099511627776):aP true Tryd.prog 53 [] [.one (.t (sU false xs)),.one (.t (sU false ys))] (bI (.one (.t (sU true (dg 4294967296 (vl 4294967296 xs+vl 4294967296 ys)))))):=fV fun N w us hf hN=>by
 obtain⟨u,v,rfl,h1,h2⟩:=pL hf
 obtain⟨A,c,rfl,u1⟩:=eI h1 hx hN
 obtain⟨B,d,rfl,u2⟩:=eI h2 hy hN
 exact Bz A B _ _ c d xs ys w u1 u2 h h'
theorem Lo (hx:Lim 4294967296 xs) (hy:Lim 4294967296 ys) (h:xs.length≤549755813888) (h':ys.length≤549755813888):aP true Tryd.prog 49 [] [.one (.t (sU false xs)),.one (.t (sU false ys))] (bI (.one (.t (sU true (dg 4294967296 (vl 4294967296 xs*vl 4294967296 ys)))))):=fV fun N w us hf hN=>by
 obtain⟨u,v,rfl,h1,h2⟩:=pL hf
 obtain⟨A,c,rfl,u1⟩:=eI h1 hx hN
 obtain⟨B,d,rfl,u2⟩:=eI h2 hy hN
 exact Fe A B _ _ c d xs ys w u1 u2 h h'
theorem tG (A:Option Addr) (n c:Nat):((Value.slice A n c).ownBlock.toList).Nodup:=by cases A <;> simp[Value.ownBlock]
theorem Ci (hx:Lim 4294967296 xs) (hy:Lim 4294967296 ys) (h:xs.length≤549755813888) (h':ys.length≤549755813888) (h0:vl 4294967296 ys≠0):aP true Tryd.prog 40 [] [.one (.t (sU false xs)),.one (.t (sU false ys))] (bI (.tup [.one (.t (sU true (dg 4294967296 (vl 4294967296 xs/vl 4294967296 ys)))),.one (.t (sU true (dg 4294967296 (vl 4294967296 xs%vl 4294967296 ys)))),.one (tv (.int .i64 0))])):=by
 intro N w cs us hL
 obtain⟨rfl,hf⟩:=oF hL
 obtain⟨u,v,rfl,h1,h2⟩:=pL hf
 obtain⟨A,c,rfl,u1⟩:=eI h1 hx fun b hb=>hb.1
 obtain⟨B,d,rfl,u2⟩:=eI h2 hy fun b hb=>hb.1
 refine(xS A B _ _ c d xs ys w u1 u2 h h' h0).mono ?_
 rintro e W ⟨A1,n1,c1,A2,n2,c2,rfl,ho,ho2,hap,hb⟩
 obtain⟨y1,a1,a2,a3,a4⟩:=oE (N:=fun b=>true=false∧(b<W.heap.size∧b∉VT.fpL [])∧(N b∨w.heap.size≤b)) ho
 obtain⟨y2,b1,b2,b3,b4⟩:=oE (N:=fun b=>true=false∧(b<W.heap.size∧b∉VT.fpL [])∧(N b∨w.heap.size≤b)) ho2
 refine .mk0 (y:=[y1,y2,.w (.int .i64 0)]) rfl hb (by simp only[VT.okL,VT.ok];exact⟨a3,b3,trivial,trivial⟩) ?_ (fun b hb'=>?_) ?_
 ·simp only[VT.fpL,VT.fp,a4,b4,List.append_nil]
  rw[List.nodup_append]
  refine⟨tG ..,tG ..,fun x hx y hy e=>?_⟩
  subst e
  rcases A1 with _ | a
  ·simp[Value.ownBlock]at hx
  rcases A2 with _ | b
  ·simp[Value.ownBlock]at hy
  simp[Value.ownBlock]at hx hy
  exact hap a b rfl rfl (by rw[←hx,←hy])
 ·simp only[VT.fpL,VT.fp,a4,b4,List.append_nil]at hb'
  rcases List.mem_append.1 hb' with hb' | hb'
  ·exact ho.blk b hb'
  exact ho2.blk b hb'
 refine⟨[_,_,_],rfl,?_⟩
 exact⟨_,_,[y1],[y2,.w (.int .i64 0)],rfl,rfl,⟨y1,rfl,a1.symm,eR (fun _ _=>rfl) (fun b hb=>absurd hb.1 (by simp)) _ _ a2⟩,_,_,[y2],[.w (.int .i64 0)],rfl,rfl,⟨y2,rfl,b1.symm,eR (fun _ _=>rfl) (fun b hb=>absurd hb.1 (by simp)) _ _ b2⟩,_,_,[.w (.int .i64 0)],[],rfl,rfl,⟨_,rfl,rfl,by simp[CR,tv,OR]⟩,rfl,rfl⟩
end
section
variable {xs:List Nat}
theorem xV {d:Nat}(hx:Lim 4294967296 xs) (h:xs.length≤1099511627776) (hd0:0<d) (hd:d<4294967296):aP true Tryd.prog 76 [] [.one (.t (sU false xs)),.one (tv (.int .u32 (d:Int)))] (bI (.tup [.one (.t (sU true (dg 4294967296 (vl 4294967296 xs/d)))),.one (tv (.int .u32 ((vl 4294967296 xs%d:Nat):Int))),.one (tv (.int .i64 0))])):=by
 intro N w cs us hL
 obtain⟨rfl,hf⟩:=oF hL
 obtain⟨u,v,rfl,h1,h2⟩:=pL hf
 obtain⟨A,c,rfl,u1⟩:=eI h1 hx fun b hb=>hb.1
 obtain rfl:=aC (eS h2)
 refine(gA A _ c d xs w u1 h hd0 hd).mono ?_
 rintro e W ⟨A,n,c,rfl,ho,hb⟩
 obtain⟨y1,a1,a2,a3,a4⟩:=oE (N:=fun b=>true=false∧(b<W.heap.size∧b∉VT.fpL [])∧(N b∨w.heap.size≤b)) ho
 refine .mk0 (y:=[y1,.w (.int .u32 ((vl 4294967296 xs%d:Nat):Int)),.w (.int .i64 0)]) rfl hb (by simp only[VT.okL,VT.ok];exact⟨a3,trivial,trivial,trivial⟩) ?_ (fun b hb'=>?_) ?_
 ·simp only[VT.fpL,VT.fp,a4,List.append_nil]
  exact tG A n c
 ·simp only[VT.fpL,VT.fp,a4,List.append_nil]at hb'
  exact ho.blk b hb'
 refine⟨[_,_,_],rfl,?_⟩
 exact⟨_,_,[y1],[.w _,.w (.int .i64 0)],rfl,rfl,⟨y1,rfl,a1.symm,eR (fun _ _=>rfl) (fun b hb=>absurd hb.1 (by simp)) _ _ a2⟩,_,_,[.w _],[.w (.int .i64 0)],rfl,rfl,⟨_,rfl,rfl,by simp[CR,tv,OR]⟩,_,_,[.w (.int .i64 0)],[],rfl,rfl,⟨_,rfl,rfl,by simp[CR,tv,OR]⟩,rfl,rfl⟩
theorem wB {v:Nat}(hx:Lim 4294967296 xs) (h:xs.length≤1099511627776) (hv:vl 4294967296 xs=v):aP true Tryd.prog 47 [] [.one (.t (sU false xs))] (bI (.one (.t (sU true (dg 4294967296 v))))):=by
 have e:=cY (B:=4294967296) (by omega) hx
 rw[←hv,e]
 exact Jn hx h
theorem Jo {u d:Nat}(h:(dg 4294967296 u).length≤1099511627776) (hd0:0<d) (hd:d<4294967296):aP true Tryd.prog 76 [] [.one (.t (sU false (dg 4294967296 u))),.one (tv (.int .u32 (d:Int)))] (bI (.tup [.one (.t (sU true (dg 4294967296 (u/d)))),.one (tv (.int .u32 ((u%d:Nat):Int))),.one (tv (.int .i64 0))])):=by
 have e:=bT (B:=4294967296) (by omega) u
 have h2:=xV (xs:=dg 4294967296 u) (d:=d) (bK (by omega) _) h hd0 hd
 rw[e]at h2
 exact h2
end
theorem tH {l:List Nat}(hn:l.length≤9223372036854775807):aP true Tryd.prog 85 [] [.one (tv (.string (aT l))),.one (tv (.string ⟨#[48,49,50,51,52,53,54,55,56,57]⟩))] (bI (.one (tv (.string ⟨(Lib.trimS (aT l).data.toList [48,49,50,51,52,53,54,55,56,57]).toArray⟩)))):=Cf fun N w us hf hN=>by
 obtain⟨u,v,rfl,h1,h2⟩:=pL hf
 obtain rfl:=aC (eS h1)
 obtain rfl:=aC (eS h2)
 exact Go.Proofs.Any.strings_Trim_laid Fq (by kernel_rfl) (aT l) ⟨#[48,49,50,51,52,53,54,55,56,57]⟩ w (by rw[bF];omega) (by decide) (fun j b h=>(by decide:∀b∈([48,49,50,51,52,53,54,55,56,57]:List UInt8),b.toNat<128) b (List.mem_of_getElem? h))
theorem tI {α:Type}{p:α→Bool}:∀{l:List α},l.dropWhile p=[]↔∀x∈l,p x=true
 | []=>by simp
 | x::l=>by
  rw[List.dropWhile_cons]
  by_cases h:p x=true
  ·rw[if_pos h,tI];simp[h]
  rw[if_neg h];simp[h]
theorem Af {l cs:List UInt8}:Lib.trimS l cs=[]↔∀x∈l,cs.contains x=true:=by
 unfold Lib.trimS Lib.trimLeftS Lib.trimRightS
 rw[tI]
 refine⟨fun h=>?_,fun h x hx=>h x (by simpa using(List.dropWhile_sublist _).subset (List.mem_reverse.1 hx))⟩
 cases hq:l.reverse.dropWhile (cs.contains ·)with
 | nil=>exact fun x hx=>tI.1 hq x (List.mem_reverse.2 hx)
 | cons y ys=>
  have h1:=h y (by rw[hq];simp)
  have h2:=List.head?_dropWhile_not (cs.contains ·) l.reverse
  rw[hq]at h2
  simp at h2
  exact absurd (by simpa using h1) h2
theorem oH {xs:List Nat}{m:Nat}(hx:Lim 4294967296 xs) (h:xs.length≤1099511627776) (hm:m<4294967296):aP true Tryd.prog 87 [] [.one (.t (sU false xs)),.one (tv (.int .u32 (m:Int)))] (bI (.one (.t (sU true (dg 4294967296 (vl 4294967296 xs*m)))))):=fV fun N w us hf hN=>by
 obtain⟨u,v,rfl,h1,h2⟩:=pL hf
 obtain⟨A,c,rfl,u1⟩:=eI h1 hx hN
 obtain rfl:=aC (eS h2)
 exact kG A _ c m xs w u1 h hm
def Zg (a:Zi) (k:Int):Prop:=Lim 4294967296 a.x∧a.x.length≤300000000000∧fU a.s a.x=k
theorem Zn.g {a:Zi}{k:Int}(h:Zn a k):Zg a k:=⟨h.1,Nat.le_trans h.2.1 (by omega),h.2.2⟩
theorem Zg.of {k:Int}(h:(dg 4294967296 k.natAbs).length≤300000000000):Zg (.of k) k:=⟨bK (by omega) _,h,Ab k⟩
theorem Zg.len {a:Zi}{k:Int}(h:Zg a k):(dg 4294967296 k.natAbs).length≤300000000000:=by
 obtain⟨h1,h2,rfl⟩:=h
 exact Nat.le_trans (wA h1) h2
theorem eJ (xs:List Nat):((aG xs).map AV.t).take (aG xs).length=(aG xs).map .t:=List.take_of_length_le (by simp)
section
variable {α:Type}{f:α→List Tr}{z:Nat}{xs:List α}{k o:Nat}{x x' y:α}{us:List Tr}
end
def zv (a:Zi):Int:=fU a.s a.x
def ZL (L:Nat) (a:Zi):Prop:=Lim 4294967296 a.x∧a.x.length≤L
theorem ZL.n {L:Nat}{a:Zi}(h:ZL L a) (hL:L≤137438953472):Zn a (zv a):=⟨h.1,Nat.le_trans h.2 hL,rfl⟩
theorem tJ {α:Type}{l:List α}{k:Nat}(h:l.length≤k):l.take k=l:=List.take_of_length_le h
def mH (l:List Nat):Bool:=l.all fun c=>decide (48≤c∧c≤57)
theorem Ft {l:List Nat}(h:mH l=true):∀c∈l,48≤c∧c≤57:=by simpa[mH]using h
theorem Ag:∀c<256,([48,49,50,51,52,53,54,55,56,57]:List UInt8).contains (UInt8.ofNat c)=decide (48≤c∧c≤57):=by decide+kernel
theorem wC {l:List Nat}(h:Lim 256 l):((⟨(Lib.trimS (aT l).data.toList [48,49,50,51,52,53,54,55,56,57]).toArray⟩:ByteArray).toList==(⟨#[]⟩:ByteArray).toList)=mH l:=by
 rw[ByteArray.toList_eq,ByteArray.toList_eq,Bool.eq_iff_iff,beq_iff_eq]
 show Lib.trimS _ _=[]↔_
 rw[Af,fJ]
 unfold mH
 rw[List.all_eq_true]
 refine⟨fun g c hc=>?_,fun g x hx=>?_⟩
 ·rw[←Ag c (h c hc)]
  exact g _ (List.mem_map.2 ⟨c,hc,rfl⟩)
 obtain⟨c,hc,rfl⟩:=List.mem_map.1 hx
 rw[Ag c (h c hc)]
 exact g c hc
def fB (l:List Nat):Bool:=decide (l=[])||(!decide (l=[48])&&decide (nth l 0=48))|| !mH l
def lF (l:List Nat):Int:=if fB l then 60 else if 4096<l.length then 3 else 0
def Dp (l:List Nat):Nat:=if lF l=0 then aU l else 0
theorem Dq {l:List Nat}(h:decide (l=[])=true):fB l=true:=by simp[fB,h]
theorem Dr {l:List Nat}(h:decide (l=[48])=false) (h2:nth l 0=48):fB l=true:=by simp[fB,h,h2]
theorem xW {l:List Nat}(h:mH l=false):fB l=true:=by simp[fB,h]
theorem Ah {l:List Nat}(h0:decide (l=[])=false) (h:decide (l=[48])=true∨¬nth l 0=48) (h2:mH l=true):fB l=false:=by
 rcases h with h | h <;> simp[fB,h0,h,h2]
theorem rD {l:List Nat}(h:fB l=true):lF l=60:=by simp[lF,h]
theorem Jp {l:List Nat}(h:fB l=false) (h2:4096<l.length):lF l=3:=by simp[lF,h,h2]
theorem Jq {l:List Nat}(h:fB l=false) (h2:¬4096<l.length):lF l=0:=by simp[lF,h,h2]
theorem Ds {l:List Nat}(h:lF l=0):Dp l=aU l:=if_pos h
theorem lW {l:List Nat}(h:¬lF l=0):Dp l=0:=if_neg h
theorem tK {l:List Nat}(h:fB l=false):∀c∈l,48≤c∧c≤57:=by
 refine Ft ?_
 cases hq:mH l with
 | true=>rfl
 | false=>rw[xW hq]at h;cases h
theorem Cj (m:List Nat):∀n:Nat,m.foldl (fun n c=>n*10+(c-48)) n=n*10^m.length+aU m:=by
 induction m with
 | nil=>intro n;simp[aU]
 | cons c m ih=>
  intro n
  have e:aU (c::m)=(0*10+(c-48))*10^m.length+aU m:=ih _
  rw[List.foldl_cons,ih,e,List.length_cons,Nat.pow_succ,Nat.zero_mul,Nat.zero_add,Nat.add_mul,Nat.mul_assoc,Nat.mul_comm 10,Nat.add_assoc]
theorem wD (l m:List Nat):aU (l++m)=aU l*10^m.length+aU m:=by
 show(l++m).foldl _ 0=_
 rw[List.foldl_append,Cj]
 rfl
theorem iF {l:List Nat}{j f:Nat}(h:j+f≤l.length) (hf:j=0∨f=9):aU (l.take j)*1000000000+aU ((l.drop j).take f)=aU (l.take (j+f)):=by
 rw[List.take_add,wD,List.length_take,List.length_drop,Nat.min_eq_left (by omega)]
 rcases hf with rfl | rfl
 ·simp[aU]
 rfl
theorem Fu {l:List Nat}(h:∀c∈l,48≤c∧c≤57){j:Nat}(hj:j≤l.length):aU (l.take j)<4294967296^j:=Nat.lt_of_lt_of_le (rC h hj) (Nat.pow_le_pow_left (by omega) j)
theorem lX {l:List Nat}(h:∀c∈l,48≤c∧c≤57){j:Nat}(hj:j≤l.length):(dg 4294967296 (aU (l.take j))).length≤j:=aI (by omega) (Fu h hj)
theorem kA {l:List Nat}(h:∀c∈l,48≤c∧c≤57) (j f:Nat):∀c∈(l.drop j).take f,48≤c∧c≤57:=fun c hc=>h c (List.mem_of_mem_drop (List.mem_of_mem_take hc))
theorem kB {l:List Nat}(h:∀c∈l,48≤c∧c≤57){j f:Nat}(hj:j+f≤l.length) (hf:f≤9):aU ((l.drop j).take f)<1000000000:=
 Nat.lt_of_lt_of_le (rC (l:=l.drop j) (k:=f) (fun c hc=>h c (List.mem_of_mem_drop hc)) (by rw[List.length_drop];omega)) (Nat.le_trans (Nat.pow_le_pow_right (by omega) hf) (by decide))
theorem Fv (ds:List Nat):aU (bN ds).reverse=vl 10 ds:=by
 induction ds with
 | nil=>rfl
 | cons d ds ih=>
  have e:(bN (d::ds)).reverse=(bN ds).reverse++[48+d]:=by simp[bN]
  rw[e,wD,ih]
  simp[aU,vl]
  omega
theorem oI {u m:Nat}(h:(dg 4294967296 u).length≤1099511627776) (hm:m<4294967296):aP true Tryd.prog 87 [] [.one (.t (sU false (dg 4294967296 u))),.one (tv (.int .u32 (m:Int)))] (bI (.one (.t (sU true (dg 4294967296 (u*m)))))):=by
 have h1:=oH (bK (by omega) u) h hm
 rwa[bT (by omega)]at h1
theorem oJ {u x:Nat}(h:(dg 4294967296 u).length≤1099511627776) (hx:x<4294967296):aP true Tryd.prog 53 [] [.one (.t (sU false (dg 4294967296 u))),.one (.t (sU false [x]))] (bI (.one (.t (sU true (dg 4294967296 (u+x)))))):=by
 have h1:=Ln (bK (by omega) u) (Lim.cons hx Lim.nil) h (by simp)
 rw[bT (by omega)]at h1
 have e:vl 4294967296 [x]=x:=by simp[vl]
 rwa[e]at h1
theorem Fw {l:List Nat}(h:decide (l=[])=false):0<l.length:=by
 cases l with
 | nil=>simp at h
 | cons _ _=>simp
theorem wE {l:List Nat}{j:Nat}(h:(!decide (l.drop j=[]))=true):j<l.length:=by
 rcases Nat.lt_or_ge j l.length with h1 | h1
 ·exact h1
 rw[List.drop_of_length_le h1]at h;simp at h
theorem wF {l:List Nat}{j:Nat}(h:(!decide (l.drop j=[]))=false):l.length≤j:=by
 rcases Nat.lt_or_ge j l.length with h1 | h1
 ·have h2:=of_decide_eq_true (zH h)
  have h3:=congrArg List.length h2
  rw[List.length_drop,List.length_nil]at h3
  omega
 exact h1
theorem Fx {l:List Nat}(hl:Lim 256 l) (hn:l.length≤9223372036854775807):aP true Tryd.prog 45 [] [.one (tv (.string (aT l)))] (bI (.tup [.one (.t (sU true (dg 4294967296 (Dp l)))),.one (tv (.int .i64 (lF l)))])):=by
 refine eH Tryd.func45 rfl Tryd.ntmps45 rfl aW rfl fun N9 w9 c0 h0=>?_
 refine sq ?_;refine rl ?_;refine o1 ?_;refine o1 ?_;refine nl ?_;refine sq ?_;refine bl ?_;refine sq ?_;refine sq ?_;refine rl ?_;refine o1 ?_;refine o1 ?_
 refine WL.cast (t:=10) (u':=.bool (decide (l=[]))) rfl (congrArg Value.bool (iY hl)) ?_;refine o1 ?_;refine nl ?_;refine nP rfl (fun h1=>?_) (fun h1=>?_)
 ·refine sk ?_;refine rZ (congrArg (fun b=>FV.one (tv (.bool b))) h1) ?_
  refine sq ?_;refine rl ?_;refine o1 ?_;refine o1 ?_;refine nl ?_;refine rt ?_;have he:=rD (Dq h1)
  exact en (.inl rfl) rfl (iW (.cons (.one (.nil (t:=64) (z:=1))) (.cons (dV _) .nil))) (by decide) (fun _=>⟨.inl ⟨rfl,trivial⟩,trivial,trivial⟩) (by rw[he,lW (by rw[he];decide)];rfl)
 refine sq ?_;have hp9:=Fw h1
 refine rl ?_;refine o1 ?_;refine o1 ?_
 refine WL.cast (t:=12) (u':=.bool (!decide (l=[48]))) rfl (congrArg Value.bool (congrArg not (xG (l':=[48]) hl (Lim.cons (by omega) Lim.nil)))) ?_
 refine o1 ?_;refine WL.splitb (t:=13) rfl (fun h2=>?_) (fun h2=>?_)
 ·refine o1 ?_;refine o1 ?_ (hC:=(by rw[bF];show 0<l.length;omega))
  refine WL.cast (t:=15) (u':=.int .u8 (((nth l 0):Nat):Int)) rfl (congrArg (fun n:Nat=>Value.int .u8 (n:Int)) (lS (i:=0) (by omega) (vQ hl (by omega)))) ?_
  (iterate 3 refine o1 ?_);refine nl ?_;refine cA rfl (fun h3=>?_) (fun h3=>?_)
  ·refine sk ?_;refine cA rfl (fun h4=>?_) (fun h4=>?_)
   ·refine sq ?_;refine rl ?_;refine o1 ?_;refine o1 ?_;refine nl ?_;refine rt ?_;have he:=rD (Dr (It h2) (by omega))
    exact en (.inl rfl) rfl (iW (.cons (.one (.nil (t:=64) (z:=1))) (.cons (dV _) .nil))) (by decide) (fun _=>⟨.inl ⟨rfl,trivial⟩,trivial,trivial⟩) (by rw[he,lW (by rw[he];decide)];rfl)
   omega
  refine rl ?_;refine o1 ?_;refine ca (tH hn) Ii ⟨a1 rfl,a1 rfl,rfl⟩ (.one (tv (.string ⟨(Lib.trimS (aT l).data.toList [48,49,50,51,52,53,54,55,56,57]).toArray⟩))) ?_
  refine o1 ?_;refine WL.cast (t:=20) (u':=.bool (!mH l)) rfl (congrArg Value.bool (congrArg not (wC hl))) ?_;refine o1 ?_;refine nl ?_;refine nP rfl (fun h5=>?_) (fun h5=>?_)
  ·refine sq ?_;refine rl ?_;refine o1 ?_;refine o1 ?_;refine nl ?_;refine rt ?_;have he:=rD (xW (It h5))
   exact en (.inl rfl) rfl (iW (.cons (.one (.nil (t:=64) (z:=1))) (.cons (dV _) .nil))) (by decide) (fun _=>⟨.inl ⟨rfl,trivial⟩,trivial,trivial⟩) (by rw[he,lW (by rw[he];decide)];rfl)
  refine sq ?_;have hg:=Ah h1 (.inr (by omega)) (zH h5)
  have hdg:=tK hg
  refine rl ?_;refine o1 ?_;refine o1 ?_;refine WL.cast (t:=23) (u':=.int .i64 ((l.length:Nat):Int)) rfl (congrArg (fun n:Nat=>Value.int .i64 (n:Int)) (bF _)) ?_
  refine o1 ?_;refine o1 ?_;refine nl ?_;refine cA rfl (fun h6=>?_) (fun h6=>?_)
  ·refine sq ?_;refine rl ?_;refine o1 ?_;refine o1 ?_;refine nl ?_;refine rt ?_;have he:=Jp hg (by omega)
   exact en (.inl rfl) rfl (iW (.cons (.one (.nil (t:=64) (z:=1))) (.cons (dV _) .nil))) (by decide) (fun _=>⟨.inl ⟨rfl,trivial⟩,trivial,trivial⟩) (by rw[he,lW (by rw[he];decide)];rfl)
  refine sk ?_;refine sq ?_;refine rl ?_;refine o1 ?_;refine nl ?_;refine sq ?_;refine sq ?_;refine rl ?_;refine o1 ?_;refine o1 ?_
  refine WL.cast (t:=26) (u':=.int .i64 ((l.length:Nat):Int)) rfl (congrArg (fun n:Nat=>Value.int .i64 (n:Int)) (bF _)) ?_
  refine o1 ?_;refine WL.cast (t:=27) (u':=.int .i64 ((l.length%9:Nat):Int)) rfl (aM (gI _ 9)) ?_;refine o1 ?_;refine nl ?_;refine bl ?_
  refine lp (γ:=Nat×Nat) (fun s=>cD [(0,.one (tv (.string (aT (l.drop s.1))))),(4,.one (.sl 0 0 ((dg 4294967296 (aU (l.take s.1))).length))),(5,.one (tv (.int .i64 ((s.2:Nat):Int))))]) (fun s=>[(⟨64,1,(aG (dg 4294967296 (aU (l.take s.1)))).map .t⟩:Ob)].map some) (fun s=>s.1≤l.length∧(s.1=0∧s.2=l.length%9∨0<s.1∧s.2=9∧(l.length-s.1)%9=0)) (fun s=>l.length-s.1) (0,l.length%9) ⟨Nat.zero_le _,.inl ⟨rfl,rfl⟩⟩ ((nr (i:=4) 0 64 1 rfl rfl rfl rfl).trans (bO h0 [0] _ _ (by decide) ⟨rfl,rfl,rfl,trivial⟩ ⟨bV (l:=[]) rfl,rfl⟩)) ?_
  rintro⟨j,f⟩ ⟨hj,hf⟩;dsimp only at hj hf⊢;refine sq ?_;refine sq ?_;refine rl ?_;refine o1 ?_;refine o1 ?_
  refine WL.cast (t:=29) (u':=.bool (!decide (l.drop j=[]))) rfl (congrArg Value.bool (congrArg not (iY (mW hl j)))) ?_;refine nl ?_
  refine nP rfl (fun h7=>?_) (fun h7=>?_)
  ·refine sk ?_;refine sq ?_;refine bl ?_;refine sq ?_;refine sq ?_;have hjl:=wE h7
   refine rl ?_;refine o1 ?_;refine o1 ?_;refine nl ?_;refine cA rfl (fun h8=>?_) (fun h8=>?_)
   ·refine rl ?_;refine o1 ?_;refine nl ?_;refine sq ?_;refine rl ?_;refine o1 ?_;refine o1 ?_;refine o1 ?_ (hC:=(by rw[bF,List.length_drop];show 9≤l.length-j;omega))
    refine WL.cast (t:=35) (u':=.string (aT ((l.drop j).take 9))) rfl (congrArg Value.string ((lB _ 0 _).trans rfl)) ?_
    refine ca (oG (l:=((l.drop j).take 9)) (kA hdg j 9) (by rw[List.length_take,List.length_drop];omega) (by rw[List.length_take];omega)) xD ⟨a1 rfl,rfl⟩ (.tup [.one (tv (.int .i64 ((aU ((l.drop j).take 9):Nat):Int))),.one (tv .nilIface)]) ?_
    (iterate 5 refine o1 ?_);refine nl ?_;refine sq ?_;have hpl:=kB hdg (j:=j) (f:=9) (by omega) (by omega)
    have hpc:=iF (l:=l) (j:=j) (f:=9) (by omega) (by omega)
    have hl1:=lX hdg hj
    have hl2:=fA (aU (l.take j)) 1000000000
    have hl3:(dg 4294967296 1000000000).length≤1:=aI (by omega) (by decide)
    refine rl ?_;refine o1 ?_
    refine ca (oI (u:=aU (l.take j)) (m:=1000000000) (by omega) (by omega)) sP ⟨dM rfl (.sl rfl rfl (eJ _) (cM _)),a1 rfl,rfl⟩ (.one (.t (sU false (dg 4294967296 (aU (l.take j)*1000000000))))) ?_
    refine o1 ?_;refine o1 ?_;refine WL.cast (t:=42) (u':=.int .u32 ((aU ((l.drop j).take 9):Nat):Int)) rfl (aM (by omega)) ?_
    refine bs 1 ?_
    refine mB 2 (oJ (u:=aU (l.take j)*1000000000) (x:=aU ((l.drop j).take 9)) (by omega) (by omega)) xB ⟨a1 rfl,dM rfl (.sl (trs:=aG [aU ((l.drop j).take 9)]) rfl rfl rfl rfl),rfl⟩ ?_
    refine o1 ?_;refine nl ?_;refine rl ?_;refine o1 ?_;refine o1 ?_;refine o1 ?_ (hC:=(by rw[bF,List.length_drop];show 9≤l.length-j;omega))
    refine WL.cast (t:=47) (u':=.string (aT ((l.drop j).drop 9))) rfl (congrArg Value.string (iX _ _)) ?_;refine o1 ?_;refine nl ?_;refine rl ?_;refine o1 ?_;refine nl ?_
    exact⟨(j+9,9),by dsimp only;omega,⟨by dsimp only;omega,.inr ⟨by dsimp only;omega,rfl,by dsimp only;omega⟩⟩,bO h0 [2] _ _ (by decide) ⟨(congrArg (fun l:List Nat=>some (FV.one (tv (.string (aT l))))) (by rw[List.drop_drop])),(congrArg (fun z:Nat=>some (FV.one (.sl 2 0 (dg 4294967296 z).length))) hpc.symm),rfl,trivial⟩ ⟨bV (congrArg (fun z:Nat=>some (⟨64,1,(aG (dg 4294967296 z)).map .t⟩:Ob)) hpc),rfl⟩⟩
   refine sk ?_;refine sq ?_;refine rl ?_;refine o1 ?_;refine o1 ?_;refine o1 ?_ (hC:=(by rw[bF,List.length_drop];show f≤l.length-j;omega))
   refine WL.cast (t:=35) (u':=.string (aT ((l.drop j).take f))) rfl (congrArg Value.string ((lB _ 0 _).trans rfl)) ?_
   refine ca (oG (l:=((l.drop j).take f)) (kA hdg j f) (by rw[List.length_take,List.length_drop];omega) (by rw[List.length_take];omega)) xD ⟨a1 rfl,rfl⟩ (.tup [.one (tv (.int .i64 ((aU ((l.drop j).take f):Nat):Int))),.one (tv .nilIface)]) ?_
   (iterate 5 refine o1 ?_);refine nl ?_;refine sq ?_;have hpl:=kB hdg (j:=j) (f:=f) (by omega) (by omega)
   have hpc:=iF (l:=l) (j:=j) (f:=f) (by omega) (by omega)
   have hl1:=lX hdg hj
   have hl2:=fA (aU (l.take j)) 1000000000
   have hl3:(dg 4294967296 1000000000).length≤1:=aI (by omega) (by decide)
   refine rl ?_;refine o1 ?_
   refine ca (oI (u:=aU (l.take j)) (m:=1000000000) (by omega) (by omega)) sP ⟨dM rfl (.sl rfl rfl (eJ _) (cM _)),a1 rfl,rfl⟩ (.one (.t (sU false (dg 4294967296 (aU (l.take j)*1000000000))))) ?_
   refine o1 ?_;refine o1 ?_;refine WL.cast (t:=42) (u':=.int .u32 ((aU ((l.drop j).take f):Nat):Int)) rfl (aM (by omega)) ?_
   refine bs 1 ?_
   refine mB 2 (oJ (u:=aU (l.take j)*1000000000) (x:=aU ((l.drop j).take f)) (by omega) (by omega)) xB ⟨a1 rfl,dM rfl (.sl (trs:=aG [aU ((l.drop j).take f)]) rfl rfl rfl rfl),rfl⟩ ?_
   refine o1 ?_;refine nl ?_;refine rl ?_;refine o1 ?_;refine o1 ?_;refine o1 ?_ (hC:=(by rw[bF,List.length_drop];show f≤l.length-j;omega))
   refine WL.cast (t:=47) (u':=.string (aT ((l.drop j).drop f))) rfl (congrArg Value.string (iX _ _)) ?_;refine o1 ?_;refine nl ?_;refine rl ?_;refine o1 ?_;refine nl ?_
   exact⟨(j+f,9),by dsimp only;omega,⟨by dsimp only;omega,.inr ⟨by dsimp only;omega,rfl,by dsimp only;omega⟩⟩,bO h0 [2] _ _ (by decide) ⟨(congrArg (fun l:List Nat=>some (FV.one (tv (.string (aT l))))) (by rw[List.drop_drop])),(congrArg (fun z:Nat=>some (FV.one (.sl 2 0 (dg 4294967296 z).length))) hpc.symm),rfl,trivial⟩ ⟨bV (congrArg (fun z:Nat=>some (⟨64,1,(aG (dg 4294967296 z)).map .t⟩:Ob)) hpc),rfl⟩⟩
  refine ex ?_;refine sq ?_;refine rl ?_;(iterate 3 refine o1 ?_);refine nl ?_;refine rt ?_;have hjl:=wF h7
  have he:=Jq hg (by omega)
  exact en (.inl rfl) rfl (iW (.cons (.one (.sl (trs:=aG (dg 4294967296 (aU (l.take j)))) rfl rfl (gY _) (cM _))) (.cons (dV _) .nil))) (by decide) (fun _=>⟨.inl ⟨rfl,eQ _⟩,trivial,trivial⟩) (by rw[he,Ds he,List.take_of_length_le hjl];rfl)
 (iterate 3 refine iE ?_);refine o1 ?_;refine o1 ?_;refine nl ?_;refine uV rfl ?_;refine rl ?_;refine o1 ?_
 refine ca (tH hn) Ii ⟨a1 rfl,a1 rfl,rfl⟩ (.one (tv (.string ⟨(Lib.trimS (aT l).data.toList [48,49,50,51,52,53,54,55,56,57]).toArray⟩))) ?_;refine o1 ?_
 refine WL.cast (t:=20) (u':=.bool (!mH l)) rfl (congrArg Value.bool (congrArg not (wC hl))) ?_;refine o1 ?_;refine nl ?_;refine nP rfl (fun h9=>?_) (fun h9=>?_)
 ·refine sq ?_;refine rl ?_;refine o1 ?_;refine o1 ?_;refine nl ?_;refine rt ?_;have he:=rD (xW (It h9))
  exact en (.inl rfl) rfl (iW (.cons (.one (.nil (t:=64) (z:=1))) (.cons (dV _) .nil))) (by decide) (fun _=>⟨.inl ⟨rfl,trivial⟩,trivial,trivial⟩) (by rw[he,lW (by rw[he];decide)];rfl)
 refine sq ?_;have hg:=Ah h1 (.inl (zH h2)) (zH h9)
 have hdg:=tK hg
 refine rl ?_;refine o1 ?_;refine o1 ?_;refine WL.cast (t:=23) (u':=.int .i64 ((l.length:Nat):Int)) rfl (congrArg (fun n:Nat=>Value.int .i64 (n:Int)) (bF _)) ?_
 refine o1 ?_;refine o1 ?_;refine nl ?_;refine cA rfl (fun h10=>?_) (fun h10=>?_)
 ·refine sq ?_;refine rl ?_;refine o1 ?_;refine o1 ?_;refine nl ?_;refine rt ?_;have he:=Jp hg (by omega)
  exact en (.inl rfl) rfl (iW (.cons (.one (.nil (t:=64) (z:=1))) (.cons (dV _) .nil))) (by decide) (fun _=>⟨.inl ⟨rfl,trivial⟩,trivial,trivial⟩) (by rw[he,lW (by rw[he];decide)];rfl)
 refine sk ?_;refine sq ?_;refine rl ?_;refine o1 ?_;refine nl ?_;refine sq ?_;refine sq ?_;refine rl ?_;refine o1 ?_;refine o1 ?_
 refine WL.cast (t:=26) (u':=.int .i64 ((l.length:Nat):Int)) rfl (congrArg (fun n:Nat=>Value.int .i64 (n:Int)) (bF _)) ?_
 refine o1 ?_;refine WL.cast (t:=27) (u':=.int .i64 ((l.length%9:Nat):Int)) rfl (aM (gI _ 9)) ?_;refine o1 ?_;refine nl ?_;refine bl ?_
 refine lp (γ:=Nat×Nat) (fun s=>cD [(0,.one (tv (.string (aT (l.drop s.1))))),(4,.one (.sl 0 0 ((dg 4294967296 (aU (l.take s.1))).length))),(5,.one (tv (.int .i64 ((s.2:Nat):Int))))]) (fun s=>[(⟨64,1,(aG (dg 4294967296 (aU (l.take s.1)))).map .t⟩:Ob)].map some) (fun s=>s.1≤l.length∧(s.1=0∧s.2=l.length%9∨0<s.1∧s.2=9∧(l.length-s.1)%9=0)) (fun s=>l.length-s.1) (0,l.length%9) ⟨Nat.zero_le _,.inl ⟨rfl,rfl⟩⟩ ((nr (i:=4) 0 64 1 rfl rfl rfl rfl).trans (bO h0 [0] _ _ (by decide) ⟨rfl,rfl,rfl,trivial⟩ ⟨bV (l:=[]) rfl,rfl⟩)) ?_
 rintro⟨j,f⟩ ⟨hj,hf⟩;dsimp only at hj hf⊢;refine sq ?_;refine sq ?_;refine rl ?_;refine o1 ?_;refine o1 ?_
 refine WL.cast (t:=29) (u':=.bool (!decide (l.drop j=[]))) rfl (congrArg Value.bool (congrArg not (iY (mW hl j)))) ?_;refine nl ?_
 refine nP rfl (fun h11=>?_) (fun h11=>?_)
 ·refine sk ?_;refine sq ?_;refine bl ?_;refine sq ?_;refine sq ?_;have hjl:=wE h11
  refine rl ?_;refine o1 ?_;refine o1 ?_;refine nl ?_;refine cA rfl (fun h12=>?_) (fun h12=>?_)
  ·refine rl ?_;refine o1 ?_;refine nl ?_;refine sq ?_;refine rl ?_;refine o1 ?_;refine o1 ?_;refine o1 ?_ (hC:=(by rw[bF,List.length_drop];show 9≤l.length-j;omega))
   refine WL.cast (t:=35) (u':=.string (aT ((l.drop j).take 9))) rfl (congrArg Value.string ((lB _ 0 _).trans rfl)) ?_
   refine ca (oG (l:=((l.drop j).take 9)) (kA hdg j 9) (by rw[List.length_take,List.length_drop];omega) (by rw[List.length_take];omega)) xD ⟨a1 rfl,rfl⟩ (.tup [.one (tv (.int .i64 ((aU ((l.drop j).take 9):Nat):Int))),.one (tv .nilIface)]) ?_
   (iterate 5 refine o1 ?_);refine nl ?_;refine sq ?_;have hpl:=kB hdg (j:=j) (f:=9) (by omega) (by omega)
   have hpc:=iF (l:=l) (j:=j) (f:=9) (by omega) (by omega)
   have hl1:=lX hdg hj
   have hl2:=fA (aU (l.take j)) 1000000000
   have hl3:(dg 4294967296 1000000000).length≤1:=aI (by omega) (by decide)
   refine rl ?_;refine o1 ?_
   refine ca (oI (u:=aU (l.take j)) (m:=1000000000) (by omega) (by omega)) sP ⟨dM rfl (.sl rfl rfl (eJ _) (cM _)),a1 rfl,rfl⟩ (.one (.t (sU false (dg 4294967296 (aU (l.take j)*1000000000))))) ?_
   refine o1 ?_;refine o1 ?_;refine WL.cast (t:=42) (u':=.int .u32 ((aU ((l.drop j).take 9):Nat):Int)) rfl (aM (by omega)) ?_
   refine bs 1 ?_
   refine mB 2 (oJ (u:=aU (l.take j)*1000000000) (x:=aU ((l.drop j).take 9)) (by omega) (by omega)) xB ⟨a1 rfl,dM rfl (.sl (trs:=aG [aU ((l.drop j).take 9)]) rfl rfl rfl rfl),rfl⟩ ?_
   refine o1 ?_;refine nl ?_;refine rl ?_;refine o1 ?_;refine o1 ?_;refine o1 ?_ (hC:=(by rw[bF,List.length_drop];show 9≤l.length-j;omega))
   refine WL.cast (t:=47) (u':=.string (aT ((l.drop j).drop 9))) rfl (congrArg Value.string (iX _ _)) ?_;refine o1 ?_;refine nl ?_;refine rl ?_;refine o1 ?_;refine nl ?_
   exact⟨(j+9,9),by dsimp only;omega,⟨by dsimp only;omega,.inr ⟨by dsimp only;omega,rfl,by dsimp only;omega⟩⟩,bO h0 [2] _ _ (by decide) ⟨(congrArg (fun l:List Nat=>some (FV.one (tv (.string (aT l))))) (by rw[List.drop_drop])),(congrArg (fun z:Nat=>some (FV.one (.sl 2 0 (dg 4294967296 z).length))) hpc.symm),rfl,trivial⟩ ⟨bV (congrArg (fun z:Nat=>some (⟨64,1,(aG (dg 4294967296 z)).map .t⟩:Ob)) hpc),rfl⟩⟩
  refine sk ?_;refine sq ?_;refine rl ?_;refine o1 ?_;refine o1 ?_;refine o1 ?_ (hC:=(by rw[bF,List.length_drop];show f≤l.length-j;omega))
  refine WL.cast (t:=35) (u':=.string (aT ((l.drop j).take f))) rfl (congrArg Value.string ((lB _ 0 _).trans rfl)) ?_
  refine ca (oG (l:=((l.drop j).take f)) (kA hdg j f) (by rw[List.length_take,List.length_drop];omega) (by rw[List.length_take];omega)) xD ⟨a1 rfl,rfl⟩ (.tup [.one (tv (.int .i64 ((aU ((l.drop j).take f):Nat):Int))),.one (tv .nilIface)]) ?_
  (iterate 5 refine o1 ?_);refine nl ?_;refine sq ?_;have hpl:=kB hdg (j:=j) (f:=f) (by omega) (by omega)
  have hpc:=iF (l:=l) (j:=j) (f:=f) (by omega) (by omega)
  have hl1:=lX hdg hj
  have hl2:=fA (aU (l.take j)) 1000000000
  have hl3:(dg 4294967296 1000000000).length≤1:=aI (by omega) (by decide)
  refine rl ?_;refine o1 ?_
  refine ca (oI (u:=aU (l.take j)) (m:=1000000000) (by omega) (by omega)) sP ⟨dM rfl (.sl rfl rfl (eJ _) (cM _)),a1 rfl,rfl⟩ (.one (.t (sU false (dg 4294967296 (aU (l.take j)*1000000000))))) ?_
  refine o1 ?_;refine o1 ?_;refine WL.cast (t:=42) (u':=.int .u32 ((aU ((l.drop j).take f):Nat):Int)) rfl (aM (by omega)) ?_
  refine bs 1 ?_
  refine mB 2 (oJ (u:=aU (l.take j)*1000000000) (x:=aU ((l.drop j).take f)) (by omega) (by omega)) xB ⟨a1 rfl,dM rfl (.sl (trs:=aG [aU ((l.drop j).take f)]) rfl rfl rfl rfl),rfl⟩ ?_
  refine o1 ?_;refine nl ?_;refine rl ?_;refine o1 ?_;refine o1 ?_;refine o1 ?_ (hC:=(by rw[bF,List.length_drop];show f≤l.length-j;omega))
  refine WL.cast (t:=47) (u':=.string (aT ((l.drop j).drop f))) rfl (congrArg Value.string (iX _ _)) ?_;refine o1 ?_;refine nl ?_;refine rl ?_;refine o1 ?_;refine nl ?_
  exact⟨(j+f,9),by dsimp only;omega,⟨by dsimp only;omega,.inr ⟨by dsimp only;omega,rfl,by dsimp only;omega⟩⟩,bO h0 [2] _ _ (by decide) ⟨(congrArg (fun l:List Nat=>some (FV.one (tv (.string (aT l))))) (by rw[List.drop_drop])),(congrArg (fun z:Nat=>some (FV.one (.sl 2 0 (dg 4294967296 z).length))) hpc.symm),rfl,trivial⟩ ⟨bV (congrArg (fun z:Nat=>some (⟨64,1,(aG (dg 4294967296 z)).map .t⟩:Ob)) hpc),rfl⟩⟩
 refine ex ?_;refine sq ?_;refine rl ?_;(iterate 3 refine o1 ?_);refine nl ?_;refine rt ?_;have hjl:=wF h11
 have he:=Jq hg (by omega)
 exact en (.inl rfl) rfl (iW (.cons (.one (.sl (trs:=aG (dg 4294967296 (aU (l.take j)))) rfl rfl (gY _) (cM _))) (.cons (dV _) .nil))) (by decide) (fun _=>⟨.inl ⟨rfl,eQ _⟩,trivial,trivial⟩) (by rw[he,Ds he,List.take_of_length_le hjl];rfl)
theorem Lp:CallOk Tryd.prog 110:=.mk Tryd.func110 (by decide) rfl
theorem pN {l R:List Nat}{c:Nat}(hl:Lim 256 l) (hR:l.dropWhile (· ==c)=R):aP true Tryd.prog 110 [] [.one (tv (.string (aT l))),.one (tv (.int .u8 ((c:Nat):Int)))] (bI (.one (tv (.string (aT R))))):=by
 refine eH Tryd.func110 rfl Tryd.ntmps110 rfl aW rfl fun N9 w9 c0 h0=>?_
 refine sq ?_;refine rl ?_;refine o1 ?_;refine nl ?_;refine sq ?_;refine bl ?_
 refine lp (γ:=List Nat) (fun l=>cD [(0,.one (tv (.string (aT l)))),(1,.one (tv (.int .u8 ((c:Nat):Int))))]) (fun _=>([]:List Ob).map some) (fun l=>Lim 256 l∧l.dropWhile (· ==c)=R) (fun l=>l.length) l ⟨hl,hR⟩ (bO h0 [] _ _ (by decide) ⟨rfl,rfl,trivial⟩ rfl) fun k hk=>?_
 refine sq ?_;refine sq ?_;refine rl ?_;refine o1 ?_;refine o1 ?_
 refine WL.cast (t:=6) (u':=.int .i64 ((k.length:Nat):Int)) rfl (congrArg (fun n:Nat=>Value.int .i64 (n:Int)) (bF _)) ?_
 refine o1 ?_;refine o1 ?_;refine WL.split (t:=8) rfl (fun h1=>?_) (fun h1=>?_)
 ·refine o1 ?_;refine o1 ?_ (hC:=(by rw[bF];show 0<k.length;omega))
  refine WL.cast (t:=10) (u':=.int .u8 (((nth k 0):Nat):Int)) rfl (congrArg (fun n:Nat=>Value.int .u8 (n:Int)) (lS (i:=0) (by omega) (vQ (k:=0) hk.1 (by omega)))) ?_
  (iterate 3 refine o1 ?_);refine nl ?_;refine cA rfl (fun h2=>?_) (fun h2=>?_)
  ·refine sk ?_;refine bl ?_;refine rl ?_;refine o1 ?_;refine o1 ?_ (hC:=(by rw[bF];show 1≤k.length;omega))
   refine WL.cast (t:=15) (u':=.string (aT (k.drop 1))) rfl (congrArg Value.string (iX _ _)) ?_;refine o1 ?_;refine nl ?_
   exact⟨k.drop 1,by rw[List.length_drop];omega,⟨mW hk.1 1,(zI (by omega) (by omega)).trans hk.2⟩,bO h0 [] _ _ (by decide) ⟨rfl,rfl,trivial⟩ rfl⟩
  refine ex ?_;refine sq ?_;refine rl ?_;refine o1 ?_;refine o1 ?_;refine nl ?_;refine rt ?_
  exact en (.inl rfl) rfl (eY (dV _)) (by decide) (fun _=>trivial) (congrArg (fun z=>FV.one (tv (.string z))) (congrArg aT ((xL (by omega) (by omega)).trans hk.2)))
 (iterate 4 refine iE ?_);refine o1 ?_;refine nl ?_;refine uV rfl ?_;refine ex ?_;refine sq ?_;refine rl ?_;refine o1 ?_;refine o1 ?_;refine nl ?_;refine rt ?_
 exact en (.inl rfl) rfl (eY (dV _)) (by decide) (fun _=>trivial) (congrArg (fun z=>FV.one (tv (.string z))) (congrArg aT ((xK (by omega)).trans hk.2)))
theorem xX {l:List Nat}(hl:Lim 256 l):aP true Tryd.prog 89 [] [.one (tv (.string (aT l))),.one (tv (.string ⟨#[48]⟩))] (bI (.one (tv (.string (aT (l.dropWhile (· ==48))))))):=by
 refine eH Tryd.func89 rfl Tryd.ntmps89 rfl aW rfl fun N9 w9 c0 h0=>?_
 refine sq ?_;refine rl ?_;refine o1 ?_;refine nl ?_;refine sq ?_;refine sq ?_;refine rl ?_;refine o1 ?_;refine o1 ?_
 refine WL.cast (t:=8) (u':=.bool (decide (l=[]))) rfl (congrArg Value.bool (iY hl)) ?_;refine o1 ?_;refine WL.splitb (t:=9) rfl (fun h1=>?_) (fun h1=>?_)
 ·refine iE ?_;refine iE ?_;refine o1 ?_;refine nl ?_;refine rZ rfl ?_;refine sq ?_;refine rl ?_;refine o1 ?_;refine o1 ?_;refine nl ?_;refine rt ?_
  exact en (.inl rfl) rfl (eY (dV _)) (by decide) (fun _=>trivial) (congrArg (fun z=>FV.one (tv (.string z))) (congrArg aT (by rw[of_decide_eq_true h1];rfl)))
 refine o1 ?_;refine o1 ?_;refine WL.cast (t:=11) (u':=.bool false) rfl (congrArg Value.bool (iY (l:=[48]) (Lim.cons (by omega) Lim.nil))) ?_
 refine o1 ?_;refine nl ?_;refine uV rfl ?_;refine sk ?_;refine sq ?_;refine sq ?_;refine rl ?_;(iterate 3 refine o1 ?_)
 refine WL.cast (t:=16) (u':=.bool true) rfl (congrArg Value.bool rfl) ?_;refine o1 ?_;refine o1 ?_;refine o1 ?_ (hC:=(by decide))
 refine o1 ?_;refine WL.cast (t:=20) (u':=.bool true) rfl (congrArg Value.bool rfl) ?_;refine o1 ?_;refine nl ?_;refine rZ rfl ?_;refine sq ?_;refine rl ?_;refine o1 ?_;refine o1 ?_
 refine o1 ?_ (hC:=(by decide))
 refine WL.cast (t:=24) (u':=.int .u8 ((48:Nat):Int)) rfl rfl ?_
 refine ca (pN (c:=48) hl rfl) Lp ⟨a1 rfl,a1 rfl,rfl⟩ (.one (tv (.string (aT (l.dropWhile (· ==48)))))) ?_;refine o1 ?_;refine nl ?_;refine rt ?_
 exact en (.inl rfl) rfl (eY (dV _)) (by decide) (fun _=>trivial) (congrArg (fun z=>FV.one (tv (.string z))) (rfl))
theorem Aj {t n:Nat}{xs:List Nat}(hn:xs.length=n) (hn2:n≤100000000):aP false Tryd.prog 88 [⟨t,1,(aV xs).map .t⟩] [.one (.sl 0 0 n)] (Rt [⟨t,1,(aV xs.reverse).map .t⟩] (.tup [])):=by
 subst hn;refine Mg Tryd.func88 rfl Tryd.ntmps88 rfl aW rfl fun N9 M9 w9 c0 h0=>?_
 refine sq ?_;refine rl ?_;(iterate 5 refine o1 ?_);refine nl ?_;refine bl ?_
 refine lp (γ:=Nat) (fun k=>cD [(0,.one (.sl 0 0 xs.length)),(2,.one (tv (.int .i64 ((k:Nat):Int)))),(3,.one (tv (.int .i64 ((xs.length:Int)-1-(k:Int):Int))))]) (fun k=>[(⟨t,1,(aV (cO xs k)).map .t⟩:Ob)].map some) (fun k=>2*k≤xs.length+1) (fun k=>xs.length-k) 0 (by omega) (zC h0 [0] _ _ (by decide) rfl ⟨rfl,rfl,qM (by omega),trivial⟩ ⟨bV (congrArg (fun l=>some (⟨t,1,(aV l).map .t⟩:Ob)) (Le xs)),rfl⟩) fun k hk=>?_
 have hrl:=eB xs k
 refine sq ?_;refine sq ?_;refine rl ?_;(iterate 3 refine o1 ?_);refine nl ?_;refine cA rfl (fun h1=>?_) (fun h1=>?_)
 ·refine sk ?_;refine sq ?_;refine bl ?_;refine rd [] (fun i=>[15].contains i) mixed ?_
  refine dv 0 ?_;refine dv 1 ?_;refine dv 2 ?_;refine dv 3 ?_;refine WD.cast (t:=17) (u':=.int .i64 (((xs.length-1-k):Nat):Int)) rfl (aM (by omega)) ?_
  refine dv 4 ?_;refine dv 5 ?_;refine WD.cast (t:=19) (u':=.int .i64 (((xs.length-1-k):Nat):Int)) rfl (aM (by omega)) ?_
  refine dv 6 ?_;refine dv 8 ?_;refine dv 9 ?_;refine dv 10 ?_;refine WO.two (i:=7) (j:=11) (by kernel_rfl) ?_ ?_
  ·refine xI 7 (rA (cO xs k) (k:=(xs.length-1-k)) (by omega)) ?_
   refine WO.one (by kernel_rfl) (xI 11 (rA (cO xs k) (k:=k) (by omega)) ?_)
   refine dv 12 ?_;refine Dm 13 (lC (cO xs k) (k:=k) (v:=nth (cO xs k) ((xs.length-1-k))) (by omega)) (nV (cO xs k) (by omega)) ?_
   refine dv 14 ?_
   refine xE 15 (lC ((cO xs k).set (k) (nth (cO xs k) ((xs.length-1-k)))) (k:=(xs.length-1-k)) (v:=nth (cO xs k) (k)) (by simp only[List.length_set];omega)) (nV ((cO xs k).set (k) (nth (cO xs k) ((xs.length-1-k)))) (by simp only[List.length_set];omega)) ?_
   refine yU ?_;refine rl ?_;refine o1 ?_;refine o1 ?_;refine WL.cast (t:=11) (u':=.int .i64 ((k+1:Nat):Int)) rfl (aM (by omega)) ?_
   (iterate 4 refine o1 ?_);refine nl ?_
   exact⟨k+1,by omega,by omega,zC h0 [0] _ _ (by decide) rfl ⟨rfl,rfl,qM (by omega),trivial⟩ ⟨bV (congrArg (fun l=>some (⟨t,1,(aV l).map .t⟩:Ob)) (Dn (by omega))),rfl⟩⟩
  refine xI 11 (rA (cO xs k) (k:=k) (by omega)) ?_
  refine WO.one (by kernel_rfl) (xI 7 (rA (cO xs k) (k:=(xs.length-1-k)) (by omega)) ?_)
  refine dv 12 ?_;refine Dm 13 (lC (cO xs k) (k:=k) (v:=nth (cO xs k) ((xs.length-1-k))) (by omega)) (nV (cO xs k) (by omega)) ?_
  refine dv 14 ?_
  refine xE 15 (lC ((cO xs k).set (k) (nth (cO xs k) ((xs.length-1-k)))) (k:=(xs.length-1-k)) (v:=nth (cO xs k) (k)) (by simp only[List.length_set];omega)) (nV ((cO xs k).set (k) (nth (cO xs k) ((xs.length-1-k)))) (by simp only[List.length_set];omega)) ?_
  refine yU ?_;refine rl ?_;refine o1 ?_;refine o1 ?_;refine WL.cast (t:=11) (u':=.int .i64 ((k+1:Nat):Int)) rfl (aM (by omega)) ?_
  (iterate 4 refine o1 ?_);refine nl ?_
  exact⟨k+1,by omega,by omega,zC h0 [0] _ _ (by decide) rfl ⟨rfl,rfl,qM (by omega),trivial⟩ ⟨bV (congrArg (fun l=>some (⟨t,1,(aV l).map .t⟩:Ob)) (Dn (by omega))),rfl⟩⟩
 refine ex ?_
 exact Mh (lent':=[⟨t,1,(aV xs.reverse).map .t⟩]) (.inr rfl) rfl Mi (by decide) (fun _ h=>by cases h) ⟨⟨rfl,rfl⟩,trivial⟩ ⟨congrArg (fun l=>some (⟨t,1,(aV l).map .t⟩:Ob)) (Ez (by omega)),trivial⟩ ⟨sM _,trivial⟩ (fun h=>by cases h) ⟨rfl,rfl⟩
theorem Lq {xs:List Nat}{v:Nat}(hx:xs.length≤1000000) (hl:Lim 4294967296 xs) (hv0:vl 4294967296 xs=v):aP true Tryd.prog 46 [] [.one (.t (sU false xs))] (bI (.one (tv (.string (aT (tx v)))))):=by
 refine eH Tryd.func46 rfl Tryd.ntmps46 rfl aW rfl fun N9 w9 c0 h0=>?_
 have hvL:v<4294967296^xs.length:=hv0▸dE hl
 have hvl:=aI (k:=xs.length) (by omega) hvL
 refine sq ?_;refine rl ?_;refine o1 ?_;refine nl ?_;refine sq ?_;refine rl ?_;refine Oo 0 ?_;refine nl ?_;refine sq ?_;refine rl ?_;refine o1 ?_;refine nl ?_;refine sq ?_;refine sq ?_
 refine rl ?_;refine o1 ?_;refine ca (wB hl (by omega) hv0) If ⟨a1 rfl,rfl⟩ (.one (.t (sU false (dg 4294967296 v)))) ?_
 refine o1 ?_;refine nl ?_;refine bl ?_
 refine lp (γ:=(List Nat×List Nat)×Nat) (fun s=>cD [(0,.one (.t (sU false (dg 4294967296 s.2)))),(3,.one (.pt 0 0)),(4,.one (.sl 1 0 s.1.1.length))]) (fun s=>[(⟨111,1,(aV s.1.2).map .t⟩:Ob),⟨5,1,(aV (bN s.1.1)).map .t⟩].map some) (fun s=>s.1.2.length=9∧Lim 10 s.1.1∧vl 10 s.1.1+10^s.1.1.length*s.2=v∧s.2≤v∧s.1.1.length≤10*xs.length+9) (fun s=>s.2) (([],List.replicate 9 0),v) ⟨rfl,Lim.nil,(by simp[vl]),Nat.le_refl _,Nat.zero_le _⟩ ((nr (i:=4) 1 5 1 rfl rfl rfl rfl).trans (bO h0 [0,1] _ _ (by decide) ⟨rfl,rfl,rfl,trivial⟩ ⟨bV rfl,bV (l:=[]) rfl,rfl⟩)) ?_
 rintro⟨⟨ds,kZ⟩,u⟩ ⟨ho,hd,hv,hu,hdl⟩;dsimp only at ho hd hv hu hdl⊢;have hul:=qP hu
 refine sq ?_;refine sq ?_;refine rl ?_;(iterate 3 refine o1 ?_);refine nl ?_;refine cA rfl (fun h1=>?_) (fun h1=>?_)
 ·refine sk ?_;refine bl ?_;refine sq ?_;have hup:=nW (B:=4294967296) (u:=u) (by omega)
  refine rl ?_;refine o1 ?_
  refine ca (Jo (u:=u) (d:=1000000000) (by omega) (by omega) (by omega)) Nt ⟨a1 rfl,a1 rfl,rfl⟩ (.tup [.one (.t (sU false (dg 4294967296 (u/1000000000)))),.one (tv (.int .u32 ((u%1000000000:Nat):Int))),.one (tv (.int .i64 0))]) ?_
  (iterate 7 refine o1 ?_);refine nl ?_;refine sq ?_;refine sq ?_;refine rl ?_;refine o1 ?_;refine nl ?_;refine bl ?_
  refine lp (γ:=Nat) (fun i=>cD [(3,.one (.pt 0 0)),(4,.one (.sl 1 0 ds.length)),(5,.one (.t (sU false (dg 4294967296 (u/1000000000))))),(6,.one (tv (.int .u32 ((u%1000000000/10^i:Nat):Int)))),(21,.one (tv (.int .i64 ((i:Nat):Int))))]) (fun i=>[(⟨111,1,(aV (bN (fd (i) (u%1000000000))++kZ.drop (i))).map .t⟩:Ob),⟨5,1,(aV (bN ds)).map .t⟩].map some) (fun i=>i≤9) (fun i=>9-i) 0 (Nat.zero_le _) (bO h0 [0,1] _ _ (by decide) ⟨rfl,rfl,rfl,qM (by rw[Nat.pow_zero,Nat.div_one]),rfl,trivial⟩ ⟨bV rfl,bV rfl,rfl⟩) fun i hi=>?_
  have hlen:(bN (fd (i) (u%1000000000))++kZ.drop (i)).length=9:=by rw[List.length_append,eC,fT,List.length_drop];omega
  have hdi:u%1000000000/10^i≤u%1000000000:=Nat.div_le_self _ _
  refine sq ?_;refine rl ?_;refine o1 ?_;refine nl ?_;refine sq ?_;refine cA rfl (fun h2=>?_) (fun h2=>?_)
  ·refine sk ?_;refine sq ?_;refine bl ?_;refine sq ?_;refine rl ?_;refine o1 ?_;refine o1 ?_;refine nl ?_;refine sq ?_;refine rl ?_;(iterate 3 refine o1 ?_)
   refine WL.cast (t:=26) (u':=.int .u32 (((u%1000000000/10^i%10):Nat):Int)) rfl (aM (gI _ 10)) ?_;refine o1 ?_
   refine WL.cast (t:=27) (u':=.int .u8 (((u%1000000000/10^i%10):Nat):Int)) rfl (aM (by omega)) ?_
   refine o1 ?_;refine WL.cast (t:=28) (u':=.int .u8 (((48+u%1000000000/10^i%10):Nat):Int)) rfl (aM (by omega)) ?_
   refine o1 ?_
   refine Mj (lC (bN (fd (i) (u%1000000000))++kZ.drop (i)) (k:=i) (v:=48+u%1000000000/10^i%10) (by omega)) (nV (bN (fd (i) (u%1000000000))++kZ.drop (i)) (by omega)) ?_
   refine nl ?_;refine rl ?_;refine o1 ?_;refine o1 ?_ (hC:=(lE 10 (by omega) (Lj (Nat.lt_of_le_of_lt hdi (by omega)))))
   refine WL.cast (t:=31) (u':=.int .u32 (((u%1000000000/10^i/10):Nat):Int)) rfl (aM (gJ _ 10)) ?_;refine o1 ?_;refine nl ?_;refine rl ?_;refine o1 ?_
   refine WL.cast (t:=32) (u':=.int .i64 ((i+1:Nat):Int)) rfl (aM (by omega)) ?_
   refine o1 ?_;refine nl ?_
   exact⟨i+1,by omega,by omega,bO h0 [0,1] _ _ (by decide) ⟨rfl,rfl,rfl,qM (by rw[Nat.pow_succ,Nat.div_div_eq_div_mul]),rfl,trivial⟩ ⟨bV (congrArg (fun l=>some (⟨111,1,(aV l).map .t⟩:Ob)) (Iw (by omega) ho)),bV rfl,rfl⟩⟩
  refine ex ?_;have hi9:i=9:=by omega
  subst hi9;have he9:(bN (fd (9) (u%1000000000))++kZ.drop (9))=bN (fd 9 (u%1000000000)):=by rw[List.drop_of_length_le (by omega),List.append_nil]
  refine sq ?_;refine rl ?_;refine o1 ?_
  refine Lc (m:=9) (by_:=1) 2 (DstA.sl (k:=1) (n:=ds.length) (e:=5) (z:=1) rfl (by rw[xJ,eC])) (xH _) (vP _) (by rw[xJ,hlen]) (by omega) (by omega) ?_
  refine o1 ?_;refine nl ?_;refine rl ?_;refine o1 ?_;refine o1 ?_;refine nl ?_
  exact⟨((ds++fd 9 (u%1000000000),bN (fd 9 (u%1000000000))),u/1000000000),by dsimp only;omega,⟨by dsimp only;rw[eC,fT],hd.append (Iv _ _),Li hv,by dsimp only;omega,by dsimp only;rw[List.length_append,fT];have:=Fa hv hup hvL;omega⟩,bO h0 [0,2] _ _ (by decide) ⟨rfl,rfl,congrArg (fun n=>some (FV.one (.sl 2 0 n))) (show(ds++fd 9 (u%1000000000)).length=ds.length+9 by rw[List.length_append,fT]),trivial⟩ ⟨bV (congrArg (fun l=>some (⟨111,1,(aV l).map .t⟩:Ob)) he9),bV (congrArg (fun l=>some (⟨5,1,l⟩:Ob)) ((lD _ _).trans (congrArg (fun l:List Nat=>(aV l).map AV.t) (show bN ds++(bN (fd (9) (u%1000000000))++kZ.drop (9))=bN (ds++fd 9 (u%1000000000)) by rw[he9,vS])))),rfl⟩⟩
 refine ex ?_;refine sq ?_;have hu0:u=0:=(cC (B:=4294967296) (by omega)).1 (List.eq_nil_of_length_eq_zero (by omega))
 subst hu0;rw[Nat.mul_zero,Nat.add_zero]at hv;refine rl ?_;refine o1 ?_
 refine cl 2 [1] (Aj (t:=5) (xs:=bN ds) (n:=ds.length) (eC ds) (by omega)) Nw ⟨bV rfl,rfl⟩ ⟨rfl,rfl⟩ (ok:=[some ⟨5,1,(aV (bN ds).reverse).map .t⟩]) ⟨bV rfl,rfl⟩ ?_
 refine nl ?_;refine sq ?_;refine sq ?_;refine rl ?_;refine o1 ?_
 refine Oq (xs:=(bN ds).reverse) (Iz rfl (by rw[List.length_reverse,eC])) (by rw[List.length_reverse,eC]) ?_
 refine ca (xX (vR (vT hd))) Nx ⟨a1 rfl,a1 rfl,rfl⟩ (.one (tv (.string (aT ((bN ds).reverse.dropWhile (· ==48)))))) ?_;refine o1 ?_;refine nl ?_;refine sq ?_
 refine rl ?_;refine o1 ?_;refine o1 ?_
 refine WL.cast (t:=43) (u':=.bool (!decide (((bN ds).reverse.dropWhile (· ==48))=[]))) rfl (congrArg Value.bool (congrArg not (iY (Ix (vR (vT hd)))))) ?_;refine nl ?_
 refine nP rfl (fun h3=>?_) (fun h3=>?_)
 ·refine sq ?_;refine rl ?_;refine o1 ?_;refine o1 ?_;refine nl ?_;refine rt ?_
  exact en (.inl rfl) rfl (eY (dV _)) (by decide) (fun _=>trivial) (congrArg (fun z=>FV.one (tv (.string z))) (congrArg aT (Fb hd hv h3)))
 refine sk ?_;refine sq ?_;refine rl ?_;refine o1 ?_;refine nl ?_;refine rt ?_
 exact en (.inl rfl) rfl (eY (dV _)) (by decide) (fun _=>trivial) (congrArg (fun z=>FV.one (tv (.string z))) (congrArg aT (Iy hd hv h3)))
def eK (xs:List Nat) (k:Nat):List Nat:=List.replicate k 77++xs.drop k
theorem Ck {xs:List Nat}{k:Nat}(h:k≤xs.length):(eK xs k).length=xs.length:=by simp[eK];omega
theorem Cl {xs:List Nat}{k:Nat}(h:k<xs.length):(eK xs k).set k 77=eK xs (k+1):=by
 unfold eK
 rw[List.set_append_right _ _ (by simp),List.length_replicate,Nat.sub_self,List.drop_eq_getElem_cons h,List.set_cons_zero,List.replicate_succ',List.append_assoc]
 rfl
theorem Cm {xs:List Nat}{k:Nat}(h:xs.length≤k) (h':k≤xs.length):eK xs k=List.replicate xs.length 77:=by
 have:k=xs.length:=by omega
 simp[eK,this]
end Go.Proofs.YteggpgndiajdpaaDoor
