/- Part 6 of a proof: Nat6 to S4. -/
import Derived.Test.YteggpgndiajdpaaDoorM5
import Derived.Deep.LoopGhost
import Derived.Deep.Cut
import Derived.Deep.CutRange
import Derived.Deep.DeepCutAuto
import Derived.Test.YteggpgndiajdpaaDoorM1
import Derived.KernelRfl
import Derived.Test.YteggpgndiajdpaaDoorProg
import Derived.Test.YteggpgndiajdpaaDoorM4
import Derived.Shelf.Strings.Trim
import Derived.Shelf.Strings.SlTrimAscii
set_option maxRecDepth 100000
set_option linter.unusedVariables false
set_option linter.unusedSimpArgs false
namespace Go.Proofs.YteggpgndiajdpaaDoor
open Go Go.RowKit
theorem Fo {P:Program}{f:FuncId}{args:Array Value}{w:World}{n:Nat}{v:Value}
  (h:Calls P f args (w.drewN n) fun e w'=>e=.returned v∧∃m,w'=(w.drewN n).drewN m):
  Calls P f args (w.drewN n) fun e w''=>e=.returned v∧∃m,w''=w.drewN m:=
 h.mono fun _ _ ⟨he,m,hm⟩=>⟨he,n+m,by rw[hm,World.drewN_drewN]⟩
theorem oE (A:Option Addr) (n c up R:Nat) (xs:List Nat) (w:World) (ha:U32 w w.heap.size A n c xs) (hv:vl 4294967296 xs=R*2^up) (hn:n≤1099511627775) (hup:up<32):
  Calls Tryd.prog 78 #[.slice A n c,.int .i64 (-(up:Int))] w (nY (dg 4294967296 R) 0 w):=by
 have hP:0<2^up:=Nat.pos_of_ne_zero (by simp)
 rcases Nat.eq_zero_or_pos R with h0 | h0
 ·subst h0
  exact nZ A n c _ xs w ha (by rw[hv,Nat.zero_mul])
 have hne:R*2^up≠0:=Nat.pos_iff_ne_zero.1 (Nat.mul_pos h0 hP)
 rcases Nat.eq_zero_or_pos up with h1 | h1
 ·subst h1
  rw[show(-((0:Nat):Int))=((0:Nat):Int) from rfl]
  have:=gB A n c 0 R xs w ha (by rw[hv];simp) hn (by omega) (by omega)
  simpa using this
 have:=oB A n c up (R*2^up) xs w ha hv hn h1 hup hne
 rwa[Nat.mul_div_cancel _ hP]at this
theorem Ji (w:World) (v:Nat):Rd (w.alloc (.cells #[.int .u32 (v:Int)] 64)) (w.heap.size+1) 1 (some ⟨w.heap.size,0,none⟩) 1 1 (cH [v]):=by
 refine⟨rfl,Nat.le_refl _,by omega,fun _=>⟨_,rfl,by simp,fun k u hu=>?_⟩⟩
 have hk:k=0:=by
  rcases Nat.eq_zero_or_pos k with h | h
  ·exact h
  rw[List.getElem?_eq_none (by rw[dN];exact h)]at hu;cases hu
 subst hk
 rw[show(⟨w.heap.size,0,none⟩:Addr).add 0=⟨w.heap.size,0,none⟩ from rfl,jG _ _ _ 0 rfl]
 exact hu
theorem zX {ys:List Nat}{lb up:Nat}(hy:Lim 4294967296 ys) (hl:ys.length=lb) (h2:2≤lb) (hup:up<32) (u2:2147483648≤nth ys (lb-1)*2^up) (u3:nth ys (lb-1)*2^up<4294967296):
  (dg 4294967296 (vl 4294967296 ys*2^up)).length=lb∧2147483648≤nth (dg 4294967296 (vl 4294967296 ys*2^up)) (lb-1)∧0<vl 4294967296 ys∧4294967296^(lb-1)≤vl 4294967296 ys*2^up:=by
 have e:=aG 4294967296 ys (lb-1)
 rw[show lb-1+1=lb by omega,aN 4294967296 (l:=ys) (by omega)]at e
 have hlow:=cW (hy.take (lb-1))
 rw[List.length_take,Nat.min_eq_left (by omega)]at hlow
 have hB:0<4294967296^(lb-1):=Nat.pos_of_ne_zero (by simp)
 have hP:0<2^up:=Nat.pos_of_ne_zero (by simp)
 have hpow:2^up*2^(32-up)=4294967296:=by rw[←Nat.pow_add,show up+(32-up)=32 by omega]
 have htop:(nth ys (lb-1)+1)*2^up≤4294967296:=by
  rw[←hpow]at u3⊢
  rw[Nat.mul_comm]at u3
  have:=Nat.lt_of_mul_lt_mul_left u3
  rw[Nat.mul_comm]
  exact Nat.mul_le_mul_left _ this
 have hge:2147483648*4294967296^(lb-1)≤vl 4294967296 ys*2^up:=by
  rw[e,Nat.add_mul]
  have:2147483648*4294967296^(lb-1)≤nth ys (lb-1)*2^up*4294967296^(lb-1):=Nat.mul_le_mul_right _ u2
  have e2:nth ys (lb-1)*2^up*4294967296^(lb-1)=4294967296^(lb-1)*nth ys (lb-1)*2^up:=by
   rw[Nat.mul_assoc,Nat.mul_comm (2^up),←Nat.mul_assoc,Nat.mul_comm (nth ys (lb-1))]
  omega
 have hlt:vl 4294967296 ys*2^up<4294967296^lb:=by
  have h1:vl 4294967296 ys<(nth ys (lb-1)+1)*4294967296^(lb-1):=by rw[Nat.succ_mul,Nat.mul_comm (nth ys (lb-1)),e];omega
  have h2:=Nat.mul_lt_mul_of_pos_right h1 hP
  have h3:(nth ys (lb-1)+1)*4294967296^(lb-1)*2^up=(nth ys (lb-1)+1)*2^up*4294967296^(lb-1):=by
   rw[Nat.mul_assoc,Nat.mul_comm (4294967296^(lb-1)),←Nat.mul_assoc]
  have h4:(nth ys (lb-1)+1)*2^up*4294967296^(lb-1)≤4294967296*4294967296^(lb-1):=Nat.mul_le_mul_right _ htop
  have h5:4294967296^lb=4294967296*4294967296^(lb-1):=by rw[←Nat.pow_succ',show(lb-1).succ=lb by omega]
  omega
 have hpos:0<vl 4294967296 ys:=by
  rcases Nat.eq_zero_or_pos (vl 4294967296 ys)with h | h
  ·rw[h]at hge;omega
  exact h
 generalize vl 4294967296 ys*2^up=v at*
 have hlen:(dg 4294967296 v).length=lb:=by
  have h1:=aM (B:=4294967296) (by omega) hlt
  have h2:=fL (B:=4294967296) (n:=v) (by omega)
  rcases Nat.lt_or_ge (dg 4294967296 v).length lb with h | h
  ·have:4294967296^(dg 4294967296 v).length≤4294967296^(lb-1):=Nat.pow_le_pow_right (by omega) (by omega)
   omega
  omega
 refine⟨hlen,?_,hpos,by omega⟩
 have e3:=aG 4294967296 (dg 4294967296 v) (lb-1)
 rw[show lb-1+1=lb by omega,aN 4294967296 (l:=dg 4294967296 v) (by omega),bK (by omega)]at e3
 have h6:=cW ((bH (B:=4294967296) (by omega) v).take (lb-1))
 rw[List.length_take,Nat.min_eq_left (by omega)]at h6
 rcases Nat.lt_or_ge (nth (dg 4294967296 v) (lb-1)) 2147483648 with h | h
 ·exfalso
  have h7:4294967296^(lb-1)*nth (dg 4294967296 v) (lb-1)≤4294967296^(lb-1)*2147483647:=Nat.mul_le_mul_left _ (by omega)
  omega
 exact h
set_option maxHeartbeats 4000000 in
theorem oF (A B:Option Addr) (n m c d:Nat) (xs ys:List Nat) (w:World) (ha:U32 w w.heap.size A n c xs) (hb:U32 w w.heap.size B m d ys) (hn:n≤549755813888) (hm:m≤549755813888) (hle:vl 4294967296 ys≤vl 4294967296 xs) (h2:2≤(trim ys).length):
    Calls Tryd.prog 40 #[.slice A n c,.slice B m d] w (oC (dg 4294967296 (vl 4294967296 xs/vl 4294967296 ys)) (dg 4294967296 (vl 4294967296 xs%vl 4294967296 ys)) 0 w):=by
  have hge:¬gY (vl 4294967296 (trim xs)) (vl 4294967296 (trim ys))<0:=by
    rw[bL,bL]
    rcases Nat.lt_or_ge (vl 4294967296 ys) (vl 4294967296 xs)with h | h
    · rw[gI h];omega
    rw[pH (by omega)];omega
  have htl:=bN xs
  have hty:=bN ys
  rw[ha.len]at htl
  rw[hb.len]at hty
  obtain⟨la,hla⟩:∃la,(trim xs).length=la:=⟨_,rfl⟩
  obtain⟨lb,hlb⟩:∃lb,(trim ys).length=lb:=⟨_,rfl⟩
  rw[hla]at htl
  rw[hlb]at hty h2
  have hlast:nth (trim ys) (lb-1)≠0:=by
    have h:=hJ (hH ys) (by intro e;rw[e]at hlb;simp at hlb;omega)
    rw[List.getLast_eq_getElem]at h
    rw[aS (by omega)]
    simpa[hlb]using h
  have hlim:=hb.lim.trim.nth (by omega) (lb-1)
  obtain⟨up,u1,u2,u3,hlz⟩:∃up:Nat,up<32∧2147483648≤nth (trim ys) (lb-1)*2^up∧nth (trim ys) (lb-1)*2^up<4294967296∧
      ∀w:World,Calls Tryd.prog 77 #[.int .u32 (nth (trim ys) (lb-1):Int)] w fun e w'=>e=.returned (.int .i64 (up:Int))∧w=w':=by
    obtain⟨k,e,k1,k2,k3⟩:=qM hlim hlast
    refine⟨k,k1,k2,k3,fun w=>(Any.bits_LeadingZeros32 zW _ w (by omega) (by omega)).mono fun _ _ ⟨h1,h2⟩=>⟨?_,h2.symm⟩⟩
    rw[h1,←e]
    rfl
  obtain⟨n1,n2,n3,n4⟩:=zX hb.lim.trim hlb h2 u1 u2 u3
  rw[bL]at n1 n2 n3 n4
  have hX:vl 4294967296 (trim xs)=vl 4294967296 xs:=bL _ _
  have hY:vl 4294967296 (trim ys)=vl 4294967296 ys:=bL _ _
  generalize vl 4294967296 xs=X at*
  generalize vl 4294967296 ys=Y at*
  have hx0:X≠0:=by omega
  have hlaX:lb≤(dg 4294967296 (X*2^up)).length:=by
    rw[←n1];exact cR (by omega) (Nat.mul_le_mul_right _ hle)
  have hlaX2:(dg 4294967296 (X*2^up)).length≤la+1:=by
    apply aM (by omega)
    rw[Nat.pow_succ]
    have h1:=cW ha.lim.trim
    rw[hX,hla]at h1
    exact Nat.mul_lt_mul_of_lt_of_lt h1 (Nat.lt_of_lt_of_le (Nat.pow_lt_pow_right (by omega) u1) (by decide))
  obtain⟨lx,hlx⟩:∃lx,(dg 4294967296 (X*2^up)).length=lx:=⟨_,rfl⟩
  rw[hlx]at hlaX hlaX2
  have HLA:=Lib.hid hla
  have HLB:=Lib.hid hlb
  have HLX:=Lib.hid hlx
  have HN1:=Lib.hid n1
  have HX:=Lib.hid hX
  have HY:=Lib.hid hY
  have hq0:((lb:Int)==0)=false:=by rw[beq_eq_false_iff_ne];omega
  have hq1:((lb:Int)==1)=false:=by rw[beq_eq_false_iff_ne];omega
  clear hla hlb hlx n1 hX hY
  go_enter Tryd.func40,Tryd.ntmps40
  go_wp2_with fail
  refine(cB _ _ _ xs _ ha (by omega)).mono ?_
  rintro e w1 ⟨A1,k1,c1,rfl,h1,hb1⟩
  obtain rfl:k1=la:=by rw[←h1.len,HLA.out]
  go_wp2_with fail
  refine(cB _ _ _ ys _ (hb.now hb1) (by omega)).mono ?_
  rintro e w2 ⟨A2,k2,c2,rfl,h2',hb2⟩
  obtain rfl:k2=lb:=by rw[←h2'.len,HLB.out]
  have h3:=h1.below hb2
  have hb3:=hb1.trans (hb2.mono hb1.size)
  clear hb1 hb2 h1
  obtain⟨g,rfl,hg1,hg2⟩:=h2'.form (by omega)
  have hc:=h2'.cell (j:=k2-1) (by omega)
  go_wp2_with fail
  refine(mW _ _ _ _ _ _ _ _ _ _ h3.u32 h2'.u32).mono ?_
  rintro e w' ⟨rfl,q,rfl⟩
  go_wp2_with fail
  refine(hlz _).mono ?_
  rintro e w' ⟨rfl,rfl⟩
  go_wp2_with fail
  refine(gB _ _ _ _ _ _ (w2.drewN q) h2'.drew_base.u32 HY.out (by omega) u1 (by omega)).mono ?_
  rintro e w3 ⟨A3,k3,c3,rfl,h4,hb4⟩
  obtain rfl:k3=k2:=by rw[←h4.len,HN1.out]
  have h5:=h3.drew_base.below hb4
  have hb5:Below w.heap.size w w3:=(dT hb3 q).trans (hb4.mono hb3.size)
  clear hb4 h3 h2' hc hb3
  go_wp2_with fail
  refine(gB _ _ _ _ _ _ _ h5.u32 HX.out (by omega) u1 hx0).mono ?_
  rintro e w4 ⟨A4,k4,c4,rfl,h6,hb6⟩
  obtain rfl:k4=lx:=by rw[←h6.len,HLX.out]
  have hb7:=hb5.trans (hb6.mono hb5.size)
  have hz6:=hb6.size
  obtain⟨Q,hQ⟩:∃Q,Q+k3=k4+1:=⟨k4+1-k3,by omega⟩
  have hQ1:1≤Q:=by omega
  have hQ2:Q≤k4+1:=by omega
  have hQ3:(Q:Int)=(k4:Int)+1-k3:=by omega
  have HQ:=Lib.hid hQ
  have HQ3:=Lib.hid hQ3
  clear hQ hQ3
  have h7:=(h6.below (eA w4 (.cells #[.int .u32 ((0:Nat):Int)] 64))).row
  go_wp2_with (first
    | (at_builtin
       refine gC _ gX rfl (.tmp 63) (.tmp 64) rfl w3.heap.size _ k4 _ rfl h7 _ _ 1 1 _ rfl (Ji w4 0) (lK _) (by omega) (by omega) (by simp;omega) ?_
       intro A5 c5 w5 hO5 hg5 hat5)
    | (refine fQ _ gX rfl (.tmp 69) (.tmp 69) rfl .i64 .i64 _ _ Q rfl rfl HQ3.out.symm HQ3.out.symm (by omega) (by omega) ?_
       intro w6 hO6 hb66 hz66))
  have oA:Own 64 w5 w3.heap.size A5 (k4+1) c5 (dg 4294967296 (X*2^up)++[0]):=⟨by rw[nE];exact hO5,(bH (by omega) _).append (Lim.cons (by omega) Lim.nil)⟩
  have bA:Below w3.heap.size w3 w5:=iB (hb6.alloc hb6.size _) h7 hg5 (by simp;omega) (Nat.le_refl _)
  have bW:Below w.heap.size w w5:=hb5.trans (bA.mono hb5.size)
  obtain⟨ga,rfl,hga1,hga2⟩:=oA.form (by omega)
  have uB:=((h4.u32.below bA).more hga1).below (hb66.mono (Nat.le_of_lt hga2))
  have oA6:=oA.below hb66
  have oQ:=Own.made hO6
  have bW6:=bW.trans (hb66.mono bW.size)
  have hz5:=bW.size
  have hz3:=hb5.size
  obtain⟨gb,rfl,_,_⟩:=h4.form (by omega)
  have D0:=DMInv.top (a:=dg 4294967296 (X*2^up)) (ys:=dg 4294967296 (Y*2^up)) (Q:=Q) (bH (by omega) _) (by rw[HN1.out,HLX.out];exact HQ.out) (by rw[HN1.out];omega) (by rw[HN1.out,bK (by omega)];exact n4)
  have hN:=oA6.len
  have HN:=Lib.hid hN
  have hcA:k4+1≤c5:=oA6.u32.cap
  have hcB:c5≤9223372036854775807:=oA6.u32.big
  clear hN h7 hO5 hg5 hat5 hO6 oA bA bW hb6 hb7 h4 h5 h6 hb66 hlz
  obtain⟨mm,hmm⟩:∃mm,k3=mm+2:=⟨k3-2,by omega⟩
  have HMM:=Lib.hid hmm
  clear hmm
  go_loopw [12] (fun i wr=>∃(k:Nat) (os qs:List Nat),k≤Q∧i=.int .i64 ((k:Int)-1)∧Own 64 wr w3.heap.size (some ⟨ga,0,none⟩) (k4+1) c5 os∧Own 64 wr w5.heap.size (some ⟨w5.heap.size,0,none⟩) Q Q qs∧
      DMInv (dg 4294967296 (X*2^up)++[0]) os qs (dg 4294967296 (Y*2^up)) k∧Below ga w6 wr) (fun i _=>(intOf i+1).toNat)
  case atStart=>exact⟨Q,_,_,Nat.le_refl _,by go_num,oA6,oQ,D0,Below.refl _ _⟩
  case round=>
    obtain⟨k,os,qs,hk,rfl,hoA,hoQ,hD,hbB⟩:=hrel
    by_cases h0:0<k
    · obtain⟨i,rfl⟩:∃i,k=i+1:=⟨k-1,by omega⟩
      rw[show((i+1:Nat):Int)-1=(i:Int) from by omega]
      have hQ:=HQ.out
      have hbnd:i+k3+1≤k4+1:=by omega
      clear hQ
      have ca1:=hoA.cell (j:=i+k3) (by omega)
      have ca2:=hoA.cell (j:=i+k3-1) (by omega)
      have ca3:=hoA.cell (j:=i+k3-2) (by omega)
      have uB1:=uB.below hbB
      have cb1:=uB1.cell0 (j:=k3-1) (by omega)
      have cb2:=uB1.cell0 (j:=k3-2) (by omega)
      have hw:=hD.window (by rw[hoA.len];omega) (bH (by omega) _) hoA.lim
      have hgu:=tA (u:=(os.drop i).take (k3+1)) (ys:=dg 4294967296 (Y*2^up)) (m:=mm) ((hoA.lim.drop i).take _) (by rw[List.length_take,List.length_drop,hoA.len,HMM.out];have:=HMM.out;omega) (bH (by omega) _)
        (by rw[HN1.out,HMM.out]) (by rw[show mm+1=k3-1 by rw[HMM.out];omega];exact n2) (by rw[←HN1.out,hw.1];exact hw.2.2.1)
      have ne:∀j,j≤k3→nth ((os.drop i).take (k3+1)) j=nth os (i+j):=fun j hj=>by
        rw[←cV];exact jD (i:=k3+1) (by rw[List.take_take,Nat.min_self]) (by omega)
      have e0:mm+2=k3:=HMM.out.symm
      rw[ne (mm+2) (by omega),ne (mm+1) (by omega),ne mm (by omega),show mm+2=k3 from e0,show i+(mm+1)=i+k3-1 by omega,show i+mm=i+k3-2 by omega,show mm+1=k3-1 by omega,show mm=k3-2 by omega]at hgu
      obtain⟨hg1',hg2',hg3'⟩:=hgu
      clear e0 ne
      have lA:=hoA.lim
      have la1:=lA.nth (by omega) (i+k3-1)
      have la2:=lA.nth (by omega) (i+k3-2)
      have lb1:=(bH (B:=4294967296) (by omega) (Y*2^up)).nth (by omega) (k3-1)
      have lb2:=(bH (B:=4294967296) (by omega) (Y*2^up)).nth (by omega) (k3-2)
      have t0:(0:Int)≤(i:Int)+(k3:Int):=by omega
      have t1:(0:Int)≤(i:Int)+(k3:Int)-1:=by omega
      have t2:(0:Int)≤(i:Int)+(k3:Int)-2:=by omega
      have t3:(0:Int)≤(k3:Int)-1:=by omega
      have t4:(0:Int)≤(k3:Int)-2:=by omega
      have v0:(i:Int)+(k3:Int)<(k4:Int)+1:=by omega
      have v1:(i:Int)+(k3:Int)-1<(k4:Int)+1:=by omega
      have v2:(i:Int)+(k3:Int)-2<(k4:Int)+1:=by omega
      have v3:(k3:Int)-1<(k3:Int):=by omega
      have v4:(k3:Int)-2<(k3:Int):=by omega
      have s0:IntKind.i64.wrap ((i:Int)+(k3:Int))=(i:Int)+(k3:Int):=IntWalk.i64_in _ (by omega)
      have s1:IntKind.i64.wrap ((i:Int)+(k3:Int)-1)=(i:Int)+(k3:Int)-1:=IntWalk.i64_in _ (by omega)
      have s2:IntKind.i64.wrap ((i:Int)+(k3:Int)-2)=(i:Int)+(k3:Int)-2:=IntWalk.i64_in _ (by omega)
      have s3:IntKind.i64.wrap ((k3:Int)-1)=(k3:Int)-1:=IntWalk.i64_in _ (by omega)
      have s4:IntKind.i64.wrap ((k3:Int)-2)=(k3:Int)-2:=IntWalk.i64_in _ (by omega)
      have r0:((i:Int)+(k3:Int)).toNat=i+k3:=by omega
      have r1:((i:Int)+(k3:Int)-1).toNat=i+k3-1:=by omega
      have r2:((i:Int)+(k3:Int)-2).toNat=i+k3-2:=by omega
      have r3:((k3:Int)-1).toNat=k3-1:=by omega
      have r4:((k3:Int)-2).toNat=k3-2:=by omega
      go_wp2_with fail
      go_quiet ((go_at_call 79;exact Fo (zT _ _ _ _ _ _ n2 lb1 hg1' la1 la2 lb2)))
      clear t0 t1 t2 t3 t4 v0 v1 v2 v3 v4 s0 s1 s2 s3 s4 r0 r1 r2 r3 r4 ca1 ca2 ca3 cb1 cb2
      go_wp2_with fail
      rw[show i+k3+1-i=k3+1 by omega]
      have oAn:Own 64 (wr.drewN nq) w3.heap.size (some ⟨ga,0,none⟩) (k4+1) c5 os:=hoA.drew_base
      have hYv:0<vl 4294967296 (dg 4294967296 (Y*2^up)):=by
        rw[bK (by omega)];exact Nat.mul_pos n3 (Nat.pos_of_ne_zero (by simp))
      refine(Ch ga i (k4+1) k3 c5 c3 (c5-i) _ _ os (dg 4294967296 (Y*2^up)) (k3+1) w3.heap.size (wr.drewN nq) oAn (by omega) (by omega) (uB1.below (dT (Below.refl _ _) _)) (by omega) (Nat.min_le_left _ _) hYv hg2' hg3').mono ?_
      rintro e w7 ⟨os',rfl,oA7,ht7,hh7,hv7,gr7⟩
      have hgq:w5.heap.size≠ga:=by omega
      have oQ7:=(hoQ.drew_base (k:=nq)).only gr7 hgq
      have oA8:=oA7.len
      have hst:=hD.step (i:=i) (os':=os') (by rw[hoA.len];omega) (by rw[hoQ.len];omega) (bH (by omega) _) hoA.lim hYv (by rw[oA8,hoA.len]) ht7 (fun j hj=>hh7 j (by rw[HN1.out]at hj;omega))
        (by rw[HN1.out];exact hv7) (by rw[HN1.out,hoA.len];omega)
      rw[HN1.out]at hst
      have hqv:vl 4294967296 ((os.drop i).take (k3+1))/vl 4294967296 (dg 4294967296 (Y*2^up))<4294967296:=
        Nat.lt_of_le_of_lt hg2' (Nat.lt_of_le_of_lt (Nat.min_le_left _ _) (by omega))
      have cq1:=oQ7.cell (j:=i) (by omega)
      have cq2:=oQ7.frozen i
      have oQ8:=oQ7.set i hqv
      have oA9:=oA7.only (g':=w5.heap.size) (gN (pR w7 w5.heap.size) i (.int .u32 ((vl 4294967296 ((os.drop i).take (k3+1))/vl 4294967296 (dg 4294967296 (Y*2^up)):Nat):Int))) (Ne.symm hgq)
      have bb9:Below ga w6 w7:=(dT hbB nq).trans (jH gr7 (by have:=hbB.size;show ga≤wr.heap.size;omega))
      generalize vl 4294967296 ((os.drop i).take (k3+1))/vl 4294967296 (dg 4294967296 (Y*2^up))=qd at*
      clear oA8 hh7 ht7 hv7 hw hg2' hg3' hD
      go_wp2_with fail
      go_roundw
      case rel=>exact⟨i,os',_,by omega,by go_num,oA9,oQ8,hst,bb9.setCell (by show ga≤w5.heap.size;omega) _⟩
      case measure=>simp[intOf]
    obtain rfl:k=0:=by omega
    have hYv:0<vl 4294967296 (dg 4294967296 (Y*2^up)):=by
      rw[bK (by omega)];exact Nat.mul_pos n3 (Nat.pos_of_ne_zero (by simp))
    obtain⟨f1,f2⟩:=hD.end_ hYv
    have hPp:0<2^up:=Nat.pos_of_ne_zero (by simp)
    rw[eB,Nat.mul_zero,Nat.add_zero,bK (by omega),bK (by omega),Nat.mul_div_mul_right _ _ hPp]at f1
    rw[eB,Nat.mul_zero,Nat.add_zero,bK (by omega),bK (by omega),Nat.mul_mod_mul_right]at f2
    have F1:=Lib.hid f1
    have F2:=Lib.hid f2
    have bWr:Below w.heap.size w wr:=bW6.trans (hbB.mono (by omega))
    clear f1 f2 hD
    go_wp2_with fail
    refine(oE _ _ _ _ _ _ _ hoA.u32 F2.out (by omega) u1).mono ?_
    rintro e w8 ⟨A8,n8,c8,rfl,h8,hb8⟩
    have hoQ8:=hoQ.below hb8
    have bW8:=bWr.trans (hb8.mono bWr.size)
    go_wp2_with fail
    refine(cB _ _ _ _ _ hoQ8.u32 (by omega)).mono ?_
    rintro e w9 ⟨A9,n9,c9,rfl,h9,hb9⟩
    have bW9:=bW8.trans (hb9.mono bW8.size)
    go_wp2_with fail
    go_ret3
    refine⟨_,_,_,_,_,_,rfl,?_,(h8.below hb9).base_le bWr.size,(Apart.of h8 h9 (Nat.le_refl _)).symm,bW9⟩
    have:=h9.base_le (base':=w.heap.size) bW8.size
    rwa[←cY (by omega) hoQ.lim,F1.out]at this
theorem xQ (A B:Option Addr) (n m c d:Nat) (xs ys:List Nat) (w:World) (ha:U32 w w.heap.size A n c xs) (hb:U32 w w.heap.size B m d ys) (hn:n≤549755813888) (hm:m≤549755813888) (hy:vl 4294967296 ys≠0):
  Calls Tryd.prog 40 #[.slice A n c,.slice B m d] w (oC (dg 4294967296 (vl 4294967296 xs/vl 4294967296 ys)) (dg 4294967296 (vl 4294967296 xs%vl 4294967296 ys)) 0 w):=by
 rcases Nat.lt_or_ge (vl 4294967296 xs) (vl 4294967296 ys)with h | h
 ·exact qT A B n m c d xs ys w ha hb hn hm h
 match ht:trim ys with
 | []=>exact absurd ((cL 4294967296 (by omega) ys).1 ht) hy
 | [y]=>exact pJ A B n m c d y xs ys w ha hb hn hm h ht
 | y::z::l=>exact oF A B n m c d xs ys w ha hb hn hm h (by rw[ht];simp)
structure URows (w:World) (B:Nat) (A:Option Addr) (n c:Nat) (rows:List (List Nat)):Prop where
 len:rows.length=n
 cap:n≤c
 big:c≤9223372036854775807
 cell:∀k,k<n→∃b o sp Ai ni ci,A=some ⟨b,o,sp⟩∧b<B∧w.cell? ((⟨b,o,sp⟩:Addr).add k)=some (.slice Ai ni ci)∧U32 w B Ai ni ci (rows.getD k [])
theorem URows.below {w w':World}{B n c:Nat}{A:Option Addr}{rows:List (List Nat)}(h:URows w B A n c rows) (hb:Below B w w'):URows w' B A n c rows:=
 ⟨h.len,h.cap,h.big,fun k hk=>by
  obtain⟨b,o,sp,Ai,ni,ci,e,hB,hc,hu⟩:=h.cell k hk
  exact⟨b,o,sp,Ai,ni,ci,e,hB,(hb.cell (by rw[cQ];exact hB)).trans hc,hu.below hb⟩⟩
theorem URows.now {w w':World}{n c:Nat}{A:Option Addr}{rows:List (List Nat)}(h:URows w w.heap.size A n c rows) (hb:Below w.heap.size w w'):URows w' w'.heap.size A n c rows:=by
 have h1:=h.below hb
 refine⟨h1.len,h1.cap,h1.big,fun k hk=>?_⟩
 obtain⟨b,o,sp,Ai,ni,ci,e,hB,hc,hu⟩:=h1.cell k hk
 exact⟨b,o,sp,Ai,ni,ci,e,Nat.lt_of_lt_of_le hB hb.size,hc,hu.more hb.size⟩
def tB (neg:Bool) (m:Nat):Int:=if neg then-(m:Int)else m
def mE (z:Int):Bool:=decide (z<0)
def dK (neg:Bool) (xs:List Nat):Bool:=(xs.isEmpty&& !neg)||(!xs.isEmpty&&nth xs (xs.length-1)!= 0)
def fU (neg:Bool) (xs:List Nat):Int:=if dK neg xs then tB neg (vl 4294967296 xs)else 0
theorem vU (neg:Bool) (m:Nat):(tB neg m).natAbs=m:=by unfold tB;split <;> omega
theorem Jj (neg:Bool) (m:Nat):mE (tB neg m)=(neg&&decide (0<m)):=by
 unfold tB mE
 cases neg <;> simp
theorem Ci (z:Int):tB (mE z) z.natAbs=z:=by
 unfold tB mE
 by_cases h:z<0 <;> simp[h] <;> omega
theorem Fp {m n:Nat}(h:(dg 4294967296 m).length=n):decide (0<n)=decide (0<m):=by
 rcases Nat.eq_zero_or_pos n with h0 | h0
 ·subst h0
  have:=(bV (by omega)).1 (List.eq_nil_of_length_eq_zero h)
  subst this
  rfl
 rcases Nat.eq_zero_or_pos m with h1 | h1
 ·subst h1
  rw[(bV (B:=4294967296) (by omega)).2 rfl]at h
  simp at h
  omega
 simp[h0,h1]
theorem xR {neg:Bool}{xs:List Nat}(h:dK neg xs=true):trim xs=xs:=by
 rcases xs with _ | ⟨x,l⟩
 ·rfl
 have h1:nth (x::l) ((x::l).length-1)≠0:=by simpa[dK]using h
 have h2:=kI (xs:=x::l) (k:=(x::l).length) (by simp) (Nat.le_refl _) h1
 rwa[List.take_of_length_le (Nat.le_refl _)]at h2
theorem pK {neg:Bool}{xs:List Nat}(hl:Lim 4294967296 xs) (h:dK neg xs=true):dg 4294967296 (fU neg xs).natAbs=xs:=by
 unfold fU
 rw[if_pos h,vU,cY (by omega) hl,xR h]
theorem Fq {neg:Bool}{xs:List Nat}(hl:Lim 4294967296 xs) (h:dK neg xs=true):mE (fU neg xs)=neg:=by
 have h1:=pK hl h
 unfold fU at h1⊢
 rw[if_pos h]at h1⊢
 rw[vU]at h1
 rw[Jj]
 rcases xs with _ | ⟨x,l⟩
 ·have:neg=false:=by simpa[dK]using h
  subst this
  rfl
 have h2:=Fp (m:=vl 4294967296 (x::l)) (n:=(x::l).length) (by rw[h1])
 rw[←h2]
 simp
theorem zY {neg:Bool}{xs:List Nat}(h:dK neg xs=false):fU neg xs=0:=by unfold fU;rw[h];rfl
theorem zZ (z:Int):dK (mE z) (dg 4294967296 z.natAbs)=true:=by
 unfold dK
 by_cases h0:z=0
 ·subst h0
  rw[show dg 4294967296 (Int.natAbs 0)=[] from(bV (by omega)).2 rfl]
  rfl
 have hn:dg 4294967296 z.natAbs≠[]:=fun e=>h0 (by have:=(bV (by omega)).1 e;omega)
 have h:=hJ (uD (B:=4294967296) (by omega) _) hn
 rw[List.getLast_eq_getElem]at h
 have h2:=List.length_pos_iff.2 hn
 have:(dg 4294967296 z.natAbs).isEmpty=false:=by simpa using hn
 rw[this,aS (by omega)]
 simpa using h
theorem Aa (z:Int):fU (mE z) (dg 4294967296 z.natAbs)=z:=by
 unfold fU
 rw[if_pos (zZ z),bK (by omega),Ci]
abbrev Hld (s:Nat) (w:World) (B g k:Nat) (W0 w':World):Prop:=
 Below s w w'∧g<w'.heap.size∧B≤w'.heap.size∧s≤g∧s≤B∧(∀b o,b<B→b≠g→w'.cell? ⟨b,o,none⟩=W0.cell? ⟨b,o,none⟩)∧(∀o,o<k→(w'.cell? ⟨g,o,none⟩).isSome=true∧w'.frozen? ⟨g,o,none⟩=false)
theorem Hld.call {s B g k:Nat}{w W0 W w1:World}(h:Hld s w B g k W0 W) (hb:Below W.heap.size W w1):Hld s w B g k W0 w1:=by
 obtain⟨h1,h2,h2',h3,h4,h5,h6⟩:=h
 refine⟨h1.trans (hb.mono (by omega)),Nat.lt_of_lt_of_le h2 hb.size,Nat.le_trans h2' hb.size,h3,h4,fun b o hlt hne=>?_,fun o ho=>?_⟩
 ·rw[hb.cell (p:=⟨b,o,none⟩) (show b<W.heap.size by omega)]
  exact h5 b o hlt hne
 rw[hb.cell (p:=⟨g,o,none⟩) h2,hb.frozen (p:=⟨g,o,none⟩) h2]
 exact h6 o ho
theorem Hld.alloc {s B g k:Nat}{w W0 W:World}(h:Hld s w B g k W0 W) (o:Obj):Hld s w B g k W0 (W.alloc o):=Hld.call h (eA W o)
theorem Hld.drew {s B g k:Nat}{w W0 W:World}(h:Hld s w B g k W0 W):Hld s w B g k W0 W.drew:=⟨h.1.drew,h.2⟩
theorem fG (w:World) (a b:Addr) (v:Value):(w.setCell a v).frozen? b=w.frozen? b:=by
 simp
theorem Hld.setCell {s B g k:Nat}{w W0 W:World}(h:Hld s w B g k W0 W){p:Addr}(hp:p.block=g∨B≤p.block) (v:Value):Hld s w B g k W0 (W.setCell p v):=by
 obtain⟨h1,h2,h2',h3,h4,h5,h6⟩:=h
 refine⟨h1.setCell (by omega) v,by simpa using h2,by simpa using h2',h3,h4,fun b o hlt hne=>?_,fun o ho=>⟨?_,?_⟩⟩
 ·rw[World.cell?_setCell_far _ _ _ _ (by show p.block≠b;omega)]
  exact h5 b o hlt hne
 ·obtain⟨v',hv'⟩:=Option.isSome_iff_exists.1 (h6 o ho).1
  obtain⟨v'',hv''⟩:=cell?_setCell_some (p:=p) (x:=v) hv'
  rw[hv''];rfl
 rw[fG];exact(h6 o ho).2
theorem Hld.from {P:Program}{f:FuncId}{args:Array Value}{s B g k:Nat}{w W0 W:World}{R:Ending→World→Prop}(hS:Hld s w B g k W0 W) (h:Hld s w B g k W0 W→Calls P f args W R):Calls P f args W R:=h hS
theorem Hld.bel {s B g k:Nat}{w W0 W:World}(h:Hld s w B g k W0 W):Below s w W:=h.1
theorem Hld.res {s B g k:Nat}{w W0 W:World}(h:Hld s w B g k W0 W) (o:Nat) (ho:o<k):∃v,W.cell? ⟨g,o,none⟩=some v:=Option.isSome_iff_exists.1 (h.2.2.2.2.2.2 o ho).1
theorem Hld.base {s B g k:Nat}{w W0 W:World}(h:Hld s w B g k W0 W):g+1≤W.heap.size:=h.2.1
theorem Own.setLow {t:TypeId}{w:World}{base n c:Nat}{A:Option Addr}{xs:List Nat}(h:Own t w base A n c xs){p:Addr}(hp:p.block<base) (v:Value):Own t (w.setCell p v) base A n c xs:=
 ⟨ownsRow_setCell_below h.row hp v,h.lim⟩
theorem Own.over {t:TypeId}{w w':World}{base n c:Nat}{A:Option Addr}{xs:List Nat}(h:Own t w base A n c xs) (hb:Below w.heap.size w w'):Own t w' base A n c xs:=h.below hb
theorem URows.two {w:World}{g n m c d:Nat}{A B:Option Addr}{xs ys:List Nat}(h0:w.cell? ⟨g,0,none⟩=some (.slice A n c)) (h1:w.cell? ⟨g,1,none⟩=some (.slice B m d)) (hg:g<w.heap.size)
  (ha:U32 w w.heap.size A n c xs) (hb:U32 w w.heap.size B m d ys):URows w w.heap.size (some ⟨g,0,none⟩) 2 2 [xs,ys]:=by
 refine⟨rfl,Nat.le_refl _,by omega,fun k hk=>?_⟩
 match k,hk with
 | 0,_=>exact⟨g,0,none,A,n,c,rfl,hg,h0,ha⟩
 | 1,_=>exact⟨g,0,none,B,m,d,rfl,hg,h1,hb⟩
abbrev Hld2 (s:Nat) (w:World) (B g g' k:Nat) (W0 w':World):Prop:=
 Below s w w'∧(g<w'.heap.size∧g'<w'.heap.size∧s≤g')∧B≤w'.heap.size∧s≤g∧s≤B∧(∀b o,b<B→b≠g→b≠g'→w'.cell? ⟨b,o,none⟩=W0.cell? ⟨b,o,none⟩)∧(∀o,o<k→(w'.cell? ⟨g,o,none⟩).isSome=true∧w'.frozen? ⟨g,o,none⟩=false)∧
  (∀o,o<k→(w'.cell? ⟨g',o,none⟩).isSome=true∧w'.frozen? ⟨g',o,none⟩=false)
theorem Hld2.call {s B g g' k:Nat}{w W0 W w1:World}(h:Hld2 s w B g g' k W0 W) (hb:Below W.heap.size W w1):Hld2 s w B g g' k W0 w1:=by
 obtain⟨h1,⟨h2,h2'',h2b⟩,h2',h3,h4,h5,h6,h7⟩:=h
 refine⟨h1.trans (hb.mono (by omega)),⟨Nat.lt_of_lt_of_le h2 hb.size,Nat.lt_of_lt_of_le h2'' hb.size,h2b⟩,Nat.le_trans h2' hb.size,h3,h4,fun b o hlt hne hne'=>?_,fun o ho=>?_,fun o ho=>?_⟩
 ·rw[hb.cell (p:=⟨b,o,none⟩) (show b<W.heap.size by omega)]
  exact h5 b o hlt hne hne'
 ·rw[hb.cell (p:=⟨g,o,none⟩) h2,hb.frozen (p:=⟨g,o,none⟩) h2]
  exact h6 o ho
 rw[hb.cell (p:=⟨g',o,none⟩) h2'',hb.frozen (p:=⟨g',o,none⟩) h2'']
 exact h7 o ho
theorem Hld2.alloc {s B g g' k:Nat}{w W0 W:World}(h:Hld2 s w B g g' k W0 W) (o:Obj):Hld2 s w B g g' k W0 (W.alloc o):=Hld2.call h (eA W o)
theorem Hld2.drew {s B g g' k:Nat}{w W0 W:World}(h:Hld2 s w B g g' k W0 W):Hld2 s w B g g' k W0 W.drew:=⟨h.1.drew,h.2⟩
theorem Hld2.setCell {s B g g' k:Nat}{w W0 W:World}(h:Hld2 s w B g g' k W0 W){p:Addr}(hp:p.block=g∨p.block=g'∨B≤p.block) (v:Value):Hld2 s w B g g' k W0 (W.setCell p v):=by
 obtain⟨h1,⟨h2,h2'',h2b⟩,h2',h3,h4,h5,h6,h7⟩:=h
 refine⟨h1.setCell (by omega) v,⟨by simpa using h2,by simpa using h2'',h2b⟩,by simpa using h2',h3,h4,fun b o hlt hne hne'=>?_,fun o ho=>⟨?_,?_⟩,fun o ho=>⟨?_,?_⟩⟩
 ·rw[World.cell?_setCell_far _ _ _ _ (by show p.block≠b;omega)]
  exact h5 b o hlt hne hne'
 ·obtain⟨v',hv'⟩:=Option.isSome_iff_exists.1 (h6 o ho).1
  obtain⟨v'',hv''⟩:=cell?_setCell_some (p:=p) (x:=v) hv'
  rw[hv''];rfl
 ·rw[fG];exact(h6 o ho).2
 ·obtain⟨v',hv'⟩:=Option.isSome_iff_exists.1 (h7 o ho).1
  obtain⟨v'',hv''⟩:=cell?_setCell_some (p:=p) (x:=v) hv'
  rw[hv''];rfl
 rw[fG];exact(h7 o ho).2
theorem Hld2.from {P:Program}{f:FuncId}{args:Array Value}{s B g g' k:Nat}{w W0 W:World}{R:Ending→World→Prop}(hS:Hld2 s w B g g' k W0 W) (h:Hld2 s w B g g' k W0 W→Calls P f args W R):Calls P f args W R:=h hS
theorem Hld2.bel {s B g g' k:Nat}{w W0 W:World}(h:Hld2 s w B g g' k W0 W):Below s w W:=h.1
theorem Hld2.res {s B g g' k:Nat}{w W0 W:World}(h:Hld2 s w B g g' k W0 W) (o:Nat) (ho:o<k):∃v,W.cell? ⟨g,o,none⟩=some v:=Option.isSome_iff_exists.1 (h.2.2.2.2.2.2.1 o ho).1
theorem Hld2.base {s B g g' k:Nat}{w W0 W:World}(h:Hld2 s w B g g' k W0 W):g+1≤W.heap.size:=h.2.1.1
theorem Hld2.base' {s B g g' k:Nat}{w W0 W:World}(h:Hld2 s w B g g' k W0 W):g'+1≤W.heap.size:=h.2.1.2.1
abbrev Hld0 (s:Nat) (w:World) (B:Nat) (W0 w':World):Prop:=
 Below s w w'∧B≤w'.heap.size∧s≤B∧(∀b o,b<B→w'.cell? ⟨b,o,none⟩=W0.cell? ⟨b,o,none⟩)
theorem Hld0.call {s B:Nat}{w W0 W w1:World}(h:Hld0 s w B W0 W) (hb:Below W.heap.size W w1):Hld0 s w B W0 w1:=by
 obtain⟨h1,h2,h4,h5⟩:=h
 refine⟨h1.trans (hb.mono (by omega)),Nat.le_trans h2 hb.size,h4,fun b o hlt=>?_⟩
 rw[hb.cell (p:=⟨b,o,none⟩) (show b<W.heap.size by omega)]
 exact h5 b o hlt
theorem Hld0.alloc {s B:Nat}{w W0 W:World}(h:Hld0 s w B W0 W) (o:Obj):Hld0 s w B W0 (W.alloc o):=Hld0.call h (eA W o)
theorem Hld0.drew {s B:Nat}{w W0 W:World}(h:Hld0 s w B W0 W):Hld0 s w B W0 W.drew:=⟨h.1.drew,h.2⟩
theorem Hld0.setCell {s B:Nat}{w W0 W:World}(h:Hld0 s w B W0 W){p:Addr}(hp:B≤p.block) (v:Value):Hld0 s w B W0 (W.setCell p v):=by
 obtain⟨h1,h2,h4,h5⟩:=h
 refine⟨h1.setCell (by omega) v,by simpa using h2,h4,fun b o hlt=>?_⟩
 rw[World.cell?_setCell_far _ _ _ _ (by show p.block≠b;omega)]
 exact h5 b o hlt
theorem Hld0.bel {s B:Nat}{w W0 W:World}(h:Hld0 s w B W0 W):Below s w W:=h.1
theorem Hld0.base {s B:Nat}{w W0 W:World}(h:Hld0 s w B W0 W):B≤W.heap.size:=h.2.1
theorem Hld0.from {P:Program}{f:FuncId}{args:Array Value}{s B:Nat}{w W0 W:World}{R:Ending→World→Prop}(hS:Hld0 s w B W0 W) (h:Hld0 s w B W0 W→Calls P f args W R):Calls P f args W R:=h hS
def Jk (na:Bool) (xs:List Nat) (nb:Bool) (ys:List Nat):Bool:=dK na xs&&dK nb ys&&decide (0<fU nb ys)&&(Int.gcd (fU na xs) (fU nb ys)==1)
theorem vV {xs:List Nat}(hl:Lim 4294967296 xs){neg:Bool}:(dg 4294967296 (fU neg xs).natAbs).length≤xs.length:=by
 cases h:dK neg xs
 ·rw[zY h,show dg 4294967296 (Int.natAbs 0)=[] from(bV (by omega)).2 rfl]
  simp
 rw[pK hl h]
 exact Nat.le_refl _
def Oy (na:Bool) (xs:List Nat) (nb:Bool) (ys:List Nat):Rat:=if Jk na xs nb ys then Rat.divInt (fU na xs) (fU nb ys)else 0
def Sz (L:Nat) (q:Rat):Prop:=(dg 4294967296 q.num.natAbs).length≤L∧(dg 4294967296 q.den).length≤L
def Src (b0 base:Nat) (w:World) (A:Option Addr) (n c:Nat) (xs:List Nat):Prop:=U32 w b0 A n c xs∨Own 64 w base A n c xs
theorem Src.below {b0 base n c:Nat}{w w':World}{A:Option Addr}{xs:List Nat}(h:Src b0 base w A n c xs) (h0:b0≤w.heap.size) (hb:Below w.heap.size w w'):Src b0 base w' A n c xs:=by
 rcases h with h | h
 ·exact .inl (h.below (hb.mono h0))
 exact .inr (h.below hb)
theorem Src.u32 {b0 base n c:Nat}{w:World}{A:Option Addr}{xs:List Nat}(h:Src b0 base w A n c xs) (h0:b0≤w.heap.size):U32 w w.heap.size A n c xs:=by
 rcases h with h | h
 ·exact h.more h0
 exact h.u32
theorem Src.setCell {b0 base n c:Nat}{w:World}{A:Option Addr}{xs:List Nat}(h:Src b0 base w A n c xs){p:Addr}(h0:b0≤p.block) (h1:p.block<base) (v:Value):Src b0 base (w.setCell p v) A n c xs:=by
 rcases h with h | h
 ·refine .inl (h.keep fun q hq=>World.cell?_setCell_far _ _ _ _ ?_)
  omega
 exact .inr (h.setLow h1 v)
theorem Src.drew {b0 base n c:Nat}{w:World}{A:Option Addr}{xs:List Nat}(h:Src b0 base w A n c xs):Src b0 base w.drew A n c xs:=by
 rcases h with h | h
 ·exact .inl ⟨⟨h.rd.len,h.rd.cap,h.rd.big,h.rd.cell⟩,h.lim⟩
 exact .inr ⟨h.row,h.lim⟩
theorem Src.base_le {b0 base base' n c:Nat}{w:World}{A:Option Addr}{xs:List Nat}(h:Src b0 base w A n c xs) (hb:base'≤base):Src b0 base' w A n c xs:=by
 rcases h with h | h
 ·exact .inl h
 exact .inr (h.base_le hb)
theorem Hld.up {s B g k:Nat}{w W0 W:World}(h:Hld s w B g k W0 W):B≤W.heap.size:=h.2.2.1
theorem gE (a b:Nat):(dg 4294967296 (a*b)).length≤(dg 4294967296 a).length+(dg 4294967296 b).length:=by
 refine aM (by omega) ?_
 rw[Nat.pow_add]
 exact Nat.mul_lt_mul_of_lt_of_lt (fL (by omega)) (fL (by omega))
structure Lv where
 A:Option Addr
 n:Nat
 c:Nat
structure Zv where
 s:Bool
 A:Option Addr
 n:Nat
 c:Nat
structure Rv where
 s:Bool
 A:Option Addr
 n:Nat
 c:Nat
 t:Bool
 B:Option Addr
 m:Nat
 d:Nat
def Rv.x (r:Rv):Zv:=⟨r.s,r.A,r.n,r.c⟩
def Rv.y (r:Rv):Zv:=⟨r.t,r.B,r.m,r.d⟩
def Lv.v (l:Lv):Value:=.slice l.A l.n l.c
def Zv.cs (z:Zv):List Value:=[.bool z.s,.slice z.A z.n z.c]
def Rv.cs (r:Rv):List Value:=[.bool r.s,.slice r.A r.n r.c,.bool r.t,.slice r.B r.m r.d]
structure LimR (W:World) (N:Nat→Prop) (A:Option Addr) (n c:Nat) (xs:List Nat):Prop where
 len:xs.length=n
 cap:n≤c
 big:c≤9223372036854775807
 lim:Lim 4294967296 xs
 cell:0<n→∃ad,A=some ad∧N ad.block∧∀k u,(cH xs)[k]? =some u→W.cell? (ad.add k)=some u
section
variable {W W':World}{N N':Nat→Prop}{A:Option Addr}{n c:Nat}{xs:List Nat}
theorem LimR.mono (h:LimR W N A n c xs) (hN:∀b,N b→N' b):LimR W N' A n c xs:=
 ⟨h.len,h.cap,h.big,h.lim,fun hn=>let ⟨ad,e,hb,hc⟩:=h.cell hn;⟨ad,e,hN _ hb,hc⟩⟩
theorem xS {ad:Addr}(h:W'.heap[ad.block]? =W.heap[ad.block]?) (k:Nat):W'.cell? (ad.add k)=W.cell? (ad.add k):=World.cell?_of_block (w:=W) (by rw[cQ];exact h)
theorem LimR.keep (h:LimR W N A n c xs) (hN:∀b,N b→W'.heap[b]? =W.heap[b]?):LimR W' N A n c xs:=
 ⟨h.len,h.cap,h.big,h.lim,fun hn=>let ⟨ad,e,hb,hc⟩:=h.cell hn;⟨ad,e,hb,fun k u hu=>(xS (hN _ hb) k).trans (hc k u hu)⟩⟩
theorem LimR.u32 {B:Nat}(h:LimR W N A n c xs) (hN:∀b,N b→b<B):U32 W B A n c xs:=
 ⟨⟨by rw[dN,h.len,Nat.mul_one],h.cap,h.big,fun hn=>let ⟨ad,e,hb,hc⟩:=h.cell hn;⟨ad,e,hN _ hb,hc⟩⟩,h.lim⟩
theorem LimR.of_own {t base:Nat}(h:Own t W base A n c xs):LimR W (· ∈(Value.slice A n c).ownBlock.toList) A n c xs:=by
 have hu:=h.u32
 refine⟨hu.len,hu.cap,hu.big,hu.lim,fun hn=>?_⟩
 obtain⟨ad,e,_,hc⟩:=hu.rd.cell hn
 exact⟨ad,e,by subst e;simp[Value.ownBlock],hc⟩
theorem LimR.nil:LimR W N none 0 0 []:=⟨rfl,Nat.le_refl _,by omega,Lim.nil,fun h=>absurd h (by omega)⟩
end
theorem Own.keep {t:TypeId}{w w':World}{base n c:Nat}{A:Option Addr}{xs:List Nat}(h:Own t w base A n c xs) (hk:∀b∈(Value.slice A n c).ownBlock.toList,w'.heap[b]? =w.heap[b]?):Own t w' base A n c xs:=by
 refine⟨⟨h.row.1,?_⟩,h.lim⟩
 rcases h.row.2 with h2 | ⟨g,cap,cur,hv,hb,hh,rest⟩
 ·exact .inl h2
 exact .inr ⟨g,cap,cur,hv,hb,(hk g (by rw[hv];simp[Value.ownBlock])).trans hh,rest⟩
theorem Own.blk {t:TypeId}{w:World}{base n c:Nat}{A:Option Addr}{xs:List Nat}(h:Own t w base A n c xs):∀b∈(Value.slice A n c).ownBlock.toList,base≤b∧b<w.heap.size:=by
 intro b hb
 rcases h.row.2 with⟨h2,_⟩ | ⟨g,cap,cur,hv,hb',hh,rest⟩
 ·rw[h2]at hb
  simp[Value.ownBlock]at hb
 rw[hv]at hb
 simp[Value.ownBlock]at hb
 subst hb
 exact⟨hb',(Array.getElem?_eq_some_iff.1 hh).1⟩
section
variable {w:World}{r r':Rv}{p q:Rat}
end
section
variable {w:World}{z z':Zv}{k k':Int}
end
theorem Sz.mono {L M:Nat}{q:Rat}(h:Sz L q) (hL:L≤M):Sz M q:=⟨Nat.le_trans h.1 hL,Nat.le_trans h.2 hL⟩
def aL (xs:List Nat):List Tr:=xs.map fun(n:Nat)=>.v (.int .u32 (n:Int))
def sU (o:Bool) (xs:List Nat):Tr:=.s o 64 1 xs.length (aL xs)
theorem jZ (xs:List Nat):(aL xs).length=xs.length:=by simp[aL]
theorem Jl (xs:List Nat):dH ((aL xs).map .t)=true:=by
 induction xs with
 | nil=>rfl
 | cons x xs ih=>simpa[aL,dH,gR]using ih
theorem Cj (xs:List Nat):bQ ((aL xs).map .t)=true:=by
 induction xs with
 | nil=>rfl
 | cons x xs ih=>simpa[aL,bQ,lone]using ih
theorem fH (xs:List Nat):NoFrL (aL xs):=by
 induction xs with
 | nil=>simp[aL,NoFrL]
 | cons x xs ih=>simpa[aL,NoFrL,jU]using ih
structure Fr4 where
 s:Bool
 x:List Nat
 t:Bool
 y:List Nat
namespace Fr4
def q (a:Fr4):Rat:=Oy a.s a.x a.t a.y
def of (q:Rat):Fr4:=⟨mE q.num,dg 4294967296 q.num.natAbs,false,dg 4294967296 q.den⟩
def ok (a:Fr4):Prop:=Lim 4294967296 a.x∧Lim 4294967296 a.y∧a.x.length≤68719476736∧a.y.length≤68719476736
end Fr4
section
variable {W:World}{N:Nat→Prop}
theorem Fs {o:Bool}{xs:List Nat}{u:Value}(h:FR W N (sU o xs) u) (hl:Lim 4294967296 xs):∃A c,u=.slice A xs.length c∧LimR W N A xs.length c xs:=by
 simp only[sU,FR]at h
 obtain⟨A,c,rfl,h1,h2,h3,h4⟩:=h
 refine⟨A,c,rfl,rfl,h1,h2,hl,fun hn=>?_⟩
 rcases h4 with h4 | ⟨ad,rfl,h5,h6⟩
 ·omega
 refine⟨ad,rfl,h5,fun k u hk=>?_⟩
 simp only[cH,List.getElem?_map,Option.map_eq_some_iff]at hk
 obtain⟨m,hm,rfl⟩:=hk
 obtain⟨u,e1,e2⟩:=iT h6 (j:=k) (x:=.v (.int .u32 (m:Int))) (by simp[aL,hm])
 simp only[FR]at e2
 rw[Nat.zero_add]at e1
 rw[e1,e2]
theorem jE {t:TypeId}{base n c:Nat}{A:Option Addr}{xs:List Nat}(h:Own t W base A n c xs):∃y:VT,y.val=.slice A n c∧OR W N (.s true t 1 xs.length (aL xs)) y∧y.ok W∧y.fp=(Value.slice A n c).ownBlock.toList:=by
 have hl:=h.len
 rcases h.row.2 with⟨h2,h3⟩ | ⟨g,cap,cur,hv,_,hg,hnc,hcm,hcs,htake⟩
 ·injection h2 with e1 e2 e3
  subst e1 e3
  subst h3
  have:xs=[]:=List.eq_nil_of_length_eq_zero hl
  subst this
  exact⟨.w (.slice none 0 0),rfl,by simp[OR,aL],by simp[VT.ok],by simp[VT.fp,Value.ownBlock]⟩
 injection hv with e1 e2 e3
 subst e1 e3
 have hor:ORL W N (aL xs) ((cH xs).map VT.w):=by
  clear hl htake h
  induction xs with
  | nil=>simp[aL,cH,ORL]
  | cons x xs ih=>simpa[aL,cH,ORL,OR]using ih
 refine⟨.s g c t 1 n ((cH xs).map .w),rfl,?_,?_,by simp[VT.fp,eV,Value.ownBlock]⟩
 ·simp only[OR]
  exact⟨trivial,hl.symm,trivial,trivial,hor⟩
 simp only[VT.ok]
 refine⟨⟨cur.toList.drop (n*1),?_,?_⟩,hnc,hcm,by simp[dN,hl],jR _⟩
 ·rw[jS,←htake,List.take_append_drop]
  simpa using hg
 rw[jS,←htake,List.take_append_drop]
 simpa using hcs
end
section
variable {f:FuncId}{args:List FV}
theorem lE {N:Nat→Prop}{w:World}{cs:List Co}{us:List Value}(hL:Loc ((aA (aK []) cs).flatMap Res.S) w w (aA (aK []) cs) [(Ib [] cs args us).on N]):cs=[]∧bC w (fun b=>b<w.heap.size∧N b) [] args us:=by
 have h:=Sh.off (hL.sh 0 rfl)
 have hc:cs=[]:=List.eq_nil_of_length_eq_zero (by have:=h.1.1;simpa[aK]using this.symm)
 subst hc
 exact⟨rfl,eJ (fun _ _=>rfl) (fun b hb=>⟨hb.1.1,hb.2⟩) .refl _ _ h.2⟩
theorem Ended.mk0 {fresh:Bool}{N:Nat→Prop}{M:List Nat}{w W:World}{R:List Lt→FV→Prop}{v:Value}{r:FV}{y:List VT}(hR:R [] r) (hb:Below w.heap.size w W) (hok:VT.okL W y) (hnd:(VT.fpL y).Nodup) (hfp:∀b∈VT.fpL y,w.heap.size≤b∧b<W.heap.size)
  (hro:RO W (fun b=>fresh=false∧(b<W.heap.size∧b∉VT.fpL y)∧(N b∨w.heap.size≤b)) [] r v y):Ended fresh N M w [] [] R (.returned v) W:=by
 refine⟨v,[],[],r,y,rfl,hR,rfl,fun _ _ _ h=>by simp at h,rfl,.refl,?_⟩
 refine⟨⟨hb.os,hb.tape,hb.output,hb.size,fun k hk _=>hb.block k hk⟩,fun q hq=>?_,fun b hb=>?_,by simpa[aK,aA,dP]using hnd,fun q hq=>?_⟩
 ·simp[aK,aA]at hq
  subst hq
  exact hok
 ·have:=hfp b (by simpa[aK,aA,dP]using hb)
  exact⟨.inr this.1,this.2⟩
 simp at hq
 subst hq
 refine⟨⟨rfl,fun k o hk=>by simp[aK]at hk⟩,iW (fun _ _=>rfl) (fun b hb=>⟨hb.1,⟨⟨hb.2.1.1,?_⟩,hb.2.2.elim .inl fun h=>.inr (.inr h)⟩⟩) .refl hro⟩
 simpa[aK,aA,dP]using hb.2.1.2
theorem Ck {v:Value}(h:∀(N:Nat→Prop) (w:World) us,bC w N [] args us→(∀b,N b→b<w.heap.size)→Calls Tryd.prog f us.toArray w (fun e w'=>e=.returned v∧Below w.heap.size w w')):aO true Tryd.prog f [] args (bJ (.one (tv v))):=by
 intro N w cs us hL
 obtain⟨rfl,hf⟩:=lE hL
 refine(h _ w us hf (fun b hb=>hb.1)).mono ?_
 rintro e W ⟨rfl,hb⟩
 refine .mk0 (y:=[.w v]) rfl hb (by simp[VT.okL,VT.ok]) (by simp[VT.fpL,VT.fp]) (by simp[VT.fpL,VT.fp]) ⟨.w v,rfl,rfl,?_⟩
 simp[CR,tv,OR]
end
theorem mX {W:World}{N:Nat→Prop}{a b:FV}{us:List Value}(h:bC W N [] [a,b] us):∃u v,us=[u,v]∧aJ W N [] a u∧aJ W N [] b v:=by
 match us,h with
 | [u,v],h=>
  simp only[bC]at h
  exact⟨u,v,rfl,h.1,h.2.1⟩
 | [],h=>simp only[bC]at h
 | [_],h=>simp only[bC]at h;exact h.2.elim
 | _::_::_::_,h=>simp only[bC]at h;exact absurd h.2.2 (by simp)
theorem Jm {W:World}{N:Nat→Prop}{a:FV}{us:List Value}(h:bC W N [] [a] us):∃u,us=[u]∧aJ W N [] a u:=by
 match us,h with
 | [u],h=>
  simp only[bC]at h
  exact⟨u,rfl,h.1⟩
 | [],h=>simp only[bC]at h
 | _::_::_,h=>simp only[bC]at h;exact absurd h.2 (by simp)
section
variable {a b:Fr4}
end
theorem tC (xs:List Nat){k:Nat}(h:k<xs.length):((aL xs).drop (k*1)).take [Tr.v (.int .u32 ((nth xs k:Nat):Int))].length=[Tr.v (.int .u32 ((nth xs k:Nat):Int))]:=by
 rw[Nat.mul_one]
 have:(aL xs)[k]? =some (Tr.v (.int .u32 ((nth xs k:Nat):Int))):=by simp[aL,aS h,h]
 rw[List.length_singleton,List.take_one]
 simp[this]
theorem bT {x:Cx}{g:Nat→FV}{ob:List (Option Ob)}(h0:x.c0.length=0) (τ:List Nat) (live:List (Nat×FV)) (os:List Ob) (hn:τ.Nodup) (h1:kQ τ g live) (h2:dA τ ob τ os):Sub x g ob (cC live) (os.map some):=
 su τ (fun k hk=>by rw[h0]at hk;cases hk) live os hn h1 h2
theorem Cl {xs ys:List Nat}{k:Nat}(h:xs.take k=ys.take k) (h1:k<xs.length) (h2:k<ys.length) (he:nth xs k=nth ys k):xs.take (k+1)=ys.take (k+1):=by
 rw[List.take_add_one,List.take_add_one,h]
 rw[aS h1,aS h2]at he
 simp[List.getElem?_eq_getElem h1,List.getElem?_eq_getElem h2,he]
theorem jF (xs:List Nat):((aL xs).map AV.t).take (xs.length*1)=(aL xs).map .t:=by rw[Nat.mul_one,List.take_of_length_le (by simp[jZ])]
theorem dL (xs:List Nat):(aL xs).length=xs.length*1:=by simp[jZ]
theorem Jn {a b:Fr4}:a=b↔(a.s=b.s∧a.t=b.t)∧a.x=b.x∧a.y=b.y:=by
 obtain⟨s,x,t,y⟩:=a
 obtain⟨s',x',t',y'⟩:=b
 simp only[Fr4.mk.injEq]
 constructor
 ·rintro⟨h1,h2,h3,h4⟩
  exact⟨⟨h1,h3⟩,h2,h4⟩
 rintro⟨⟨h1,h3⟩,h2,h4⟩
 exact⟨h1,h2,h3,h4⟩
instance:DecidableEq Fr4:=fun a b=>decidable_of_iff _ Jn.symm
def Fr4.len (a:Fr4) (m:Nat):Prop:=a.x.length≤m∧a.y.length≤m
def hv:List Nat→List Nat
 | []=>[]
 | x::xs=>x%65536::x/65536::hv xs
def lb:List Nat→List Nat
 | []=>[]
 | [a]=>[a]
 | a::b::l=>(a+65536*b)::lb l
theorem Cm (xs ys:List Nat):(aL xs).map AV.t++(aL ys).map .t=(aL (xs++ys)).map .t:=by simp[aL]
theorem gJ (a b:Nat):Int.tmod (a:Int) (b:Int)=((a%b:Nat):Int):=by
 rw[Int.tmod_eq_emod_of_nonneg (by omega)]
 rfl
theorem gK (a b:Nat):Int.tdiv (a:Int) (b:Int)=((a/b:Nat):Int):=by
 rw[Int.tdiv_eq_ediv_of_nonneg (by omega)]
 rfl
theorem lF {k:IntKind}{a:Nat}(b:Nat) (hb:b≠0) (h:eT k (a:Int)):(b:Int)≠0∧eT k (Int.tdiv (a:Int) (b:Int)):=by
 refine⟨by omega,?_⟩
 rw[gK]
 have:=Nat.div_le_self a b
 generalize a/b=c at this⊢
 cases k <;> simp only[eT]at h⊢ <;> omega
section
variable {x:Cx}{g:Nat→FV}{ob:List (Option Ob)}
theorem Du {i k n:Nat}{zs zs':List Nat}(hi:Nat.blt i x.n=true) (hg:g i=.one (.sl k 0 n)) (ho:aZ ob k=some ⟨64,1,(aL zs).map .t⟩) (hn:n=zs.length) (he:zs=zs'):Sub x g ob (aH g i (.one (.t (sU false zs')))) (ob.set k none):=by
 subst he
 have:=fz hi hg ho (by rw[jZ,hn,Nat.mul_one])
 rw[hn]at this
 exact this
end
section
variable {l:List Nat}{k N:Nat}{z:Int}{xs:List Nat}{neg:Bool}
theorem qN {a b:Nat}(h:a≤b):(dg 4294967296 a).length≤(dg 4294967296 b).length:=cR (by omega) h
end
theorem Ab (xs:List Nat){k:Nat}(h:k<xs.length):((aL xs).map AV.t)[0+k*1]? =some (tv (.int .u32 ((nth xs k:Nat):Int))):=by simp[aL,aS h,h,tv]
theorem vW (xs:List Nat){k v:Nat}(h:k<xs.length):bM ((aL xs).map AV.t) (0+k*1) [tv (.int .u32 (v:Int))]=(aL (xs.set k v)).map .t:=by
 rw[Nat.zero_add,Nat.mul_one,List.set_eq_take_append_cons_drop,if_pos h]
 simp[bM,aL,tv,List.map_take,List.map_drop]
theorem Ac (xs:List Nat){k:Nat}{a:AV}(h:k<xs.length):0+k*1+[a].length≤((aL xs).map AV.t).length:=by simp[aL];omega
structure Zi where
 s:Bool
 x:List Nat
def Zi.of (k:Int):Zi:=⟨mE k,dg 4294967296 k.natAbs⟩
def Zn (a:Zi) (k:Int):Prop:=Lim 4294967296 a.x∧a.x.length≤137438953472∧fU a.s a.x=k
theorem Zn.of {k:Int}(h:(dg 4294967296 k.natAbs).length≤137438953472):Zn (.of k) k:=⟨bH (by omega) _,h,Aa k⟩
theorem Zn.len {a:Zi}{k:Int}(h:Zn a k):(dg 4294967296 k.natAbs).length≤137438953472:=by
 obtain⟨h1,h2,rfl⟩:=h
 exact Nat.le_trans (vV h1) h2
theorem Zn.right {a:Zi}{k:Int}(h:Zn a k) (hr:dK a.s a.x=true):mE k=a.s∧dg 4294967296 k.natAbs=a.x:=by
 obtain⟨h1,h2,rfl⟩:=h
 exact⟨Fq h1 hr,pK h1 hr⟩
theorem Lq:CallOk Tryd.prog 117:=.mk Tryd.func117 (by decide) rfl
def aV (l:List Nat):Nat:=l.foldl (fun n c=>n*10+(c-48)) 0
theorem Jo {l:List Nat}{k:Nat}(h:k<l.length):aV (l.take k)*10+(nth l k-48)=aV (l.take (k+1)):=by
 have e:l[k]? =some (nth l k):=by rw[aS h];simp[h]
 rw[List.take_add_one,e]
 simp[aV]
theorem qZ:∀{l:List Nat}{k:Nat},(∀c∈l,48≤c∧c≤57)→k≤l.length→aV (l.take k)<10^k
 | l,0,_,_=>by simp[aV]
 | l,k+1,h,hk=>by
  have ih:=qZ (k:=k) h (by omega)
  have h2:=h (nth l k) (by rw[aS (by omega)];exact List.getElem_mem _)
  rw[←Jo (by omega),Nat.pow_succ]
  omega
theorem Ad {l:List Nat}{k:Nat}(h:∀c∈l,48≤c∧c≤57) (hk:k<l.length):48≤nth l k∧nth l k≤57:=h _ (by rw[aS hk];exact List.getElem_mem hk)
theorem Ft {l:List Nat}(h:∀c∈l,48≤c∧c≤57):Lim 256 l:=fun c hc=>by have:=h c hc;omega
theorem Lr {k:Nat}(h:k≤17):10^k≤100000000000000000:=Nat.le_trans (Nat.pow_le_pow_right (by omega) h) (by decide)
theorem Fu {l:List Nat}(hd:∀c∈l,48≤c∧c≤57) (h0l:0<l.length) (h18:l.length≤18):aO true Tryd.prog 117 [] [.one (tv (.string (aT l)))] (bJ (.tup [.one (tv (.int .i64 ((aV l:Nat):Int))),.one (tv .nilIface)])):=by
 refine eG Tryd.func117 rfl Tryd.ntmps117 rfl aY rfl fun N9 w9 c0 h0=>?_
 have hd0:=Ad hd h0l
 refine sq ?_;refine rl ?_;refine o1 ?_;refine o1 ?_;refine nl ?_;refine sq ?_;refine rl ?_;refine o1 ?_;refine o1 ?_
 refine WL.cast (t:=12) (u':=.int .i64 ((l.length:Nat):Int)) rfl (congrArg (fun n:Nat=>Value.int .i64 (n:Int)) (bF _)) ?_
 refine o1 ?_;refine nl ?_;refine sq ?_;refine sq ?_;refine rl ?_;refine o1 ?_;(iterate 6 refine nR ?_);(iterate 6 refine o1 ?_);refine WL.split (t:=25) rfl (fun h1=>?_) (fun h1=>?_)
 ·(iterate 5 refine o1 ?_);refine nl ?_;refine bZ rfl (fun h2=>?_) (fun h2=>?_)
  ·refine sq ?_;refine rl ?_;refine o1 ?_;refine o1 ?_;refine nl ?_;refine sq ?_;refine sq ?_;refine rl ?_;refine o1 ?_;refine o1 ?_ (hC:=(by rw[bF];show 0<l.length;omega))
   refine WL.cast (t:=33) (u':=.int .u8 (((nth l 0):Nat):Int)) rfl (congrArg (fun n:Nat=>Value.int .u8 (n:Int)) (lT (i:=0) (by omega) (by omega))) ?_
   refine o1 ?_;refine o1 ?_;refine WL.split (t:=35) rfl (fun h3=>?_) (fun h3=>?_)
   ·omega
   refine o1 ?_;refine o1 ?_ (hC:=(by rw[bF];show 0<l.length;omega))
   refine WL.cast (t:=37) (u':=.int .u8 (((nth l 0):Nat):Int)) rfl (congrArg (fun n:Nat=>Value.int .u8 (n:Int)) (lT (i:=0) (by omega) (by omega))) ?_
   refine o1 ?_;refine o1 ?_;refine nl ?_;refine bZ rfl (fun h4=>?_) (fun h4=>?_)
   ·omega
   refine sk ?_;refine sq ?_;refine rl ?_;refine o1 ?_;refine nl ?_;refine sq ?_;refine sq ?_;refine rl ?_;refine o1 ?_;refine Ow (Ft hd) (by omega) ?_
   refine o1 ?_;refine o1 ?_;refine nl ?_;refine bl ?_
   refine lp (γ:=Nat) (fun k=>cC [(5,.one (tv (.string (aT l)))),(6,.one (tv (.int .i64 ((aV (l.take k):Nat):Int)))),(47,.one (.t (.s false 5 1 l.length (aU l)))),(48,.one (tv (.int .i64 ((l.length:Nat):Int)))),(49,.one (tv (.int .i64 ((k:Nat):Int))))]) (fun _=>([]:List Ob).map some) (fun k=>k≤l.length) (fun k=>l.length-k) 0 (Nat.zero_le _) (bT h0 [] _ _ (by decide) ⟨rfl,rfl,rfl,rfl,rfl,trivial⟩ rfl) fun k hk=>?_
   refine sq ?_;refine rl ?_;refine o1 ?_;refine nl ?_;refine sq ?_;refine bZ rfl (fun h5=>?_) (fun h5=>?_)
   ·refine sk ?_;refine sq ?_;refine bl ?_;refine sq ?_;have hdk:=Ad hd (k:=k) (by omega)
    have hvk:=Nat.lt_of_lt_of_le (qZ (k:=k) hd hk) (Lr (by omega))
    refine rl ?_;refine o1 ?_;refine qG ([.v (.int .u8 ((nth l (k):Nat):Int))]) (fO l (k:=k) (by omega)) ?_
    refine o1 ?_;refine nl ?_;refine sq ?_;refine rl ?_;refine o1 ?_;refine o1 ?_;refine WL.cast (t:=54) (u':=.int .u8 (((nth l k-48):Nat):Int)) rfl (aQ (by omega)) ?_
    refine o1 ?_;refine nl ?_;refine sq ?_;refine sq ?_;refine rl ?_;refine o1 ?_;refine o1 ?_;refine nl ?_;refine bZ rfl (fun h6=>?_) (fun h6=>?_)
    ·omega
    refine sk ?_;refine rl ?_;refine o1 ?_;refine o1 ?_;refine WL.cast (t:=59) (u':=.int .i64 (((aV (l.take k)*10):Nat):Int)) rfl (aQ (by omega)) ?_
    refine o1 ?_;refine o1 ?_;refine WL.cast (t:=61) (u':=.int .i64 (((nth l k-48):Nat):Int)) rfl (aQ (by omega)) ?_
    refine o1 ?_;refine WL.cast (t:=62) (u':=.int .i64 (((aV (l.take k)*10+(nth l k-48)):Nat):Int)) rfl (aQ (by omega)) ?_
    refine WL.cast (t:=62) (u':=.int .i64 (((aV (l.take k)*10)+(nth l k-48):Nat):Int)) rfl (aQ (by omega)) ?_
    refine o1 ?_;refine nl ?_;refine rl ?_;refine o1 ?_;refine WL.cast (t:=63) (u':=.int .i64 ((k+1:Nat):Int)) rfl (aQ (by omega)) ?_
    refine o1 ?_;refine nl ?_
    exact⟨k+1,by omega,by omega,bT h0 [] _ _ (by decide) ⟨rfl,nV (congrArg (fun n:Nat=>(n:Int)) (Jo (by omega)).symm),rfl,rfl,rfl,trivial⟩ rfl⟩
   refine ex ?_;refine sq ?_;refine sq ?_;refine rl ?_;refine o1 ?_;refine o1 ?_ (hC:=(by rw[bF];show 0<l.length;omega))
   refine WL.cast (t:=65) (u':=.int .u8 (((nth l 0):Nat):Int)) rfl (congrArg (fun n:Nat=>Value.int .u8 (n:Int)) (lT (i:=0) (by omega) (by omega))) ?_
   refine o1 ?_;refine nl ?_;refine bZ rfl (fun h7=>?_) (fun h7=>?_)
   ·omega
   refine sk ?_;refine sq ?_;refine rl ?_;(iterate 3 refine o1 ?_);refine nl ?_;refine rt ?_;have hk9:k=l.length:=by omega
   exact en (.inl rfl) rfl (iG (.cons (dX _) (.cons (dX _) .nil))) (by decide) (fun _=>⟨trivial,trivial,trivial⟩) (by rw[hk9,List.take_of_length_le (Nat.le_refl _)];rfl)
  omega
 omega
theorem oG {l:List Nat}(hd:∀c∈l,48≤c∧c≤57) (h0l:0<l.length) (h18:l.length≤18):aO true Tryd.prog 86 [] [.one (tv (.string (aT l)))] (bJ (.tup [.one (tv (.int .i64 ((aV l:Nat):Int))),.one (tv .nilIface)])):=by
 refine eG Tryd.func86 rfl Tryd.ntmps86 rfl aY rfl fun N9 w9 c0 h0=>?_
 refine sq ?_;refine rl ?_;refine o1 ?_;refine o1 ?_;refine nl ?_;refine sq ?_;refine rl ?_;refine o1 ?_
 refine ca (Fu hd h0l h18) Lq ⟨a1 rfl,rfl⟩ (.tup [.one (tv (.int .i64 ((aV l:Nat):Int))),.one (tv .nilIface)]) ?_;(iterate 5 refine o1 ?_);refine nl ?_;refine sq ?_;refine sq ?_
 refine rl ?_;refine o1 ?_;refine Ox ?_ (by kernel_rfl)
 refine nl ?_;refine pW rfl ?_;refine sk ?_;refine sq ?_;refine rl ?_;(iterate 3 refine o1 ?_);refine nl ?_;refine rt ?_
 exact en (.inl rfl) rfl (iG (.cons (dX _) (.cons (dX _) .nil))) (by decide) (fun _=>⟨trivial,trivial,trivial⟩) rfl
end Go.Proofs.YteggpgndiajdpaaDoor
namespace Go.Proofs.YteggpgndiajdpaaDoor
open Go Go.Shelf
def lays160_ren:Go.Shelf.Ren:=⟨fun | 160=>85 | 232=>111 | 231=>110 | 227=>112 | 234=>114 | 233=>113 | 236=>116 | 235=>115 | 228=>125 | 271=>128 | 151=>127 | 197=>126 | 120=>136 | 152=>135 | 260=>134 | 137=>141 | 119=>142 | 224=>143 | 225=>144 | 217=>148 | 266=>150 | n=>n,fun | 9=>9 | 4=>4 | 3=>3 | 5=>5 | 117=>129 | 116=>128 | 0=>0 | 124=>132 | 21=>21 | 105=>139 | 46=>113 | 119=>156 | 139=>159 | 138=>158 | n=>n,fun | 3=>3 | 4=>4 | n=>n⟩
theorem Fv:Go.Proofs.Lays.n160 Tryd.prog lays160_ren:={
 mixed:=by kernel_rfl
 f119:=Tryd.func142.trans (congrArg some (by kernel_rfl))
 f120:=Tryd.func136.trans (congrArg some (by kernel_rfl))
 f137:=Tryd.func141.trans (congrArg some (by kernel_rfl))
 f151:=Tryd.func127.trans (congrArg some (by kernel_rfl))
 f152:=Tryd.func135.trans (congrArg some (by kernel_rfl))
 f160:=Tryd.func85.trans (congrArg some (by kernel_rfl))
 f197:=Tryd.func126.trans (congrArg some (by kernel_rfl))
 f217:=Tryd.func148.trans (congrArg some (by kernel_rfl))
 f224:=Tryd.func143.trans (congrArg some (by kernel_rfl))
 f225:=Tryd.func144.trans (congrArg some (by kernel_rfl))
 f227:=Tryd.func112.trans (congrArg some (by kernel_rfl))
 f228:=Tryd.func125.trans (congrArg some (by kernel_rfl))
 f231:=Tryd.func110.trans (congrArg some (by kernel_rfl))
 f232:=Tryd.func111.trans (congrArg some (by kernel_rfl))
 f233:=Tryd.func113.trans (congrArg some (by kernel_rfl))
 f234:=Tryd.func114.trans (congrArg some (by kernel_rfl))
 f235:=Tryd.func115.trans (congrArg some (by kernel_rfl))
 f236:=Tryd.func116.trans (congrArg some (by kernel_rfl))
 f260:=Tryd.func134.trans (congrArg some (by kernel_rfl))
 f266:=Tryd.func150.trans (congrArg some (by kernel_rfl))
 f271:=Tryd.func128.trans (congrArg some (by kernel_rfl))
 t0:=Tryd.underlying0
 a0:=Tryd.isAgg0
 z0:=Tryd.sizeOf0
 v0:=Tryd.zeroValue0
 t3:=Tryd.underlying3
 a3:=Tryd.isAgg3
 z3:=Tryd.sizeOf3
 v3:=Tryd.zeroValue3
 t4:=Tryd.underlying4
 a4:=Tryd.isAgg4
 z4:=Tryd.sizeOf4
 v4:=Tryd.zeroValue4
 t5:=Tryd.underlying5
 a5:=Tryd.isAgg5
 z5:=Tryd.sizeOf5
 v5:=Tryd.zeroValue5
 t9:=Tryd.underlying9
 a9:=Tryd.isAgg9
 z9:=Tryd.sizeOf9
 v9:=Tryd.zeroValue9
 t21:=Tryd.underlying21
 a21:=Tryd.isAgg21
 z21:=Tryd.sizeOf21
 v21:=Tryd.zeroValue21
 t46:=Tryd.underlying113
 a46:=Tryd.isAgg113
 z46:=Tryd.sizeOf113
 v46:=Tryd.zeroValue113
 t105:=Tryd.underlying139
 a105:=Tryd.isAgg139
 z105:=Tryd.sizeOf139
 v105:=Tryd.zeroValue139
 t116:=Tryd.underlying128
 a116:=Tryd.isAgg128
 z116:=Tryd.sizeOf128
 t117:=Tryd.underlying129
 a117:=Tryd.isAgg129
 z117:=Tryd.sizeOf129
 v117:=Tryd.zeroValue129
 t119:=Tryd.underlying156
 a119:=Tryd.isAgg156
 z119:=Tryd.sizeOf156
 t124:=Tryd.underlying132
 a124:=Tryd.isAgg132
 z124:=Tryd.sizeOf132
 v124:=Tryd.zeroValue132
 t138:=Tryd.underlying158
 a138:=Tryd.isAgg158
 z138:=Tryd.sizeOf158
 v138:=Tryd.zeroValue158
 t139:=Tryd.underlying159
 a139:=Tryd.isAgg159
 z139:=Tryd.sizeOf159
 v139:=Tryd.zeroValue159
 g3:=by kernel_rfl
 g4:=by kernel_rfl}
end Go.Proofs.YteggpgndiajdpaaDoor
namespace Go.Proofs.YteggpgndiajdpaaDoor
open Go Go.RowKit
section
variable {f:FuncId}{args:List FV}
theorem fV {xs:List Nat}(h:∀(N:Nat→Prop) (w:World) us,bC w N [] args us→(∀b,N b→b<w.heap.size)→Calls Tryd.prog f us.toArray w (fP xs w)):aO true Tryd.prog f [] args (bJ (.one (.t (sU true xs)))):=by
 intro N w cs us hL
 obtain⟨rfl,hf⟩:=lE hL
 refine(h _ w us hf (fun b hb=>hb.1)).mono ?_
 rintro e W ⟨A,n,c,rfl,ho,hb⟩
 obtain⟨y1,a1,a2,a3,a4⟩:=jE (N:=fun b=>true=false∧(b<W.heap.size∧b∉VT.fpL [])∧(N b∨w.heap.size≤b)) ho
 refine .mk0 (y:=[y1]) rfl hb (by simp only[VT.okL];exact⟨a3,trivial⟩) ?_ (fun b hb'=>?_) ?_
 ·simp only[VT.fpL,a4,List.append_nil]
  cases A <;> simp[Value.ownBlock]
 ·simp only[VT.fpL,a4,List.append_nil]at hb'
  exact ho.blk b hb'
 exact⟨y1,rfl,a1.symm,dU (fun _ _=>rfl) (fun b hb=>absurd hb.1 (by simp)) _ _ a2⟩
variable {xs ys:List Nat}
theorem dS {W:World}{N:Nat→Prop}{v:Value}(h:aJ W N [] (.one (.t (sU false xs))) v) (hl:Lim 4294967296 xs) (hN:∀b,N b→b<W.heap.size):∃A c,v=.slice A xs.length c∧U32 W W.heap.size A xs.length c xs:=by
 simp only[aJ,AR]at h
 obtain⟨A,c,rfl,l⟩:=Fs h hl
 exact⟨A,c,rfl,l.u32 hN⟩
theorem Jp (hx:Lim 4294967296 xs) (h:xs.length≤1099511627776):aO true Tryd.prog 47 [] [.one (.t (sU false xs))] (bJ (.one (.t (sU true (trim xs))))):=fV fun N w us hf hN=>by
 obtain⟨u,rfl,h1⟩:=Jm hf
 obtain⟨A,c,rfl,u1⟩:=dS h1 hx hN
 exact cB A _ c xs w u1 h
theorem Fw (hx:Lim 4294967296 xs) (h:xs.length≤1099511627776):aO true Tryd.prog 69 [] [.one (.t (sU false xs))] (bJ (.one (.t (sU true xs)))):=fV fun N w us hf hN=>by
 obtain⟨u,rfl,h1⟩:=Jm hf
 obtain⟨A,c,rfl,u1⟩:=dS h1 hx hN
 exact lU A _ c xs w u1 h
theorem Ls (hx:Lim 4294967296 xs) (hy:Lim 4294967296 ys) (h:xs.length≤1099511627776) (h':ys.length≤1099511627776):aO true Tryd.prog 53 [] [.one (.t (sU false xs)),.one (.t (sU false ys))] (bJ (.one (.t (sU true (dg 4294967296 (vl 4294967296 xs+vl 4294967296 ys)))))):=fV fun N w us hf hN=>by
 obtain⟨u,v,rfl,h1,h2⟩:=mX hf
 obtain⟨A,c,rfl,u1⟩:=dS h1 hx hN
 obtain⟨B,d,rfl,u2⟩:=dS h2 hy hN
 exact Ce A B _ _ c d xs ys w u1 u2 h h'
theorem Lu (hx:Lim 4294967296 xs) (hy:Lim 4294967296 ys) (h:xs.length≤549755813888) (h':ys.length≤549755813888):aO true Tryd.prog 49 [] [.one (.t (sU false xs)),.one (.t (sU false ys))] (bJ (.one (.t (sU true (dg 4294967296 (vl 4294967296 xs*vl 4294967296 ys)))))):=fV fun N w us hf hN=>by
 obtain⟨u,v,rfl,h1,h2⟩:=mX hf
 obtain⟨A,c,rfl,u1⟩:=dS h1 hx hN
 obtain⟨B,d,rfl,u2⟩:=dS h2 hy hN
 exact Fi A B _ _ c d xs ys w u1 u2 h h'
theorem lG (A:Option Addr) (n c:Nat):((Value.slice A n c).ownBlock.toList).Nodup:=by cases A <;> simp[Value.ownBlock]
theorem Cn (hx:Lim 4294967296 xs) (hy:Lim 4294967296 ys) (h:xs.length≤549755813888) (h':ys.length≤549755813888) (h0:vl 4294967296 ys≠0):aO true Tryd.prog 40 [] [.one (.t (sU false xs)),.one (.t (sU false ys))] (bJ (.tup [.one (.t (sU true (dg 4294967296 (vl 4294967296 xs/vl 4294967296 ys)))),.one (.t (sU true (dg 4294967296 (vl 4294967296 xs%vl 4294967296 ys)))),.one (tv (.int .i64 0))])):=by
 intro N w cs us hL
 obtain⟨rfl,hf⟩:=lE hL
 obtain⟨u,v,rfl,h1,h2⟩:=mX hf
 obtain⟨A,c,rfl,u1⟩:=dS h1 hx fun b hb=>hb.1
 obtain⟨B,d,rfl,u2⟩:=dS h2 hy fun b hb=>hb.1
 refine(xQ A B _ _ c d xs ys w u1 u2 h h' h0).mono ?_
 rintro e W ⟨A1,n1,c1,A2,n2,c2,rfl,ho,ho2,hap,hb⟩
 obtain⟨y1,a1,a2,a3,a4⟩:=jE (N:=fun b=>true=false∧(b<W.heap.size∧b∉VT.fpL [])∧(N b∨w.heap.size≤b)) ho
 obtain⟨y2,b1,b2,b3,b4⟩:=jE (N:=fun b=>true=false∧(b<W.heap.size∧b∉VT.fpL [])∧(N b∨w.heap.size≤b)) ho2
 refine .mk0 (y:=[y1,y2,.w (.int .i64 0)]) rfl hb (by simp only[VT.okL,VT.ok];exact⟨a3,b3,trivial,trivial⟩) ?_ (fun b hb'=>?_) ?_
 ·simp only[VT.fpL,VT.fp,a4,b4,List.append_nil]
  rw[List.nodup_append]
  refine⟨lG ..,lG ..,fun x hx y hy e=>?_⟩
  subst e
  rcases A1 with _ | a
  ·simp[Value.ownBlock]at hx
  rcases A2 with _ | b
  ·simp[Value.ownBlock]at hy
  simp[Value.ownBlock]at hx hy
  exact hap a b rfl rfl (by rw[←hx,←hy])
 ·simp only[VT.fpL,VT.fp,a4,b4,List.append_nil]at hb'
  rcases List.mem_append.1 hb' with hb' | hb'
  ·exact ho.blk b hb'
  exact ho2.blk b hb'
 refine⟨[_,_,_],rfl,?_⟩
 exact⟨_,_,[y1],[y2,.w (.int .i64 0)],rfl,rfl,⟨y1,rfl,a1.symm,dU (fun _ _=>rfl) (fun b hb=>absurd hb.1 (by simp)) _ _ a2⟩,_,_,[y2],[.w (.int .i64 0)],rfl,rfl,⟨y2,rfl,b1.symm,dU (fun _ _=>rfl) (fun b hb=>absurd hb.1 (by simp)) _ _ b2⟩,_,_,[.w (.int .i64 0)],[],rfl,rfl,⟨_,rfl,rfl,by simp[CR,tv,OR]⟩,rfl,rfl⟩
end
section
variable {xs:List Nat}
theorem xT {d:Nat}(hx:Lim 4294967296 xs) (h:xs.length≤1099511627776) (hd0:0<d) (hd:d<4294967296):aO true Tryd.prog 76 [] [.one (.t (sU false xs)),.one (tv (.int .u32 (d:Int)))] (bJ (.tup [.one (.t (sU true (dg 4294967296 (vl 4294967296 xs/d)))),.one (tv (.int .u32 ((vl 4294967296 xs%d:Nat):Int))),.one (tv (.int .i64 0))])):=by
 intro N w cs us hL
 obtain⟨rfl,hf⟩:=lE hL
 obtain⟨u,v,rfl,h1,h2⟩:=mX hf
 obtain⟨A,c,rfl,u1⟩:=dS h1 hx fun b hb=>hb.1
 obtain rfl:=aC (eP h2)
 refine(gA A _ c d xs w u1 h hd0 hd).mono ?_
 rintro e W ⟨A,n,c,rfl,ho,hb⟩
 obtain⟨y1,a1,a2,a3,a4⟩:=jE (N:=fun b=>true=false∧(b<W.heap.size∧b∉VT.fpL [])∧(N b∨w.heap.size≤b)) ho
 refine .mk0 (y:=[y1,.w (.int .u32 ((vl 4294967296 xs%d:Nat):Int)),.w (.int .i64 0)]) rfl hb (by simp only[VT.okL,VT.ok];exact⟨a3,trivial,trivial,trivial⟩) ?_ (fun b hb'=>?_) ?_
 ·simp only[VT.fpL,VT.fp,a4,List.append_nil]
  exact lG A n c
 ·simp only[VT.fpL,VT.fp,a4,List.append_nil]at hb'
  exact ho.blk b hb'
 refine⟨[_,_,_],rfl,?_⟩
 exact⟨_,_,[y1],[.w _,.w (.int .i64 0)],rfl,rfl,⟨y1,rfl,a1.symm,dU (fun _ _=>rfl) (fun b hb=>absurd hb.1 (by simp)) _ _ a2⟩,_,_,[.w _],[.w (.int .i64 0)],rfl,rfl,⟨_,rfl,rfl,by simp[CR,tv,OR]⟩,_,_,[.w (.int .i64 0)],[],rfl,rfl,⟨_,rfl,rfl,by simp[CR,tv,OR]⟩,rfl,rfl⟩
theorem vX {v:Nat}(hx:Lim 4294967296 xs) (h:xs.length≤1099511627776) (hv:vl 4294967296 xs=v):aO true Tryd.prog 47 [] [.one (.t (sU false xs))] (bJ (.one (.t (sU true (dg 4294967296 v))))):=by
 have e:=cY (B:=4294967296) (by omega) hx
 rw[←hv,e]
 exact Jp hx h
theorem Jq {u d:Nat}(h:(dg 4294967296 u).length≤1099511627776) (hd0:0<d) (hd:d<4294967296):aO true Tryd.prog 76 [] [.one (.t (sU false (dg 4294967296 u))),.one (tv (.int .u32 (d:Int)))] (bJ (.tup [.one (.t (sU true (dg 4294967296 (u/d)))),.one (tv (.int .u32 ((u%d:Nat):Int))),.one (tv (.int .i64 0))])):=by
 have e:=bK (B:=4294967296) (by omega) u
 have h2:=xT (xs:=dg 4294967296 u) (d:=d) (bH (by omega) _) h hd0 hd
 rw[e]at h2
 exact h2
end
theorem tD {l:List Nat}(hn:l.length≤9223372036854775807):aO true Tryd.prog 85 [] [.one (tv (.string (aT l))),.one (tv (.string ⟨#[48,49,50,51,52,53,54,55,56,57]⟩))] (bJ (.one (tv (.string ⟨(Lib.trimS (aT l).data.toList [48,49,50,51,52,53,54,55,56,57]).toArray⟩)))):=Ck fun N w us hf hN=>by
 obtain⟨u,v,rfl,h1,h2⟩:=mX hf
 obtain rfl:=aC (eP h1)
 obtain rfl:=aC (eP h2)
 exact Go.Proofs.Any.strings_Trim_laid Fv (by kernel_rfl) (aT l) ⟨#[48,49,50,51,52,53,54,55,56,57]⟩ w (by rw[bF];omega) (by decide) (fun j b h=>(by decide:∀b∈([48,49,50,51,52,53,54,55,56,57]:List UInt8),b.toNat<128) b (List.mem_of_getElem? h))
theorem tE {α:Type}{p:α→Bool}:∀{l:List α},l.dropWhile p=[]↔∀x∈l,p x=true
 | []=>by simp
 | x::l=>by
  rw[List.dropWhile_cons]
  by_cases h:p x=true
  ·rw[if_pos h,tE];simp[h]
  rw[if_neg h];simp[h]
theorem Ae {l cs:List UInt8}:Lib.trimS l cs=[]↔∀x∈l,cs.contains x=true:=by
 unfold Lib.trimS Lib.trimLeftS Lib.trimRightS
 rw[tE]
 refine⟨fun h=>?_,fun h x hx=>h x (by simpa using(List.dropWhile_sublist _).subset (List.mem_reverse.1 hx))⟩
 cases hq:l.reverse.dropWhile (cs.contains ·)with
 | nil=>exact fun x hx=>tE.1 hq x (List.mem_reverse.2 hx)
 | cons y ys=>
  have h1:=h y (by rw[hq];simp)
  have h2:=List.head?_dropWhile_not (cs.contains ·) l.reverse
  rw[hq]at h2
  simp at h2
  exact absurd (by simpa using h1) h2
theorem oH {xs:List Nat}{m:Nat}(hx:Lim 4294967296 xs) (h:xs.length≤1099511627776) (hm:m<4294967296):aO true Tryd.prog 87 [] [.one (.t (sU false xs)),.one (tv (.int .u32 (m:Int)))] (bJ (.one (.t (sU true (dg 4294967296 (vl 4294967296 xs*m)))))):=fV fun N w us hf hN=>by
 obtain⟨u,v,rfl,h1,h2⟩:=mX hf
 obtain⟨A,c,rfl,u1⟩:=dS h1 hx hN
 obtain rfl:=aC (eP h2)
 exact kG A _ c m xs w u1 h hm
def Zg (a:Zi) (k:Int):Prop:=Lim 4294967296 a.x∧a.x.length≤300000000000∧fU a.s a.x=k
theorem Zn.g {a:Zi}{k:Int}(h:Zn a k):Zg a k:=⟨h.1,Nat.le_trans h.2.1 (by omega),h.2.2⟩
theorem Zg.of {k:Int}(h:(dg 4294967296 k.natAbs).length≤300000000000):Zg (.of k) k:=⟨bH (by omega) _,h,Aa k⟩
theorem Zg.len {a:Zi}{k:Int}(h:Zg a k):(dg 4294967296 k.natAbs).length≤300000000000:=by
 obtain⟨h1,h2,rfl⟩:=h
 exact Nat.le_trans (vV h1) h2
theorem hG (xs:List Nat):((aL xs).map AV.t).take (aL xs).length=(aL xs).map .t:=List.take_of_length_le (by simp)
section
variable {α:Type}{f:α→List Tr}{z:Nat}{xs:List α}{k o:Nat}{x x' y:α}{us:List Tr}
end
def zv (a:Zi):Int:=fU a.s a.x
def ZL (L:Nat) (a:Zi):Prop:=Lim 4294967296 a.x∧a.x.length≤L
theorem ZL.n {L:Nat}{a:Zi}(h:ZL L a) (hL:L≤137438953472):Zn a (zv a):=⟨h.1,Nat.le_trans h.2 hL,rfl⟩
theorem tF {α:Type}{l:List α}{k:Nat}(h:l.length≤k):l.take k=l:=List.take_of_length_le h
def mF (l:List Nat):Bool:=l.all fun c=>decide (48≤c∧c≤57)
theorem Fx {l:List Nat}(h:mF l=true):∀c∈l,48≤c∧c≤57:=by simpa[mF]using h
theorem Af:∀c<256,([48,49,50,51,52,53,54,55,56,57]:List UInt8).contains (UInt8.ofNat c)=decide (48≤c∧c≤57):=by decide+kernel
theorem vY {l:List Nat}(h:Lim 256 l):((⟨(Lib.trimS (aT l).data.toList [48,49,50,51,52,53,54,55,56,57]).toArray⟩:ByteArray).toList==(⟨#[]⟩:ByteArray).toList)=mF l:=by
 rw[ByteArray.toList_eq,ByteArray.toList_eq,Bool.eq_iff_iff,beq_iff_eq]
 show Lib.trimS _ _=[]↔_
 rw[Ae,fF]
 unfold mF
 rw[List.all_eq_true]
 refine⟨fun g c hc=>?_,fun g x hx=>?_⟩
 ·rw[←Af c (h c hc)]
  exact g _ (List.mem_map.2 ⟨c,hc,rfl⟩)
 obtain⟨c,hc,rfl⟩:=List.mem_map.1 hx
 rw[Af c (h c hc)]
 exact g c hc
def eX (l:List Nat):Bool:=decide (l=[])||(!decide (l=[48])&&decide (nth l 0=48))|| !mF l
def lH (l:List Nat):Int:=if eX l then 60 else if 4096<l.length then 3 else 0
def Dv (l:List Nat):Nat:=if lH l=0 then aV l else 0
theorem Dw {l:List Nat}(h:decide (l=[])=true):eX l=true:=by simp[eX,h]
theorem Dx {l:List Nat}(h:decide (l=[48])=false) (h2:nth l 0=48):eX l=true:=by simp[eX,h,h2]
theorem xU {l:List Nat}(h:mF l=false):eX l=true:=by simp[eX,h]
theorem Ag {l:List Nat}(h0:decide (l=[])=false) (h:decide (l=[48])=true∨¬nth l 0=48) (h2:mF l=true):eX l=false:=by
 rcases h with h | h <;> simp[eX,h0,h,h2]
theorem rA {l:List Nat}(h:eX l=true):lH l=60:=by simp[lH,h]
theorem Jr {l:List Nat}(h:eX l=false) (h2:4096<l.length):lH l=3:=by simp[lH,h,h2]
theorem Js {l:List Nat}(h:eX l=false) (h2:¬4096<l.length):lH l=0:=by simp[lH,h,h2]
theorem Dy {l:List Nat}(h:lH l=0):Dv l=aV l:=if_pos h
theorem lW {l:List Nat}(h:¬lH l=0):Dv l=0:=if_neg h
theorem tG {l:List Nat}(h:eX l=false):∀c∈l,48≤c∧c≤57:=by
 refine Fx ?_
 cases hq:mF l with
 | true=>rfl
 | false=>rw[xU hq]at h;cases h
theorem Cp (m:List Nat):∀n:Nat,m.foldl (fun n c=>n*10+(c-48)) n=n*10^m.length+aV m:=by
 induction m with
 | nil=>intro n;simp[aV]
 | cons c m ih=>
  intro n
  have e:aV (c::m)=(0*10+(c-48))*10^m.length+aV m:=ih _
  rw[List.foldl_cons,ih,e,List.length_cons,Nat.pow_succ,Nat.zero_mul,Nat.zero_add,Nat.add_mul,Nat.mul_assoc,Nat.mul_comm 10,Nat.add_assoc]
theorem vZ (l m:List Nat):aV (l++m)=aV l*10^m.length+aV m:=by
 show(l++m).foldl _ 0=_
 rw[List.foldl_append,Cp]
 rfl
theorem iI {l:List Nat}{j f:Nat}(h:j+f≤l.length) (hf:j=0∨f=9):aV (l.take j)*1000000000+aV ((l.drop j).take f)=aV (l.take (j+f)):=by
 rw[List.take_add,vZ,List.length_take,List.length_drop,Nat.min_eq_left (by omega)]
 rcases hf with rfl | rfl
 ·simp[aV]
 rfl
theorem Fy {l:List Nat}(h:∀c∈l,48≤c∧c≤57){j:Nat}(hj:j≤l.length):aV (l.take j)<4294967296^j:=Nat.lt_of_lt_of_le (qZ h hj) (Nat.pow_le_pow_left (by omega) j)
theorem lX {l:List Nat}(h:∀c∈l,48≤c∧c≤57){j:Nat}(hj:j≤l.length):(dg 4294967296 (aV (l.take j))).length≤j:=aM (by omega) (Fy h hj)
theorem kA {l:List Nat}(h:∀c∈l,48≤c∧c≤57) (j f:Nat):∀c∈(l.drop j).take f,48≤c∧c≤57:=fun c hc=>h c (List.mem_of_mem_drop (List.mem_of_mem_take hc))
theorem kB {l:List Nat}(h:∀c∈l,48≤c∧c≤57){j f:Nat}(hj:j+f≤l.length) (hf:f≤9):aV ((l.drop j).take f)<1000000000:=
 Nat.lt_of_lt_of_le (qZ (l:=l.drop j) (k:=f) (fun c hc=>h c (List.mem_of_mem_drop hc)) (by rw[List.length_drop];omega)) (Nat.le_trans (Nat.pow_le_pow_right (by omega) hf) (by decide))
theorem Fz (ds:List Nat):aV (bO ds).reverse=vl 10 ds:=by
 induction ds with
 | nil=>rfl
 | cons d ds ih=>
  have e:(bO (d::ds)).reverse=(bO ds).reverse++[48+d]:=by simp[bO]
  rw[e,vZ,ih]
  simp[aV,vl]
  omega
theorem oI {u m:Nat}(h:(dg 4294967296 u).length≤1099511627776) (hm:m<4294967296):aO true Tryd.prog 87 [] [.one (.t (sU false (dg 4294967296 u))),.one (tv (.int .u32 (m:Int)))] (bJ (.one (.t (sU true (dg 4294967296 (u*m)))))):=by
 have h1:=oH (bH (by omega) u) h hm
 rwa[bK (by omega)]at h1
theorem oJ {u x:Nat}(h:(dg 4294967296 u).length≤1099511627776) (hx:x<4294967296):aO true Tryd.prog 53 [] [.one (.t (sU false (dg 4294967296 u))),.one (.t (sU false [x]))] (bJ (.one (.t (sU true (dg 4294967296 (u+x)))))):=by
 have h1:=Ls (bH (by omega) u) (Lim.cons hx Lim.nil) h (by simp)
 rw[bK (by omega)]at h1
 have e:vl 4294967296 [x]=x:=by simp[vl]
 rwa[e]at h1
theorem Ga {l:List Nat}(h:decide (l=[])=false):0<l.length:=by
 cases l with
 | nil=>simp at h
 | cons _ _=>simp
theorem wA {l:List Nat}{j:Nat}(h:(!decide (l.drop j=[]))=true):j<l.length:=by
 rcases Nat.lt_or_ge j l.length with h1 | h1
 ·exact h1
 rw[List.drop_of_length_le h1]at h;simp at h
theorem wB {l:List Nat}{j:Nat}(h:(!decide (l.drop j=[]))=false):l.length≤j:=by
 rcases Nat.lt_or_ge j l.length with h1 | h1
 ·have h2:=of_decide_eq_true (vK h)
  have h3:=congrArg List.length h2
  rw[List.length_drop,List.length_nil]at h3
  omega
 exact h1
theorem Gb {l:List Nat}(hl:Lim 256 l) (hn:l.length≤9223372036854775807):aO true Tryd.prog 45 [] [.one (tv (.string (aT l)))] (bJ (.tup [.one (.t (sU true (dg 4294967296 (Dv l)))),.one (tv (.int .i64 (lH l)))])):=by
 refine eG Tryd.func45 rfl Tryd.ntmps45 rfl aY rfl fun N9 w9 c0 h0=>?_
 refine sq ?_;refine rl ?_;refine o1 ?_;refine o1 ?_;refine nl ?_;refine sq ?_;refine bl ?_;refine sq ?_;refine sq ?_;refine rl ?_;refine o1 ?_;refine o1 ?_
 refine WL.cast (t:=10) (u':=.bool (decide (l=[]))) rfl (congrArg Value.bool (jA hl)) ?_;refine o1 ?_;refine nl ?_;refine mA rfl (fun h1=>?_) (fun h1=>?_)
 ·refine sk ?_;refine uP (congrArg (fun b=>FV.one (tv (.bool b))) h1) ?_
  refine sq ?_;refine rl ?_;refine o1 ?_;refine o1 ?_;refine nl ?_;refine rt ?_;have he:=rA (Dw h1)
  exact en (.inl rfl) rfl (iG (.cons (.one (.nil (t:=64) (z:=1))) (.cons (dX _) .nil))) (by decide) (fun _=>⟨.inl ⟨rfl,trivial⟩,trivial,trivial⟩) (by rw[he,lW (by rw[he];decide)];rfl)
 refine sq ?_;have hp9:=Ga h1
 refine rl ?_;refine o1 ?_;refine o1 ?_
 refine WL.cast (t:=12) (u':=.bool (!decide (l=[48]))) rfl (congrArg Value.bool (congrArg not (xE (l':=[48]) hl (Lim.cons (by omega) Lim.nil)))) ?_
 refine o1 ?_;refine WL.splitb (t:=13) rfl (fun h2=>?_) (fun h2=>?_)
 ·refine o1 ?_;refine o1 ?_ (hC:=(by rw[bF];show 0<l.length;omega))
  refine WL.cast (t:=15) (u':=.int .u8 (((nth l 0):Nat):Int)) rfl (congrArg (fun n:Nat=>Value.int .u8 (n:Int)) (lT (i:=0) (by omega) (vL hl (by omega)))) ?_
  (iterate 3 refine o1 ?_);refine nl ?_;refine bZ rfl (fun h3=>?_) (fun h3=>?_)
  ·refine sk ?_;refine bZ rfl (fun h4=>?_) (fun h4=>?_)
   ·refine sq ?_;refine rl ?_;refine o1 ?_;refine o1 ?_;refine nl ?_;refine rt ?_;have he:=rA (Dx (Dr h2) (by omega))
    exact en (.inl rfl) rfl (iG (.cons (.one (.nil (t:=64) (z:=1))) (.cons (dX _) .nil))) (by decide) (fun _=>⟨.inl ⟨rfl,trivial⟩,trivial,trivial⟩) (by rw[he,lW (by rw[he];decide)];rfl)
   omega
  refine rl ?_;refine o1 ?_;refine ca (tD hn) Ik ⟨a1 rfl,a1 rfl,rfl⟩ (.one (tv (.string ⟨(Lib.trimS (aT l).data.toList [48,49,50,51,52,53,54,55,56,57]).toArray⟩))) ?_
  refine o1 ?_;refine WL.cast (t:=20) (u':=.bool (!mF l)) rfl (congrArg Value.bool (congrArg not (vY hl))) ?_;refine o1 ?_;refine nl ?_;refine mA rfl (fun h5=>?_) (fun h5=>?_)
  ·refine sq ?_;refine rl ?_;refine o1 ?_;refine o1 ?_;refine nl ?_;refine rt ?_;have he:=rA (xU (Dr h5))
   exact en (.inl rfl) rfl (iG (.cons (.one (.nil (t:=64) (z:=1))) (.cons (dX _) .nil))) (by decide) (fun _=>⟨.inl ⟨rfl,trivial⟩,trivial,trivial⟩) (by rw[he,lW (by rw[he];decide)];rfl)
  refine sq ?_;have hg:=Ag h1 (.inr (by omega)) (vK h5)
  have hdg:=tG hg
  refine rl ?_;refine o1 ?_;refine o1 ?_;refine WL.cast (t:=23) (u':=.int .i64 ((l.length:Nat):Int)) rfl (congrArg (fun n:Nat=>Value.int .i64 (n:Int)) (bF _)) ?_
  refine o1 ?_;refine o1 ?_;refine nl ?_;refine bZ rfl (fun h6=>?_) (fun h6=>?_)
  ·refine sq ?_;refine rl ?_;refine o1 ?_;refine o1 ?_;refine nl ?_;refine rt ?_;have he:=Jr hg (by omega)
   exact en (.inl rfl) rfl (iG (.cons (.one (.nil (t:=64) (z:=1))) (.cons (dX _) .nil))) (by decide) (fun _=>⟨.inl ⟨rfl,trivial⟩,trivial,trivial⟩) (by rw[he,lW (by rw[he];decide)];rfl)
  refine sk ?_;refine sq ?_;refine rl ?_;refine o1 ?_;refine nl ?_;refine sq ?_;refine sq ?_;refine rl ?_;refine o1 ?_;refine o1 ?_
  refine WL.cast (t:=26) (u':=.int .i64 ((l.length:Nat):Int)) rfl (congrArg (fun n:Nat=>Value.int .i64 (n:Int)) (bF _)) ?_
  refine o1 ?_;refine WL.cast (t:=27) (u':=.int .i64 ((l.length%9:Nat):Int)) rfl (aQ (gJ _ 9)) ?_;refine o1 ?_;refine nl ?_;refine bl ?_
  refine lp (γ:=Nat×Nat) (fun s=>cC [(0,.one (tv (.string (aT (l.drop s.1))))),(4,.one (.sl 0 0 ((dg 4294967296 (aV (l.take s.1))).length))),(5,.one (tv (.int .i64 ((s.2:Nat):Int))))]) (fun s=>[(⟨64,1,(aL (dg 4294967296 (aV (l.take s.1)))).map .t⟩:Ob)].map some) (fun s=>s.1≤l.length∧(s.1=0∧s.2=l.length%9∨0<s.1∧s.2=9∧(l.length-s.1)%9=0)) (fun s=>l.length-s.1) (0,l.length%9) ⟨Nat.zero_le _,.inl ⟨rfl,rfl⟩⟩ ((nr (i:=4) 0 64 1 rfl rfl rfl rfl).trans (bT h0 [0] _ _ (by decide) ⟨rfl,rfl,rfl,trivial⟩ ⟨cT (l:=[]) rfl,rfl⟩)) ?_
  rintro⟨j,f⟩ ⟨hj,hf⟩;dsimp only at hj hf⊢;refine sq ?_;refine sq ?_;refine rl ?_;refine o1 ?_;refine o1 ?_
  refine WL.cast (t:=29) (u':=.bool (!decide (l.drop j=[]))) rfl (congrArg Value.bool (congrArg not (jA (mU hl j)))) ?_;refine nl ?_
  refine mA rfl (fun h7=>?_) (fun h7=>?_)
  ·refine sk ?_;refine sq ?_;refine bl ?_;refine sq ?_;refine sq ?_;have hjl:=wA h7
   refine rl ?_;refine o1 ?_;refine o1 ?_;refine nl ?_;refine bZ rfl (fun h8=>?_) (fun h8=>?_)
   ·refine rl ?_;refine o1 ?_;refine nl ?_;refine sq ?_;refine rl ?_;refine o1 ?_;refine o1 ?_;refine o1 ?_ (hC:=(by rw[bF,List.length_drop];show 9≤l.length-j;omega))
    refine WL.cast (t:=35) (u':=.string (aT ((l.drop j).take 9))) rfl (congrArg Value.string ((lC _ 0 _).trans rfl)) ?_
    refine ca (oG (l:=((l.drop j).take 9)) (kA hdg j 9) (by rw[List.length_take,List.length_drop];omega) (by rw[List.length_take];omega)) xB ⟨a1 rfl,rfl⟩ (.tup [.one (tv (.int .i64 ((aV ((l.drop j).take 9):Nat):Int))),.one (tv .nilIface)]) ?_
    (iterate 5 refine o1 ?_);refine nl ?_;refine sq ?_;have hpl:=kB hdg (j:=j) (f:=9) (by omega) (by omega)
    have hpc:=iI (l:=l) (j:=j) (f:=9) (by omega) (by omega)
    have hl1:=lX hdg hj
    have hl2:=gE (aV (l.take j)) 1000000000
    have hl3:(dg 4294967296 1000000000).length≤1:=aM (by omega) (by decide)
    refine rl ?_;refine o1 ?_
    refine ca (oI (u:=aV (l.take j)) (m:=1000000000) (by omega) (by omega)) sK ⟨dZ rfl (.sl rfl rfl (hG _) (dL _)),a1 rfl,rfl⟩ (.one (.t (sU false (dg 4294967296 (aV (l.take j)*1000000000))))) ?_
    refine o1 ?_;refine o1 ?_;refine WL.cast (t:=42) (u':=.int .u32 ((aV ((l.drop j).take 9):Nat):Int)) rfl (aQ (by omega)) ?_
    refine bs 1 ?_
    refine sL 2 (oJ (u:=aV (l.take j)*1000000000) (x:=aV ((l.drop j).take 9)) (by omega) (by omega)) xA ⟨a1 rfl,dZ rfl (.sl (trs:=aL [aV ((l.drop j).take 9)]) rfl rfl rfl rfl),rfl⟩ ?_
    refine o1 ?_;refine nl ?_;refine rl ?_;refine o1 ?_;refine o1 ?_;refine o1 ?_ (hC:=(by rw[bF,List.length_drop];show 9≤l.length-j;omega))
    refine WL.cast (t:=47) (u':=.string (aT ((l.drop j).drop 9))) rfl (congrArg Value.string (iZ _ _)) ?_;refine o1 ?_;refine nl ?_;refine rl ?_;refine o1 ?_;refine nl ?_
    exact⟨(j+9,9),by dsimp only;omega,⟨by dsimp only;omega,.inr ⟨by dsimp only;omega,rfl,by dsimp only;omega⟩⟩,bT h0 [2] _ _ (by decide) ⟨(congrArg (fun l:List Nat=>some (FV.one (tv (.string (aT l))))) (by rw[List.drop_drop])),(congrArg (fun z:Nat=>some (FV.one (.sl 2 0 (dg 4294967296 z).length))) hpc.symm),rfl,trivial⟩ ⟨cT (congrArg (fun z:Nat=>some (⟨64,1,(aL (dg 4294967296 z)).map .t⟩:Ob)) hpc),rfl⟩⟩
   refine sk ?_;refine sq ?_;refine rl ?_;refine o1 ?_;refine o1 ?_;refine o1 ?_ (hC:=(by rw[bF,List.length_drop];show f≤l.length-j;omega))
   refine WL.cast (t:=35) (u':=.string (aT ((l.drop j).take f))) rfl (congrArg Value.string ((lC _ 0 _).trans rfl)) ?_
   refine ca (oG (l:=((l.drop j).take f)) (kA hdg j f) (by rw[List.length_take,List.length_drop];omega) (by rw[List.length_take];omega)) xB ⟨a1 rfl,rfl⟩ (.tup [.one (tv (.int .i64 ((aV ((l.drop j).take f):Nat):Int))),.one (tv .nilIface)]) ?_
   (iterate 5 refine o1 ?_);refine nl ?_;refine sq ?_;have hpl:=kB hdg (j:=j) (f:=f) (by omega) (by omega)
   have hpc:=iI (l:=l) (j:=j) (f:=f) (by omega) (by omega)
   have hl1:=lX hdg hj
   have hl2:=gE (aV (l.take j)) 1000000000
   have hl3:(dg 4294967296 1000000000).length≤1:=aM (by omega) (by decide)
   refine rl ?_;refine o1 ?_
   refine ca (oI (u:=aV (l.take j)) (m:=1000000000) (by omega) (by omega)) sK ⟨dZ rfl (.sl rfl rfl (hG _) (dL _)),a1 rfl,rfl⟩ (.one (.t (sU false (dg 4294967296 (aV (l.take j)*1000000000))))) ?_
   refine o1 ?_;refine o1 ?_;refine WL.cast (t:=42) (u':=.int .u32 ((aV ((l.drop j).take f):Nat):Int)) rfl (aQ (by omega)) ?_
   refine bs 1 ?_
   refine sL 2 (oJ (u:=aV (l.take j)*1000000000) (x:=aV ((l.drop j).take f)) (by omega) (by omega)) xA ⟨a1 rfl,dZ rfl (.sl (trs:=aL [aV ((l.drop j).take f)]) rfl rfl rfl rfl),rfl⟩ ?_
   refine o1 ?_;refine nl ?_;refine rl ?_;refine o1 ?_;refine o1 ?_;refine o1 ?_ (hC:=(by rw[bF,List.length_drop];show f≤l.length-j;omega))
   refine WL.cast (t:=47) (u':=.string (aT ((l.drop j).drop f))) rfl (congrArg Value.string (iZ _ _)) ?_;refine o1 ?_;refine nl ?_;refine rl ?_;refine o1 ?_;refine nl ?_
   exact⟨(j+f,9),by dsimp only;omega,⟨by dsimp only;omega,.inr ⟨by dsimp only;omega,rfl,by dsimp only;omega⟩⟩,bT h0 [2] _ _ (by decide) ⟨(congrArg (fun l:List Nat=>some (FV.one (tv (.string (aT l))))) (by rw[List.drop_drop])),(congrArg (fun z:Nat=>some (FV.one (.sl 2 0 (dg 4294967296 z).length))) hpc.symm),rfl,trivial⟩ ⟨cT (congrArg (fun z:Nat=>some (⟨64,1,(aL (dg 4294967296 z)).map .t⟩:Ob)) hpc),rfl⟩⟩
  refine ex ?_;refine sq ?_;refine rl ?_;(iterate 3 refine o1 ?_);refine nl ?_;refine rt ?_;have hjl:=wB h7
  have he:=Js hg (by omega)
  exact en (.inl rfl) rfl (iG (.cons (.one (.sl (trs:=aL (dg 4294967296 (aV (l.take j)))) rfl rfl (jF _) (dL _))) (.cons (dX _) .nil))) (by decide) (fun _=>⟨.inl ⟨rfl,fH _⟩,trivial,trivial⟩) (by rw[he,Dy he,List.take_of_length_le hjl];rfl)
 (iterate 3 refine nR ?_);refine o1 ?_;refine o1 ?_;refine nl ?_;refine pW rfl ?_;refine rl ?_;refine o1 ?_
 refine ca (tD hn) Ik ⟨a1 rfl,a1 rfl,rfl⟩ (.one (tv (.string ⟨(Lib.trimS (aT l).data.toList [48,49,50,51,52,53,54,55,56,57]).toArray⟩))) ?_;refine o1 ?_
 refine WL.cast (t:=20) (u':=.bool (!mF l)) rfl (congrArg Value.bool (congrArg not (vY hl))) ?_;refine o1 ?_;refine nl ?_;refine mA rfl (fun h9=>?_) (fun h9=>?_)
 ·refine sq ?_;refine rl ?_;refine o1 ?_;refine o1 ?_;refine nl ?_;refine rt ?_;have he:=rA (xU (Dr h9))
  exact en (.inl rfl) rfl (iG (.cons (.one (.nil (t:=64) (z:=1))) (.cons (dX _) .nil))) (by decide) (fun _=>⟨.inl ⟨rfl,trivial⟩,trivial,trivial⟩) (by rw[he,lW (by rw[he];decide)];rfl)
 refine sq ?_;have hg:=Ag h1 (.inl (vK h2)) (vK h9)
 have hdg:=tG hg
 refine rl ?_;refine o1 ?_;refine o1 ?_;refine WL.cast (t:=23) (u':=.int .i64 ((l.length:Nat):Int)) rfl (congrArg (fun n:Nat=>Value.int .i64 (n:Int)) (bF _)) ?_
 refine o1 ?_;refine o1 ?_;refine nl ?_;refine bZ rfl (fun h10=>?_) (fun h10=>?_)
 ·refine sq ?_;refine rl ?_;refine o1 ?_;refine o1 ?_;refine nl ?_;refine rt ?_;have he:=Jr hg (by omega)
  exact en (.inl rfl) rfl (iG (.cons (.one (.nil (t:=64) (z:=1))) (.cons (dX _) .nil))) (by decide) (fun _=>⟨.inl ⟨rfl,trivial⟩,trivial,trivial⟩) (by rw[he,lW (by rw[he];decide)];rfl)
 refine sk ?_;refine sq ?_;refine rl ?_;refine o1 ?_;refine nl ?_;refine sq ?_;refine sq ?_;refine rl ?_;refine o1 ?_;refine o1 ?_
 refine WL.cast (t:=26) (u':=.int .i64 ((l.length:Nat):Int)) rfl (congrArg (fun n:Nat=>Value.int .i64 (n:Int)) (bF _)) ?_
 refine o1 ?_;refine WL.cast (t:=27) (u':=.int .i64 ((l.length%9:Nat):Int)) rfl (aQ (gJ _ 9)) ?_;refine o1 ?_;refine nl ?_;refine bl ?_
 refine lp (γ:=Nat×Nat) (fun s=>cC [(0,.one (tv (.string (aT (l.drop s.1))))),(4,.one (.sl 0 0 ((dg 4294967296 (aV (l.take s.1))).length))),(5,.one (tv (.int .i64 ((s.2:Nat):Int))))]) (fun s=>[(⟨64,1,(aL (dg 4294967296 (aV (l.take s.1)))).map .t⟩:Ob)].map some) (fun s=>s.1≤l.length∧(s.1=0∧s.2=l.length%9∨0<s.1∧s.2=9∧(l.length-s.1)%9=0)) (fun s=>l.length-s.1) (0,l.length%9) ⟨Nat.zero_le _,.inl ⟨rfl,rfl⟩⟩ ((nr (i:=4) 0 64 1 rfl rfl rfl rfl).trans (bT h0 [0] _ _ (by decide) ⟨rfl,rfl,rfl,trivial⟩ ⟨cT (l:=[]) rfl,rfl⟩)) ?_
 rintro⟨j,f⟩ ⟨hj,hf⟩;dsimp only at hj hf⊢;refine sq ?_;refine sq ?_;refine rl ?_;refine o1 ?_;refine o1 ?_
 refine WL.cast (t:=29) (u':=.bool (!decide (l.drop j=[]))) rfl (congrArg Value.bool (congrArg not (jA (mU hl j)))) ?_;refine nl ?_
 refine mA rfl (fun h11=>?_) (fun h11=>?_)
 ·refine sk ?_;refine sq ?_;refine bl ?_;refine sq ?_;refine sq ?_;have hjl:=wA h11
  refine rl ?_;refine o1 ?_;refine o1 ?_;refine nl ?_;refine bZ rfl (fun h12=>?_) (fun h12=>?_)
  ·refine rl ?_;refine o1 ?_;refine nl ?_;refine sq ?_;refine rl ?_;refine o1 ?_;refine o1 ?_;refine o1 ?_ (hC:=(by rw[bF,List.length_drop];show 9≤l.length-j;omega))
   refine WL.cast (t:=35) (u':=.string (aT ((l.drop j).take 9))) rfl (congrArg Value.string ((lC _ 0 _).trans rfl)) ?_
   refine ca (oG (l:=((l.drop j).take 9)) (kA hdg j 9) (by rw[List.length_take,List.length_drop];omega) (by rw[List.length_take];omega)) xB ⟨a1 rfl,rfl⟩ (.tup [.one (tv (.int .i64 ((aV ((l.drop j).take 9):Nat):Int))),.one (tv .nilIface)]) ?_
   (iterate 5 refine o1 ?_);refine nl ?_;refine sq ?_;have hpl:=kB hdg (j:=j) (f:=9) (by omega) (by omega)
   have hpc:=iI (l:=l) (j:=j) (f:=9) (by omega) (by omega)
   have hl1:=lX hdg hj
   have hl2:=gE (aV (l.take j)) 1000000000
   have hl3:(dg 4294967296 1000000000).length≤1:=aM (by omega) (by decide)
   refine rl ?_;refine o1 ?_
   refine ca (oI (u:=aV (l.take j)) (m:=1000000000) (by omega) (by omega)) sK ⟨dZ rfl (.sl rfl rfl (hG _) (dL _)),a1 rfl,rfl⟩ (.one (.t (sU false (dg 4294967296 (aV (l.take j)*1000000000))))) ?_
   refine o1 ?_;refine o1 ?_;refine WL.cast (t:=42) (u':=.int .u32 ((aV ((l.drop j).take 9):Nat):Int)) rfl (aQ (by omega)) ?_
   refine bs 1 ?_
   refine sL 2 (oJ (u:=aV (l.take j)*1000000000) (x:=aV ((l.drop j).take 9)) (by omega) (by omega)) xA ⟨a1 rfl,dZ rfl (.sl (trs:=aL [aV ((l.drop j).take 9)]) rfl rfl rfl rfl),rfl⟩ ?_
   refine o1 ?_;refine nl ?_;refine rl ?_;refine o1 ?_;refine o1 ?_;refine o1 ?_ (hC:=(by rw[bF,List.length_drop];show 9≤l.length-j;omega))
   refine WL.cast (t:=47) (u':=.string (aT ((l.drop j).drop 9))) rfl (congrArg Value.string (iZ _ _)) ?_;refine o1 ?_;refine nl ?_;refine rl ?_;refine o1 ?_;refine nl ?_
   exact⟨(j+9,9),by dsimp only;omega,⟨by dsimp only;omega,.inr ⟨by dsimp only;omega,rfl,by dsimp only;omega⟩⟩,bT h0 [2] _ _ (by decide) ⟨(congrArg (fun l:List Nat=>some (FV.one (tv (.string (aT l))))) (by rw[List.drop_drop])),(congrArg (fun z:Nat=>some (FV.one (.sl 2 0 (dg 4294967296 z).length))) hpc.symm),rfl,trivial⟩ ⟨cT (congrArg (fun z:Nat=>some (⟨64,1,(aL (dg 4294967296 z)).map .t⟩:Ob)) hpc),rfl⟩⟩
  refine sk ?_;refine sq ?_;refine rl ?_;refine o1 ?_;refine o1 ?_;refine o1 ?_ (hC:=(by rw[bF,List.length_drop];show f≤l.length-j;omega))
  refine WL.cast (t:=35) (u':=.string (aT ((l.drop j).take f))) rfl (congrArg Value.string ((lC _ 0 _).trans rfl)) ?_
  refine ca (oG (l:=((l.drop j).take f)) (kA hdg j f) (by rw[List.length_take,List.length_drop];omega) (by rw[List.length_take];omega)) xB ⟨a1 rfl,rfl⟩ (.tup [.one (tv (.int .i64 ((aV ((l.drop j).take f):Nat):Int))),.one (tv .nilIface)]) ?_
  (iterate 5 refine o1 ?_);refine nl ?_;refine sq ?_;have hpl:=kB hdg (j:=j) (f:=f) (by omega) (by omega)
  have hpc:=iI (l:=l) (j:=j) (f:=f) (by omega) (by omega)
  have hl1:=lX hdg hj
  have hl2:=gE (aV (l.take j)) 1000000000
  have hl3:(dg 4294967296 1000000000).length≤1:=aM (by omega) (by decide)
  refine rl ?_;refine o1 ?_
  refine ca (oI (u:=aV (l.take j)) (m:=1000000000) (by omega) (by omega)) sK ⟨dZ rfl (.sl rfl rfl (hG _) (dL _)),a1 rfl,rfl⟩ (.one (.t (sU false (dg 4294967296 (aV (l.take j)*1000000000))))) ?_
  refine o1 ?_;refine o1 ?_;refine WL.cast (t:=42) (u':=.int .u32 ((aV ((l.drop j).take f):Nat):Int)) rfl (aQ (by omega)) ?_
  refine bs 1 ?_
  refine sL 2 (oJ (u:=aV (l.take j)*1000000000) (x:=aV ((l.drop j).take f)) (by omega) (by omega)) xA ⟨a1 rfl,dZ rfl (.sl (trs:=aL [aV ((l.drop j).take f)]) rfl rfl rfl rfl),rfl⟩ ?_
  refine o1 ?_;refine nl ?_;refine rl ?_;refine o1 ?_;refine o1 ?_;refine o1 ?_ (hC:=(by rw[bF,List.length_drop];show f≤l.length-j;omega))
  refine WL.cast (t:=47) (u':=.string (aT ((l.drop j).drop f))) rfl (congrArg Value.string (iZ _ _)) ?_;refine o1 ?_;refine nl ?_;refine rl ?_;refine o1 ?_;refine nl ?_
  exact⟨(j+f,9),by dsimp only;omega,⟨by dsimp only;omega,.inr ⟨by dsimp only;omega,rfl,by dsimp only;omega⟩⟩,bT h0 [2] _ _ (by decide) ⟨(congrArg (fun l:List Nat=>some (FV.one (tv (.string (aT l))))) (by rw[List.drop_drop])),(congrArg (fun z:Nat=>some (FV.one (.sl 2 0 (dg 4294967296 z).length))) hpc.symm),rfl,trivial⟩ ⟨cT (congrArg (fun z:Nat=>some (⟨64,1,(aL (dg 4294967296 z)).map .t⟩:Ob)) hpc),rfl⟩⟩
 refine ex ?_;refine sq ?_;refine rl ?_;(iterate 3 refine o1 ?_);refine nl ?_;refine rt ?_;have hjl:=wB h11
 have he:=Js hg (by omega)
 exact en (.inl rfl) rfl (iG (.cons (.one (.sl (trs:=aL (dg 4294967296 (aV (l.take j)))) rfl rfl (jF _) (dL _))) (.cons (dX _) .nil))) (by decide) (fun _=>⟨.inl ⟨rfl,fH _⟩,trivial,trivial⟩) (by rw[he,Dy he,List.take_of_length_le hjl];rfl)
theorem Lw:CallOk Tryd.prog 110:=.mk Tryd.func110 (by decide) rfl
theorem pL {l R:List Nat}{c:Nat}(hl:Lim 256 l) (hR:l.dropWhile (· ==c)=R):aO true Tryd.prog 110 [] [.one (tv (.string (aT l))),.one (tv (.int .u8 ((c:Nat):Int)))] (bJ (.one (tv (.string (aT R))))):=by
 refine eG Tryd.func110 rfl Tryd.ntmps110 rfl aY rfl fun N9 w9 c0 h0=>?_
 refine sq ?_;refine rl ?_;refine o1 ?_;refine nl ?_;refine sq ?_;refine bl ?_
 refine lp (γ:=List Nat) (fun l=>cC [(0,.one (tv (.string (aT l)))),(1,.one (tv (.int .u8 ((c:Nat):Int))))]) (fun _=>([]:List Ob).map some) (fun l=>Lim 256 l∧l.dropWhile (· ==c)=R) (fun l=>l.length) l ⟨hl,hR⟩ (bT h0 [] _ _ (by decide) ⟨rfl,rfl,trivial⟩ rfl) fun k hk=>?_
 refine sq ?_;refine sq ?_;refine rl ?_;refine o1 ?_;refine o1 ?_
 refine WL.cast (t:=6) (u':=.int .i64 ((k.length:Nat):Int)) rfl (congrArg (fun n:Nat=>Value.int .i64 (n:Int)) (bF _)) ?_
 refine o1 ?_;refine o1 ?_;refine WL.split (t:=8) rfl (fun h1=>?_) (fun h1=>?_)
 ·refine o1 ?_;refine o1 ?_ (hC:=(by rw[bF];show 0<k.length;omega))
  refine WL.cast (t:=10) (u':=.int .u8 (((nth k 0):Nat):Int)) rfl (congrArg (fun n:Nat=>Value.int .u8 (n:Int)) (lT (i:=0) (by omega) (vL (k:=0) hk.1 (by omega)))) ?_
  (iterate 3 refine o1 ?_);refine nl ?_;refine bZ rfl (fun h2=>?_) (fun h2=>?_)
  ·refine sk ?_;refine bl ?_;refine rl ?_;refine o1 ?_;refine o1 ?_ (hC:=(by rw[bF];show 1≤k.length;omega))
   refine WL.cast (t:=15) (u':=.string (aT (k.drop 1))) rfl (congrArg Value.string (iZ _ _)) ?_;refine o1 ?_;refine nl ?_
   exact⟨k.drop 1,by rw[List.length_drop];omega,⟨mU hk.1 1,(zH (by omega) (by omega)).trans hk.2⟩,bT h0 [] _ _ (by decide) ⟨rfl,rfl,trivial⟩ rfl⟩
  refine ex ?_;refine sq ?_;refine rl ?_;refine o1 ?_;refine o1 ?_;refine nl ?_;refine rt ?_
  exact en (.inl rfl) rfl (eY (dX _)) (by decide) (fun _=>trivial) (congrArg (fun z=>FV.one (tv (.string z))) (congrArg aT ((xJ (by omega) (by omega)).trans hk.2)))
 (iterate 4 refine nR ?_);refine o1 ?_;refine nl ?_;refine pW rfl ?_;refine ex ?_;refine sq ?_;refine rl ?_;refine o1 ?_;refine o1 ?_;refine nl ?_;refine rt ?_
 exact en (.inl rfl) rfl (eY (dX _)) (by decide) (fun _=>trivial) (congrArg (fun z=>FV.one (tv (.string z))) (congrArg aT ((xI (by omega)).trans hk.2)))
theorem xV {l:List Nat}(hl:Lim 256 l):aO true Tryd.prog 89 [] [.one (tv (.string (aT l))),.one (tv (.string ⟨#[48]⟩))] (bJ (.one (tv (.string (aT (l.dropWhile (· ==48))))))):=by
 refine eG Tryd.func89 rfl Tryd.ntmps89 rfl aY rfl fun N9 w9 c0 h0=>?_
 refine sq ?_;refine rl ?_;refine o1 ?_;refine nl ?_;refine sq ?_;refine sq ?_;refine rl ?_;refine o1 ?_;refine o1 ?_
 refine WL.cast (t:=8) (u':=.bool (decide (l=[]))) rfl (congrArg Value.bool (jA hl)) ?_;refine o1 ?_;refine WL.splitb (t:=9) rfl (fun h1=>?_) (fun h1=>?_)
 ·refine nR ?_;refine nR ?_;refine o1 ?_;refine nl ?_;refine uP rfl ?_;refine sq ?_;refine rl ?_;refine o1 ?_;refine o1 ?_;refine nl ?_;refine rt ?_
  exact en (.inl rfl) rfl (eY (dX _)) (by decide) (fun _=>trivial) (congrArg (fun z=>FV.one (tv (.string z))) (congrArg aT (by rw[of_decide_eq_true h1];rfl)))
 refine o1 ?_;refine o1 ?_;refine WL.cast (t:=11) (u':=.bool false) rfl (congrArg Value.bool (jA (l:=[48]) (Lim.cons (by omega) Lim.nil))) ?_
 refine o1 ?_;refine nl ?_;refine pW rfl ?_;refine sk ?_;refine sq ?_;refine sq ?_;refine rl ?_;(iterate 3 refine o1 ?_)
 refine WL.cast (t:=16) (u':=.bool true) rfl (congrArg Value.bool rfl) ?_;refine o1 ?_;refine o1 ?_;refine o1 ?_ (hC:=(by decide))
 refine o1 ?_;refine WL.cast (t:=20) (u':=.bool true) rfl (congrArg Value.bool rfl) ?_;refine o1 ?_;refine nl ?_;refine uP rfl ?_;refine sq ?_;refine rl ?_;refine o1 ?_;refine o1 ?_
 refine o1 ?_ (hC:=(by decide))
 refine WL.cast (t:=24) (u':=.int .u8 ((48:Nat):Int)) rfl rfl ?_
 refine ca (pL (c:=48) hl rfl) Lw ⟨a1 rfl,a1 rfl,rfl⟩ (.one (tv (.string (aT (l.dropWhile (· ==48)))))) ?_;refine o1 ?_;refine nl ?_;refine rt ?_
 exact en (.inl rfl) rfl (eY (dX _)) (by decide) (fun _=>trivial) (congrArg (fun z=>FV.one (tv (.string z))) (rfl))
theorem Ah {t n:Nat}{xs:List Nat}(hn:xs.length=n) (hn2:n≤100000000):aO false Tryd.prog 88 [⟨t,1,(aU xs).map .t⟩] [.one (.sl 0 0 n)] (Rt [⟨t,1,(aU xs.reverse).map .t⟩] (.tup [])):=by
 subst hn;refine Oh Tryd.func88 rfl Tryd.ntmps88 rfl aY rfl fun N9 M9 w9 c0 h0=>?_
 refine sq ?_;refine rl ?_;(iterate 5 refine o1 ?_);refine nl ?_;refine bl ?_
 refine lp (γ:=Nat) (fun k=>cC [(0,.one (.sl 0 0 xs.length)),(2,.one (tv (.int .i64 ((k:Nat):Int)))),(3,.one (tv (.int .i64 ((xs.length:Int)-1-(k:Int):Int))))]) (fun k=>[(⟨t,1,(aU (cO xs k)).map .t⟩:Ob)].map some) (fun k=>2*k≤xs.length+1) (fun k=>xs.length-k) 0 (by omega) (Ir h0 [0] _ _ (by decide) rfl ⟨rfl,rfl,nV (by omega),trivial⟩ ⟨cT (congrArg (fun l=>some (⟨t,1,(aU l).map .t⟩:Ob)) (Lk xs)),rfl⟩) fun k hk=>?_
 have hrl:=eD xs k
 refine sq ?_;refine sq ?_;refine rl ?_;(iterate 3 refine o1 ?_);refine nl ?_;refine bZ rfl (fun h1=>?_) (fun h1=>?_)
 ·refine sk ?_;refine sq ?_;refine bl ?_;refine rd [] (fun i=>[15].contains i) mixed ?_
  refine dv 0 ?_;refine dv 1 ?_;refine dv 2 ?_;refine dv 3 ?_;refine WD.cast (t:=17) (u':=.int .i64 (((xs.length-1-k):Nat):Int)) rfl (aQ (by omega)) ?_
  refine dv 4 ?_;refine dv 5 ?_;refine WD.cast (t:=19) (u':=.int .i64 (((xs.length-1-k):Nat):Int)) rfl (aQ (by omega)) ?_
  refine dv 6 ?_;refine dv 8 ?_;refine dv 9 ?_;refine dv 10 ?_;refine WO.two (i:=7) (j:=11) (by kernel_rfl) ?_ ?_
  ·refine xG 7 (qY (cO xs k) (k:=(xs.length-1-k)) (by omega)) ?_
   refine WO.one (by kernel_rfl) (xG 11 (qY (cO xs k) (k:=k) (by omega)) ?_)
   refine dv 12 ?_;refine Dq 13 (lD (cO xs k) (k:=k) (v:=nth (cO xs k) ((xs.length-1-k))) (by omega)) (nU (cO xs k) (by omega)) ?_
   refine dv 14 ?_
   refine xC 15 (lD ((cO xs k).set (k) (nth (cO xs k) ((xs.length-1-k)))) (k:=(xs.length-1-k)) (v:=nth (cO xs k) (k)) (by simp only[List.length_set];omega)) (nU ((cO xs k).set (k) (nth (cO xs k) ((xs.length-1-k)))) (by simp only[List.length_set];omega)) ?_
   refine sM ?_;refine rl ?_;refine o1 ?_;refine o1 ?_;refine WL.cast (t:=11) (u':=.int .i64 ((k+1:Nat):Int)) rfl (aQ (by omega)) ?_
   (iterate 4 refine o1 ?_);refine nl ?_
   exact⟨k+1,by omega,by omega,Ir h0 [0] _ _ (by decide) rfl ⟨rfl,rfl,nV (by omega),trivial⟩ ⟨cT (congrArg (fun l=>some (⟨t,1,(aU l).map .t⟩:Ob)) (Ds (by omega))),rfl⟩⟩
  refine xG 11 (qY (cO xs k) (k:=k) (by omega)) ?_
  refine WO.one (by kernel_rfl) (xG 7 (qY (cO xs k) (k:=(xs.length-1-k)) (by omega)) ?_)
  refine dv 12 ?_;refine Dq 13 (lD (cO xs k) (k:=k) (v:=nth (cO xs k) ((xs.length-1-k))) (by omega)) (nU (cO xs k) (by omega)) ?_
  refine dv 14 ?_
  refine xC 15 (lD ((cO xs k).set (k) (nth (cO xs k) ((xs.length-1-k)))) (k:=(xs.length-1-k)) (v:=nth (cO xs k) (k)) (by simp only[List.length_set];omega)) (nU ((cO xs k).set (k) (nth (cO xs k) ((xs.length-1-k)))) (by simp only[List.length_set];omega)) ?_
  refine sM ?_;refine rl ?_;refine o1 ?_;refine o1 ?_;refine WL.cast (t:=11) (u':=.int .i64 ((k+1:Nat):Int)) rfl (aQ (by omega)) ?_
  (iterate 4 refine o1 ?_);refine nl ?_
  exact⟨k+1,by omega,by omega,Ir h0 [0] _ _ (by decide) rfl ⟨rfl,rfl,nV (by omega),trivial⟩ ⟨cT (congrArg (fun l=>some (⟨t,1,(aU l).map .t⟩:Ob)) (Ds (by omega))),rfl⟩⟩
 refine ex ?_
 exact Oi (lent':=[⟨t,1,(aU xs.reverse).map .t⟩]) (.inr rfl) rfl Oj (by decide) (fun _ h=>by cases h) ⟨⟨rfl,rfl⟩,trivial⟩ ⟨congrArg (fun l=>some (⟨t,1,(aU l).map .t⟩:Ob)) (Fd (by omega)),trivial⟩ ⟨yT _,trivial⟩ (fun h=>by cases h) ⟨rfl,rfl⟩
theorem Lx {xs:List Nat}{v:Nat}(hx:xs.length≤1000000) (hl:Lim 4294967296 xs) (hv0:vl 4294967296 xs=v):aO true Tryd.prog 46 [] [.one (.t (sU false xs))] (bJ (.one (tv (.string (aT (tx v)))))):=by
 refine eG Tryd.func46 rfl Tryd.ntmps46 rfl aY rfl fun N9 w9 c0 h0=>?_
 have hvL:v<4294967296^xs.length:=hv0▸cW hl
 have hvl:=aM (k:=xs.length) (by omega) hvL
 refine sq ?_;refine rl ?_;refine o1 ?_;refine nl ?_;refine sq ?_;refine rl ?_;refine Ou 0 ?_;refine nl ?_;refine sq ?_;refine rl ?_;refine o1 ?_;refine nl ?_;refine sq ?_;refine sq ?_
 refine rl ?_;refine o1 ?_;refine ca (vX hl (by omega) hv0) Ii ⟨a1 rfl,rfl⟩ (.one (.t (sU false (dg 4294967296 v)))) ?_
 refine o1 ?_;refine nl ?_;refine bl ?_
 refine lp (γ:=(List Nat×List Nat)×Nat) (fun s=>cC [(0,.one (.t (sU false (dg 4294967296 s.2)))),(3,.one (.pt 0 0)),(4,.one (.sl 1 0 s.1.1.length))]) (fun s=>[(⟨111,1,(aU s.1.2).map .t⟩:Ob),⟨5,1,(aU (bO s.1.1)).map .t⟩].map some) (fun s=>s.1.2.length=9∧Lim 10 s.1.1∧vl 10 s.1.1+10^s.1.1.length*s.2=v∧s.2≤v∧s.1.1.length≤10*xs.length+9) (fun s=>s.2) (([],List.replicate 9 0),v) ⟨rfl,Lim.nil,(by simp[vl]),Nat.le_refl _,Nat.zero_le _⟩ ((nr (i:=4) 1 5 1 rfl rfl rfl rfl).trans (bT h0 [0,1] _ _ (by decide) ⟨rfl,rfl,rfl,trivial⟩ ⟨cT rfl,cT (l:=[]) rfl,rfl⟩)) ?_
 rintro⟨⟨ds,lB⟩,u⟩ ⟨ho,hd,hv,hu,hdl⟩;dsimp only at ho hd hv hu hdl⊢;have hul:=qN hu
 refine sq ?_;refine sq ?_;refine rl ?_;(iterate 3 refine o1 ?_);refine nl ?_;refine bZ rfl (fun h1=>?_) (fun h1=>?_)
 ·refine sk ?_;refine bl ?_;refine sq ?_;have hup:=nW (B:=4294967296) (u:=u) (by omega)
  refine rl ?_;refine o1 ?_
  refine ca (Jq (u:=u) (d:=1000000000) (by omega) (by omega) (by omega)) Ns ⟨a1 rfl,a1 rfl,rfl⟩ (.tup [.one (.t (sU false (dg 4294967296 (u/1000000000)))),.one (tv (.int .u32 ((u%1000000000:Nat):Int))),.one (tv (.int .i64 0))]) ?_
  (iterate 7 refine o1 ?_);refine nl ?_;refine sq ?_;refine sq ?_;refine rl ?_;refine o1 ?_;refine nl ?_;refine bl ?_
  refine lp (γ:=Nat) (fun i=>cC [(3,.one (.pt 0 0)),(4,.one (.sl 1 0 ds.length)),(5,.one (.t (sU false (dg 4294967296 (u/1000000000))))),(6,.one (tv (.int .u32 ((u%1000000000/10^i:Nat):Int)))),(21,.one (tv (.int .i64 ((i:Nat):Int))))]) (fun i=>[(⟨111,1,(aU (bO (fd (i) (u%1000000000))++lB.drop (i))).map .t⟩:Ob),⟨5,1,(aU (bO ds)).map .t⟩].map some) (fun i=>i≤9) (fun i=>9-i) 0 (Nat.zero_le _) (bT h0 [0,1] _ _ (by decide) ⟨rfl,rfl,rfl,nV (by rw[Nat.pow_zero,Nat.div_one]),rfl,trivial⟩ ⟨cT rfl,cT rfl,rfl⟩) fun i hi=>?_
  have hlen:(bO (fd (i) (u%1000000000))++lB.drop (i)).length=9:=by rw[List.length_append,eE,fT,List.length_drop];omega
  have hdi:u%1000000000/10^i≤u%1000000000:=Nat.div_le_self _ _
  refine sq ?_;refine rl ?_;refine o1 ?_;refine nl ?_;refine sq ?_;refine bZ rfl (fun h2=>?_) (fun h2=>?_)
  ·refine sk ?_;refine sq ?_;refine bl ?_;refine sq ?_;refine rl ?_;refine o1 ?_;refine o1 ?_;refine nl ?_;refine sq ?_;refine rl ?_;(iterate 3 refine o1 ?_)
   refine WL.cast (t:=26) (u':=.int .u32 (((u%1000000000/10^i%10):Nat):Int)) rfl (aQ (gJ _ 10)) ?_;refine o1 ?_
   refine WL.cast (t:=27) (u':=.int .u8 (((u%1000000000/10^i%10):Nat):Int)) rfl (aQ (by omega)) ?_
   refine o1 ?_;refine WL.cast (t:=28) (u':=.int .u8 (((48+u%1000000000/10^i%10):Nat):Int)) rfl (aQ (by omega)) ?_
   refine o1 ?_
   refine Ot (lD (bO (fd (i) (u%1000000000))++lB.drop (i)) (k:=i) (v:=48+u%1000000000/10^i%10) (by omega)) (nU (bO (fd (i) (u%1000000000))++lB.drop (i)) (by omega)) ?_
   refine nl ?_;refine rl ?_;refine o1 ?_;refine o1 ?_ (hC:=(lF 10 (by omega) (Lo (Nat.lt_of_le_of_lt hdi (by omega)))))
   refine WL.cast (t:=31) (u':=.int .u32 (((u%1000000000/10^i/10):Nat):Int)) rfl (aQ (gK _ 10)) ?_;refine o1 ?_;refine nl ?_;refine rl ?_;refine o1 ?_
   refine WL.cast (t:=32) (u':=.int .i64 ((i+1:Nat):Int)) rfl (aQ (by omega)) ?_
   refine o1 ?_;refine nl ?_
   exact⟨i+1,by omega,by omega,bT h0 [0,1] _ _ (by decide) ⟨rfl,rfl,rfl,nV (by rw[Nat.pow_succ,Nat.div_div_eq_div_mul]),rfl,trivial⟩ ⟨cT (congrArg (fun l=>some (⟨111,1,(aU l).map .t⟩:Ob)) (Iy (by omega) ho)),cT rfl,rfl⟩⟩
  refine ex ?_;have hi9:i=9:=by omega
  subst hi9;have he9:(bO (fd (9) (u%1000000000))++lB.drop (9))=bO (fd 9 (u%1000000000)):=by rw[List.drop_of_length_le (by omega),List.append_nil]
  refine sq ?_;refine rl ?_;refine o1 ?_
  refine Li (m:=9) (by_:=1) 2 (DstA.sl (k:=1) (n:=ds.length) (e:=5) (z:=1) rfl (by rw[xH,eE])) (xF _) (vJ _) (by rw[xH,hlen]) (by omega) (by omega) ?_
  refine o1 ?_;refine nl ?_;refine rl ?_;refine o1 ?_;refine o1 ?_;refine nl ?_
  exact⟨((ds++fd 9 (u%1000000000),bO (fd 9 (u%1000000000))),u/1000000000),by dsimp only;omega,⟨by dsimp only;rw[eE,fT],hd.append (Ix _ _),Ln hv,by dsimp only;omega,by dsimp only;rw[List.length_append,fT];have:=Fe hv hup hvL;omega⟩,bT h0 [0,2] _ _ (by decide) ⟨rfl,rfl,congrArg (fun n=>some (FV.one (.sl 2 0 n))) (show(ds++fd 9 (u%1000000000)).length=ds.length+9 by rw[List.length_append,fT]),trivial⟩ ⟨cT (congrArg (fun l=>some (⟨111,1,(aU l).map .t⟩:Ob)) he9),cT (congrArg (fun l=>some (⟨5,1,l⟩:Ob)) ((sS _ _).trans (congrArg (fun l:List Nat=>(aU l).map AV.t) (show bO ds++(bO (fd (9) (u%1000000000))++lB.drop (9))=bO (ds++fd 9 (u%1000000000)) by rw[he9,vN])))),rfl⟩⟩
 refine ex ?_;refine sq ?_;have hu0:u=0:=(bV (B:=4294967296) (by omega)).1 (List.eq_nil_of_length_eq_zero (by omega))
 subst hu0;rw[Nat.mul_zero,Nat.add_zero]at hv;refine rl ?_;refine o1 ?_
 refine cl 2 [1] (Ah (t:=5) (xs:=bO ds) (n:=ds.length) (eE ds) (by omega)) Nw ⟨cT rfl,rfl⟩ ⟨rfl,rfl⟩ (ok:=[some ⟨5,1,(aU (bO ds).reverse).map .t⟩]) ⟨cT rfl,rfl⟩ ?_
 refine nl ?_;refine sq ?_;refine sq ?_;refine rl ?_;refine o1 ?_
 refine Ov (xs:=(bO ds).reverse) (Jb rfl (by rw[List.length_reverse,eE])) (by rw[List.length_reverse,eE]) ?_
 refine ca (xV (vM (vO hd))) Nx ⟨a1 rfl,a1 rfl,rfl⟩ (.one (tv (.string (aT ((bO ds).reverse.dropWhile (· ==48)))))) ?_;refine o1 ?_;refine nl ?_;refine sq ?_
 refine rl ?_;refine o1 ?_;refine o1 ?_
 refine WL.cast (t:=43) (u':=.bool (!decide (((bO ds).reverse.dropWhile (· ==48))=[]))) rfl (congrArg Value.bool (congrArg not (jA (Iz (vM (vO hd)))))) ?_;refine nl ?_
 refine mA rfl (fun h3=>?_) (fun h3=>?_)
 ·refine sq ?_;refine rl ?_;refine o1 ?_;refine o1 ?_;refine nl ?_;refine rt ?_
  exact en (.inl rfl) rfl (eY (dX _)) (by decide) (fun _=>trivial) (congrArg (fun z=>FV.one (tv (.string z))) (congrArg aT (Ff hd hv h3)))
 refine sk ?_;refine sq ?_;refine rl ?_;refine o1 ?_;refine nl ?_;refine rt ?_
 exact en (.inl rfl) rfl (eY (dX _)) (by decide) (fun _=>trivial) (congrArg (fun z=>FV.one (tv (.string z))) (congrArg aT (Ja hd hv h3)))
theorem Aj {xs ys:List Nat}(hx:Lim 4294967296 xs) (hy:Lim 4294967296 ys) (h:xs.length≤549755813888) (h':ys.length≤549755813888) (h0:vl 4294967296 ys=0):aO true Tryd.prog 40 [] [.one (.t (sU false xs)),.one (.t (sU false ys))] (bJ (.tup [.one (.t (sU true [])),.one (.t (sU true [])),.one (tv (.int .i64 20))])):=by
 intro N w cs us hL
 obtain⟨rfl,hf⟩:=lE hL
 obtain⟨u,v,rfl,h1,h2⟩:=mX hf
 obtain⟨A,c,rfl,u1⟩:=dS h1 hx fun b hb=>hb.1
 obtain⟨B,d,rfl,u2⟩:=dS h2 hy fun b hb=>hb.1
 refine(oD A B _ _ c d xs ys w u1 u2 h h' h0).mono ?_
 rintro e W ⟨A1,n1,c1,A2,n2,c2,rfl,ho,ho2,hap,hb⟩
 obtain⟨y1,a1,a2,a3,a4⟩:=jE (N:=fun b=>true=false∧(b<W.heap.size∧b∉VT.fpL [])∧(N b∨w.heap.size≤b)) ho
 obtain⟨y2,b1,b2,b3,b4⟩:=jE (N:=fun b=>true=false∧(b<W.heap.size∧b∉VT.fpL [])∧(N b∨w.heap.size≤b)) ho2
 refine .mk0 (y:=[y1,y2,.w (.int .i64 20)]) rfl hb (by simp only[VT.okL,VT.ok];exact⟨a3,b3,trivial,trivial⟩) ?_ (fun b hb'=>?_) ?_
 ·simp only[VT.fpL,VT.fp,a4,b4,List.append_nil]
  rw[List.nodup_append]
  refine⟨lG ..,lG ..,fun x hx y hy e=>?_⟩
  subst e
  rcases A1 with _ | a
  ·simp[Value.ownBlock]at hx
  rcases A2 with _ | b
  ·simp[Value.ownBlock]at hy
  simp[Value.ownBlock]at hx hy
  exact hap a b rfl rfl (by rw[←hx,←hy])
 ·simp only[VT.fpL,VT.fp,a4,b4,List.append_nil]at hb'
  rcases List.mem_append.1 hb' with hb' | hb'
  ·exact ho.blk b hb'
  exact ho2.blk b hb'
 refine⟨[_,_,_],rfl,?_⟩
 exact⟨_,_,[y1],[y2,.w (.int .i64 20)],rfl,rfl,⟨y1,rfl,a1.symm,dU (fun _ _=>rfl) (fun b hb=>absurd hb.1 (by simp)) _ _ a2⟩,_,_,[y2],[.w (.int .i64 20)],rfl,rfl,⟨y2,rfl,b1.symm,dU (fun _ _=>rfl) (fun b hb=>absurd hb.1 (by simp)) _ _ b2⟩,_,_,[.w (.int .i64 20)],[],rfl,rfl,⟨_,rfl,rfl,by simp[CR,tv,OR]⟩,rfl,rfl⟩
end Go.Proofs.YteggpgndiajdpaaDoor
