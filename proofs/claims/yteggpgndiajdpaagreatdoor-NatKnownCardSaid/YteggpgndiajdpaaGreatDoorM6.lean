/- Part 6 of a proof: Nat3 to Te. -/
import Derived.Test.YteggpgndiajdpaaGreatDoorM5
import Derived.Shelf.Small.Bits
import Derived.KernelRfl
import Derived.Test.YteggpgndiajdpaaGreatDoorProg
import Derived.Test.YteggpgndiajdpaaGreatDoorM1
import Derived.Deep.LoopGhost
import Derived.Deep.Cut
import Derived.Deep.CutRange
import Derived.Deep.DeepCutAuto
import Derived.Test.YteggpgndiajdpaaGreatDoorM4
import Derived.Shelf.Strings.Trim
import Derived.Shelf.Strings.SlTrimAscii
set_option maxRecDepth 100000
set_option linter.unusedVariables false
set_option linter.unusedSimpArgs false
namespace Go.Proofs.YteggpgndiajdpaaGreatDoor
open Go Go.RowKit
def TakeInv (ax os ys:List Nat) (q k C b:Nat):Prop:=
 C≤4294967295∧b≤1∧os.length=ax.length∧vl 4294967296 (os.take k)+q*vl 4294967296 (ys.take k)=vl 4294967296 (ax.take k)+4294967296^k*(C+b)∧(∀j,k≤j→nth os j=nth ax j)∧(ys.length<k→C=0)
theorem TakeInv.zero (ax ys:List Nat) (q:Nat):TakeInv ax ax ys q 0 0 0:=⟨by omega,by omega,rfl,by simp[vl],fun _ _=>rfl,fun _=>rfl⟩
theorem TakeInv.at_ {ax os ys:List Nat}{q k C b:Nat}(h:TakeInv ax os ys q k C b):nth os k=nth ax k:=h.2.2.2.2.1 k (Nat.le_refl _)
theorem Jn {q y C:Nat}(hq:q≤4294967295) (hy:y<4294967296) (hC:C≤4294967295):q*y+C≤18446744069414584320:=by
 have:q*y≤4294967295*4294967295:=Nat.mul_le_mul hq (by omega)
 omega
theorem TakeInv.step {ax os ys:List Nat}{q k C b:Nat}(h:TakeInv ax os ys q k C b) (hk:k<ax.length) (hq:q≤4294967295) (ha:Lim 4294967296 ax) (hy:Lim 4294967296 ys):
  TakeInv ax (os.set k (iR (nth ax k) (cI (q*nth ys k+C)) b)) ys q (k+1) (fD (q*nth ys k+C)) (jV (nth ax k) (cI (q*nth ys k+C)) b):=by
 obtain⟨h1,h2,h3,h4,h5,h6⟩:=h
 have y1:=hy.nth (by omega) k
 have a1:=ha.nth (by omega) k
 have hp:=Jn hq y1 h1
 have e:=Dv a1 (oV (q*nth ys k+C)) h2
 have e1:=Bk (q*nth ys k+C)
 have hh:=Ib (n:=q*nth ys k+C) (by omega)
 refine⟨by omega,zD _ _ _,by rw[List.length_set,h3],?_,fun j hj=>by rw[fP (by omega)];exact h5 j (by omega),fun hj=>?_⟩
 ·rw[dI _ _ (by omega),aN,aN,Nat.pow_succ]
  generalize 4294967296^k=p at*
  generalize iR (nth ax k) (cI (q*nth ys k+C)) b=s at*
  generalize jV (nth ax k) (cI (q*nth ys k+C)) b=t at*
  generalize cI (q*nth ys k+C)=l at*
  generalize fD (q*nth ys k+C)=m at*
  have e2:p*(s+l+b)=p*(nth ax k+4294967296*t):=by rw[e]
  have e3:p*(l+4294967296*m)=p*(q*nth ys k+C):=by rw[e1]
  grind
 rw[dF (by omega),Nat.mul_zero,Nat.zero_add]
 unfold fD
 omega
theorem Ea {u v q r:Nat}(hv:0<v) (h:r+q*v=u) (hr:r<v):q=u/v∧r=u%v:=by
 subst h
 rw[Nat.mul_comm q v,Nat.add_mul_div_left _ _ hv,Nat.add_mul_mod_self_left,Nat.div_eq_of_lt hr,Nat.mod_eq_of_lt hr]
 exact⟨by omega,rfl⟩
theorem TakeInv.right {ax os ys:List Nat}{q n C:Nat}(h:TakeInv ax os ys q n C 0) (hn:ys.length<n) (hq:vl 4294967296 (ax.take n)/vl 4294967296 ys≤q) (hv:0<vl 4294967296 ys):
  q=vl 4294967296 (ax.take n)/vl 4294967296 ys∧vl 4294967296 (os.take n)=vl 4294967296 (ax.take n)%vl 4294967296 ys:=by
 obtain⟨h1,h2,h3,h4,h5,h6⟩:=h
 rw[h6 hn,aQ 4294967296 (l:=ys) (by omega)]at h4
 simp only[Nat.add_zero,Nat.mul_zero]at h4
 refine Ea hv h4 ?_
 generalize vl 4294967296 (ax.take n)=u at*
 generalize vl 4294967296 (os.take n)=r at*
 generalize vl 4294967296 ys=v at*
 rcases Nat.lt_or_ge r v with h | h
 ·exact h
 have h7:(q+1)*v≤u:=by rw[Nat.succ_mul];omega
 have:=(Nat.le_div_iff_mul_le hv).2 h7
 omega
theorem TakeInv.over {ax os ys:List Nat}{q n C:Nat}(h:TakeInv ax os ys q n C 1) (hn:ys.length<n) (hl:n≤os.length) (hos:Lim 4294967296 os) (hys:Lim 4294967296 ys)
  (hq2:q≤vl 4294967296 (ax.take n)/vl 4294967296 ys+1) (hv:0<vl 4294967296 ys):
  1≤q∧q-1=vl 4294967296 (ax.take n)/vl 4294967296 ys∧∀r c,r<4294967296^n→c≤1→r+4294967296^n*c=vl 4294967296 (os.take n)+vl 4294967296 ys→r=vl 4294967296 (ax.take n)%vl 4294967296 ys:=by
 obtain⟨h1,h2,h3,h4,h5,h6⟩:=h
 rw[h6 hn,aQ 4294967296 (l:=ys) (by omega)]at h4
 have ho:=dQ (hos.take n)
 rw[List.length_take,Nat.min_eq_left hl]at ho
 have hy:=dQ hys
 have hp:4294967296^ys.length≤4294967296^n:=Nat.pow_le_pow_right (by omega) (by omega)
 simp only[Nat.zero_add,Nat.mul_one]at h4
 generalize vl 4294967296 (ax.take n)=u at*
 generalize vl 4294967296 (os.take n)=o at*
 generalize vl 4294967296 ys=v at*
 generalize 4294967296^n=p at*
 have hq3:u<q*v:=by omega
 have hdm:=Nat.div_add_mod u v
 have hml:=Nat.mod_lt u hv
 have hq4:u/v<q:=by
  rcases Nat.lt_or_ge (u/v) q with h | h
  ·exact h
  have:q*v≤u/v*v:=Nat.mul_le_mul_right _ h
  rw[Nat.mul_comm (u/v)]at this
  omega
 generalize u/v=z at*
 generalize u%v=y at*
 obtain rfl:q=z+1:=by omega
 refine⟨by omega,by omega,fun r c hr hc he=>?_⟩
 rw[Nat.succ_mul,Nat.mul_comm z]at h4
 have hc':c=0∨c=1:=by omega
 rcases hc' with rfl | rfl
 ·omega
 omega
theorem wS (a l b:Int) (a0:0≤a) (a1:a<4294967296) (l0:0≤l) (l1:l<4294967296) (b0:0≤b) (b1:b≤1):
  IntKind.u64.wrap (IntKind.u64.wrap (a-l)-b)=if a<l+b then a-l-b+18446744073709551616 else a-l-b:=by
 rw[IntKind.wrap_u64,IntKind.wrap_u64]
 split <;> omega
theorem zI (a p b:Nat) (P:Int) (hP:P=(p:Int)) (a1:a<4294967296) (b1:b≤1):
  IntKind.u64.wrap (IntKind.u64.wrap ((a:Int)-P%4294967296)-(b:Int))%4294967296=((iR a (cI p) b:Nat):Int):=by
 subst hP
 rw[wS _ _ _ (by omega) (by omega) (by omega) (by omega) (by omega) (by omega)]
 unfold iR cI
 split <;> omega
theorem wT (a p b:Nat) (P:Int) (hP:P=(p:Int)) (a1:a<4294967296) (b1:b≤1):
  IntKind.u64.wrap (IntKind.u64.wrap ((a:Int)-P%4294967296)-(b:Int))/9223372036854775808=((jV a (cI p) b:Nat):Int):=by
 subst hP
 rw[wS _ _ _ (by omega) (by omega) (by omega) (by omega) (by omega) (by omega)]
 unfold jV cI
 split <;> split <;> omega
theorem Gl (a l b:Nat) (a1:a<4294967296) (hl:l≤4294967295) (b1:b≤1):
  IntKind.u64.wrap (IntKind.u64.wrap ((a:Int)-(l:Int))-(b:Int))%4294967296=((iR a (cI l) b:Nat):Int):=by
 have:=zI a l b l rfl a1 b1
 rwa[show(l:Int)%4294967296=l by omega]at this
theorem Eb (a l b:Nat) (a1:a<4294967296) (hl:l≤4294967295) (b1:b≤1):
  IntKind.u64.wrap (IntKind.u64.wrap ((a:Int)-(l:Int))-(b:Int))/9223372036854775808=((jV a (cI l) b:Nat):Int):=by
 have:=wT a l b l rfl a1 b1
 rwa[show(l:Int)%4294967296=l by omega]at this
theorem dP (l:List Nat) (i k:Nat):nth (l.drop i) k=nth l (i+k):=by
 unfold nth;rw[List.getD_eq_getElem?_getD,List.getD_eq_getElem?_getD,List.getElem?_drop]
theorem pH (l:List Nat) (i k v:Nat):(l.set (i+k) v).drop i=(l.drop i).set k v:=by
 rw[List.drop_set,if_neg (by omega),show i+k-i=k by omega]
theorem pI (l:List Nat) (i k v:Nat):(l.set (i+k) v).take i=l.take i:=by
 rw[List.take_set,List.set_eq_of_length_le (by rw[List.length_take];omega)]
def BackInv (o1 os ys:List Nat) (k C:Nat):Prop:=AddInv o1 ys os k C∧os.length=o1.length∧∀j,k≤j→nth os j=nth o1 j
theorem BackInv.zero (o1 ys:List Nat):BackInv o1 o1 ys 0 0:=⟨AddInv.zero _ _ _,rfl,fun _ _=>rfl⟩
theorem BackInv.at_ {o1 os ys:List Nat}{k C:Nat}(h:BackInv o1 os ys k C):nth os k=nth o1 k:=h.2.2 k (Nat.le_refl _)
theorem BackInv.step {o1 os ys:List Nat}{k C:Nat}(h:BackInv o1 os ys k C) (hk:k<o1.length) (hx:Lim 4294967296 o1) (hy:Lim 4294967296 ys):
  BackInv o1 (os.set k (cI (nth o1 k+nth ys k+C))) ys (k+1) (fD (nth o1 k+nth ys k+C)):=
 ⟨h.1.step (by rw[h.2.1];exact hk) hx hy,by rw[List.length_set];exact h.2.1,fun j hj=>by rw[fP (by omega)];exact h.2.2 j (by omega)⟩
def Jo (t:TypeId) (g off N c base n:Nat) (ax ys:List Nat) (w:World) (e:Ending) (w':World):Prop:=
 ∃os,e=.returned (.int .u32 ((vl 4294967296 ((ax.drop off).take n)/vl 4294967296 ys:Nat):Int))∧Own t w' base (some ⟨g,0,none⟩) N c os∧os.take off=ax.take off∧
  (∀j,off+n≤j→nth os j=nth ax j)∧vl 4294967296 ((os.drop off).take n)=vl 4294967296 ((ax.drop off).take n)%vl 4294967296 ys∧w.grownBy w' (some g)
set_option maxHeartbeats 2000000 in
theorem Gm (g off N m c d cc q:Nat) (B:Option Addr) (ax ys:List Nat) (n base:Nat) (w:World) (ha:Own 22 w base (some ⟨g,0,none⟩) N c ax) (hoff:off+n≤N) (hN:N≤1099511627776)
  (hb:U32 w g B m d ys) (hm:m<n) (hq:q≤4294967295) (hv:0<vl 4294967296 ys)
  (hq1:vl 4294967296 ((ax.drop off).take n)/vl 4294967296 ys≤q) (hq2:q≤vl 4294967296 ((ax.drop off).take n)/vl 4294967296 ys+1):
  Calls Tryz.prog 97 #[.slice (some ⟨g,off,none⟩) n cc,.slice B m d,.int .u64 (q:Int)] w (Jo 22 g off N c base n ax ys w):=by
 have HA:=Lib.hid ha.len
 have HB:=Lib.hid hb.len
 have hgs:g≤w.heap.size:=by
  obtain⟨g2,e,_,h2⟩:=ha.form (by omega)
  injection e with e;injection e with e;omega
 go_enter Tryz.func97,Tryz.ntmps97
 go_wp2_with fail
 go_loopw [7,8,18] (fun cy bo i wr=>∃(k C b:Nat) (os:List Nat),k≤n∧i=.int .i64 (k:Int)∧cy=.int .u64 (C:Int)∧bo=.int .u64 (b:Int)∧Own 22 wr base (some ⟨g,0,none⟩) N c os∧Hid (os.take off=ax.take off)∧TakeInv (ax.drop off) (os.drop off) ys q k C b∧w.grownBy wr (some g)) (fun _ _ i _=>n-(intOf i).toNat)
 case atStart=>exact⟨0,0,0,ax,Nat.zero_le _,rfl,rfl,rfl,ha,rfl,TakeInv.zero _ _ _,tG _ _⟩
 case round=>
  obtain⟨k,C,b,os,hk,rfl,rfl,rfl,hown,ht,hI,hgr⟩:=hrel
  have hbw:=lV hgr hgs
  by_cases hlt:k<n
  ·have ho1:=hown.cell (show off+k<N by omega)
   have ho2:=hown.frozen (off+k)
   have ho3:=hown.lim.nth (by omega) (off+k)
   have hC:=hI.1
   have hb1:=hI.2.1
   have hat:=hI.at_
   rw[dP,dP]at hat
   have Hat:=Lib.hid hat
   have hset:=hown.set (off+k) (v:=iR (nth os (off+k)) (cI (q*nth ys k+C)) b) (Jl _ _ _)
   have hstep:=hI.step (by rw[List.length_drop,HA.out];omega) hq (ha.lim.drop off) hb.lim
   rw[dP,←hat,←pH]at hstep
   clear hat
   have hts:=pI os off k (iR (nth os (off+k)) (cI (q*nth ys k+C)) b)
   rw[ht.out]at hts
   have Hts:=Lib.hid hts
   clear hts
   by_cases hkm:k<m
   ·obtain⟨b2,o2,sp2,rfl,hbb2,hcc2⟩:=(hb.below hbw).at_ hkm
    have hy1:=hb.lim.nth (by omega) k
    obtain⟨p0,p1⟩:=zH hq hy1
    go_wp2_with fail
    go_roundw
    case rel=>
     rw[zI (nth os (off+k)) (q*nth ys k+C) b ((q:Int)*(nth ys k:Int)+(C:Int)) (by simp) ho3 hb1,wT (nth os (off+k)) (q*nth ys k+C) b ((q:Int)*(nth ys k:Int)+(C:Int)) (by simp) ho3 hb1]
     exact⟨k+1,_,_,_,by omega,by go_num,rfl,rfl,hset,Hts,hstep,jH hgr _ _⟩
    case measure=>simp[intOf];omega
   have hy0:nth ys k=0:=dF (by rw[HB.out];omega)
   rw[hy0,Nat.mul_zero,Nat.zero_add]at hset hstep Hts
   clear hy0
   go_wp2_with fail
   go_roundw
   case rel=>
    rw[Gl (nth os (off+k)) C b ho3 hC hb1,Eb (nth os (off+k)) C b ho3 hC hb1]
    exact⟨k+1,_,_,_,by omega,by go_num,rfl,rfl,hset,Hts,hstep,jH hgr _ _⟩
   case measure=>simp[intOf];omega
  obtain rfl:k=n:=by omega
  have hb1:=hI.2.1
  have hhi:∀j,off+k≤j→nth os j=nth ax j:=fun j hj=>by
   have:=hI.2.2.2.2.1 (j-off) (by omega)
   rwa[dP,dP,show off+(j-off)=j by omega]at this
  have Hhi:=Lib.hid hhi
  clear hhi
  rcases(show b=0∨b=1 by omega)with rfl | rfl
  ·obtain⟨r1,r2⟩:=hI.right (by rw[HB.out];exact hm) hq1 hv
   have R1:=Lib.hid r1
   have R2:=Lib.hid r2
   clear r1 r2 hI hq1 hq2
   go_wp2_with fail
   go_ret
   exact⟨os,by rw[←R1.out];rfl,hown,ht.out,Hhi.out,R2.out,hgr⟩
  obtain⟨hq0,r1,r2⟩:=hI.over (by rw[HB.out];exact hm) (by rw[List.length_drop,hown.len];omega) (hown.lim.drop off) hb.lim hq2 hv
  have R1:=Lib.hid r1
  have R2:=Lib.hid r2
  have HO:=Lib.hid hown.len
  have hol:=hown.lim.drop off
  clear r1 r2 hI hq1 hq2
  obtain⟨wo,rfl⟩:∃wo:World,wo=wr:=⟨_,rfl⟩
  rw[show((1:Nat):Int)=1 from rfl]
  go_wp2_with fail
  go_loopw [13,62] (fun cy i wr=>∃(j C2:Nat) (oz:List Nat),j≤k∧i=.int .i64 (j:Int)∧cy=.int .u32 (C2:Int)∧Own 22 wr base (some ⟨g,0,none⟩) N c oz∧Hid (oz.take off=ax.take off)∧BackInv (os.drop off) (oz.drop off) ys j C2∧w.grownBy wr (some g)) (fun _ i _=>k-(intOf i).toNat)
  case atStart=>exact⟨0,0,os,Nat.zero_le _,rfl,rfl,hown,ht,BackInv.zero _ _,hgr⟩
  case round=>
   obtain⟨j,C2,oz,hj,rfl,rfl,hown2,ht2,hK,hgr2⟩:=hrel
   have hbw2:=lV hgr2 hgs
   by_cases hlj:j<k
   ·have ho1:=hown2.cell (show off+j<N by omega)
    have ho2:=hown2.frozen (off+j)
    have ho3:=hown2.lim.nth (by omega) (off+j)
    have hC2:=hK.1.le
    have hat:=hK.at_
    rw[dP,dP]at hat
    have hset:=hown2.set (off+j) (v:=cI (nth oz (off+j)+nth ys j+C2)) (oV _)
    have hstep:=hK.step (by rw[List.length_drop,HO.out];omega) hol hb.lim
    rw[dP,←hat,←pH]at hstep
    clear hat
    have hts:=pI oz off j (cI (nth oz (off+j)+nth ys j+C2))
    rw[ht2.out]at hts
    have Hts:=Lib.hid hts
    clear hts
    by_cases hkm:j<m
    ·obtain⟨b2,o2,sp2,rfl,hbb2,hcc2⟩:=(hb.below hbw2).at_ hkm
     have hy1:=hb.lim.nth (by omega) j
     go_wp2_with fail
     refine(kX _ _ _ _ ho3 hy1 (by omega)).mono ?_
     rintro e w' ⟨rfl,rfl⟩
     go_wp2_with fail
     go_roundw
     case rel=>exact⟨j+1,_,_,by omega,by go_num,rfl,hset,Hts,hstep,jH hgr2 _ _⟩
     case measure=>simp[intOf];omega
    have hy0:nth ys j=0:=dF (by rw[HB.out];omega)
    rw[hy0]at hset hstep Hts
    clear hy0
    go_wp2_with fail
    refine(kX _ 0 _ _ ho3 (by omega) (by omega)).mono ?_
    rintro e w' ⟨rfl,rfl⟩
    go_wp2_with fail
    go_roundw
    case rel=>exact⟨j+1,_,_,by omega,by go_num,rfl,hset,Hts,hstep,jH hgr2 _ _⟩
    case measure=>simp[intOf];omega
   obtain rfl:j=k:=by omega
   have h1:vl 4294967296 ((oz.drop off).take j)=vl 4294967296 ((ax.drop off).take j)%vl 4294967296 ys:=by
    refine R2.out _ C2 ?_ hK.1.le ?_
    ·have:=dQ ((hown2.lim.drop off).take j)
     rwa[List.length_take,List.length_drop,hown2.len,Nat.min_eq_left (by omega)]at this
    have:=hK.1.2
    rwa[aQ 4294967296 (l:=ys) (by rw[HB.out];omega)]at this
   have H1:=Lib.hid h1
   have h2:∀i,off+j≤i→nth oz i=nth ax i:=fun i hi=>by
    have:=hK.2.2 (i-off) (by omega)
    rw[dP,dP,show off+(i-off)=i by omega]at this
    rw[this];exact Hhi.out i hi
   have H2:=Lib.hid h2
   clear h1 h2 hK
   go_wp2_with fail
   go_ret
   exact⟨oz,by rw[←R1.out];go_num,hown2,ht2.out,H2.out,H1.out,hgr2⟩
end Go.Proofs.YteggpgndiajdpaaGreatDoor
namespace Go.Proofs.YteggpgndiajdpaaGreatDoor
open Go Go.Shelf
def laysLz_ren:Go.Shelf.Ren:=⟨fun | 133=>94 | 128=>130 | n=>n,fun | 51=>22 | 3=>3 | 4=>4 | 46=>85 | 5=>5 | 9=>9 | n=>n,fun | n=>n⟩
theorem Ec:Go.Proofs.Lays.n133 Tryz.prog laysLz_ren:={
 mixed:=by kernel_rfl
 f128:=Tryz.func130.trans (congrArg some (by kernel_rfl))
 f133:=Tryz.func94.trans (congrArg some (by kernel_rfl))
 t3:=Tryz.underlying3
 a3:=Tryz.isAgg3
 z3:=Tryz.sizeOf3
 v3:=Tryz.zeroValue3
 t4:=Tryz.underlying4
 a4:=Tryz.isAgg4
 z4:=Tryz.sizeOf4
 v4:=Tryz.zeroValue4
 t5:=Tryz.underlying5
 a5:=Tryz.isAgg5
 z5:=Tryz.sizeOf5
 v5:=Tryz.zeroValue5
 t9:=Tryz.underlying9
 a9:=Tryz.isAgg9
 z9:=Tryz.sizeOf9
 v9:=Tryz.zeroValue9
 t46:=Tryz.underlying85
 a46:=Tryz.isAgg85
 z46:=Tryz.sizeOf85
 v46:=Tryz.zeroValue85
 t51:=Tryz.underlying22
 a51:=Tryz.isAgg22
 z51:=Tryz.sizeOf22
 v51:=Tryz.zeroValue22}
theorem lP:∀(f x:Nat),x<2^f→x≠0→0<Lib.bitLenAux f x∧2^(Lib.bitLenAux f x-1)≤x∧x<2^Lib.bitLenAux f x∧Lib.bitLenAux f x≤f
 | 0,x,h,h0=>by simp at h;exact absurd h h0
 | f+1,x,h,h0=>by
  simp only[Lib.bitLenAux,if_neg h0]
  by_cases h1:x/2=0
  ·rw[h1]
   have:x=1:=by omega
   subst this
   cases f <;> simp[Lib.bitLenAux]
  obtain⟨a,b,c,d⟩:=lP f (x/2) (by rw[Nat.pow_succ]at h;omega) h1
  generalize Lib.bitLenAux f (x/2)=k at*
  have e:2^k=2*2^(k-1):=by
   rw[←Nat.pow_succ',show(k-1).succ=k by omega]
  refine⟨by omega,?_,?_,by omega⟩
  ·rw[show 1+k-1=k by omega];omega
  rw[Nat.add_comm,Nat.pow_succ];omega
theorem uA {x:Nat}(h:x<4294967296) (h0:x≠0):∃k:Nat,(32:Int)-(Lib.bitLen x:Int)=(k:Int)∧k<32∧2147483648≤x*2^k∧x*2^k<4294967296:=by
 have hx:x<2^64:=Nat.lt_trans h (by decide)
 obtain⟨a,b,c,_⟩:=lP 64 x hx h0
 have hl:Lib.bitLen x≤32:=Lib.bitLen_le x 32 (by omega) (by omega)
 have hd:Lib.bitLen x=Lib.bitLenAux 64 x:=rfl
 rw[←hd]at a b c
 generalize Lib.bitLen x=l at*
 have e1:2^(l-1)*2^(32-l)=2147483648:=by
  rw[←Nat.pow_add,show l-1+(32-l)=31 by omega]
 have e2:2^l*2^(32-l)=4294967296:=by
  rw[←Nat.pow_add,show l+(32-l)=32 by omega]
 have hp:0<2^(32-l):=Nat.pos_of_ne_zero (by simp)
 refine⟨32-l,by omega,by omega,?_,?_⟩
 ·rw[←e1];exact Nat.mul_le_mul_right _ b
 rw[←e2];exact Nat.mul_lt_mul_of_pos_right c hp
theorem bits_LeadingZeros32 (x:Nat) (w:World) (h:x<4294967296) (h0:x≠0):
  ∃k:Nat,k<32∧2147483648≤x*2^k∧x*2^k<4294967296∧
   Calls Tryz.prog 94 #[.int .u32 (x:Int)] w fun e w'=>e=.returned (.int .i64 (k:Int))∧w=w':=by
 obtain⟨k,e,k1,k2,k3⟩:=uA h h0
 refine⟨k,k1,k2,k3,(Any.bits_LeadingZeros32 Ec (x:Int) w (by omega) (by omega)).mono fun _ _ ⟨h1,h2⟩=>⟨?_,h2.symm⟩⟩
 rw[h1,←e]
 rfl
end Go.Proofs.YteggpgndiajdpaaGreatDoor
namespace Go.Proofs.YteggpgndiajdpaaGreatDoor
open Go Go.RowKit
theorem uJ {l:List Nat}{m:Nat}(h:vl 4294967296 l<4294967296^m):vl 4294967296 (l.take m)=vl 4294967296 l∧vl 4294967296 (l.drop m)=0:=by
 by_cases hm:m≤l.length
 ·have e:=jG 4294967296 l m hm
  have:vl 4294967296 (l.drop m)=0:=by
   rcases Nat.eq_zero_or_pos (vl 4294967296 (l.drop m))with h0 | h0
   ·exact h0
   have:4294967296^m*1≤4294967296^m*vl 4294967296 (l.drop m):=Nat.mul_le_mul_left _ h0
   omega
  rw[this,Nat.mul_zero,Nat.add_zero]at e
  exact⟨e.symm,this⟩
 rw[List.take_of_length_le (by omega),List.drop_eq_nil_of_le (by omega)]
 exact⟨rfl,rfl⟩
def DMInv (a0 os qs ys:List Nat) (k:Nat):Prop:=
 os.length=a0.length∧(∀j,j<k→nth os j=nth a0 j)∧vl 4294967296 (os.drop k)<vl 4294967296 ys∧vl 4294967296 (a0.drop k)=vl 4294967296 (qs.drop k)*vl 4294967296 ys+vl 4294967296 (os.drop k)
theorem DMInv.top {a ys:List Nat}{Q:Nat}(ha:Lim 4294967296 a) (hQ:Q+ys.length=a.length+1) (hy:ys.length≠0) (hv:4294967296^(ys.length-1)≤vl 4294967296 ys):
  DMInv (a++[0]) (a++[0]) (List.replicate Q 0) ys Q:=by
 refine⟨rfl,fun _ _=>rfl,?_,?_⟩
 ·have e:(a++[0]).drop Q=a.drop Q++[0]:=by rw[List.drop_append_of_le_length (by omega)]
  rw[e,fA,Nat.mul_zero,Nat.add_zero]
  have:=dQ (ha.drop Q)
  rw[List.length_drop,show a.length-Q=ys.length-1 by omega]at this
  omega
 have e:(List.replicate Q 0).drop Q=[]:=List.drop_eq_nil_of_le (by simp)
 rw[e,Ku,Nat.zero_mul,Nat.zero_add]
theorem DMInv.window {a0 os qs ys:List Nat}{i:Nat}(h:DMInv a0 os qs ys (i+1)) (hi:i<os.length) (hy:Lim 4294967296 ys) (ho:Lim 4294967296 os):
  vl 4294967296 ((os.drop i).take (ys.length+1))=vl 4294967296 (os.drop i)∧vl 4294967296 (os.drop i)=nth os i+4294967296*vl 4294967296 (os.drop (i+1))∧
   vl 4294967296 (os.drop i)<vl 4294967296 ys*4294967296∧vl 4294967296 ((os.drop i).drop (ys.length+1))=0:=by
 obtain⟨h1,h2,h3,h4⟩:=h
 have e:=dO 4294967296 (l:=os) (k:=i+1) (by omega) (by omega)
 rw[show i+1-1=i by omega]at e
 have o1:=ho.nth (by omega) i
 have hv:=dQ hy
 have hlt:vl 4294967296 (os.drop i)<vl 4294967296 ys*4294967296:=by
  rw[e]
  generalize vl 4294967296 (os.drop (i+1))=r at*
  generalize vl 4294967296 ys=v at*
  omega
 have hp:vl 4294967296 (os.drop i)<4294967296^(ys.length+1):=by
  rw[Nat.pow_succ]
  exact Nat.lt_of_lt_of_le hlt (Nat.mul_le_mul_right _ (Nat.le_of_lt hv))
 obtain⟨t1,t2⟩:=uJ hp
 exact⟨t1,e,hlt,t2⟩
theorem sX {a b:List Nat}(hl:a.length=b.length){k:Nat}(h:∀j,k≤j→nth a j=nth b j):a.drop k=b.drop k:=by
 apply List.ext_getElem
 ·simp[hl]
 intro i h1 h2
 rw[List.length_drop]at h1 h2
 have:=h (k+i) (by omega)
 rw[aY (by omega),aY (by omega)]at this
 simpa using this
theorem lQ {a b:List Nat}{i:Nat}(h:a.take i=b.take i){j:Nat}(hj:j<i):nth a j=nth b j:=by
 have e:∀l:List Nat,nth (l.take i) j=nth l j:=fun l=>by
  unfold nth
  rw[List.getD_eq_getElem?_getD,List.getD_eq_getElem?_getD,List.getElem?_take,if_pos hj]
 rw[←e a,←e b,h]
theorem DMInv.step {a0 os qs ys os':List Nat}{i:Nat}(h:DMInv a0 os qs ys (i+1)) (hi:i<os.length) (hq:i<qs.length) (hy:Lim 4294967296 ys) (ho:Lim 4294967296 os) (hv:0<vl 4294967296 ys)
  (hl:os'.length=os.length) (ht:os'.take i=os.take i) (hhi:∀j,i+(ys.length+1)≤j→nth os' j=nth os j)
  (hr:vl 4294967296 ((os'.drop i).take (ys.length+1))=vl 4294967296 ((os.drop i).take (ys.length+1))%vl 4294967296 ys) (hN:i+(ys.length+1)≤os.length):
  DMInv a0 os' (qs.set i (vl 4294967296 ((os.drop i).take (ys.length+1))/vl 4294967296 ys)) ys i:=by
 obtain⟨w1,w2,w3,w4⟩:=h.window hi hy ho
 obtain⟨h1,h2,h3,h4⟩:=h
 have hd:(os'.drop i).drop (ys.length+1)=(os.drop i).drop (ys.length+1):=by
  rw[List.drop_drop,List.drop_drop]
  exact sX hl hhi
 have hv':vl 4294967296 (os'.drop i)=vl 4294967296 (os.drop i)%vl 4294967296 ys:=by
  rw[jG 4294967296 (os'.drop i) (ys.length+1) (by rw[List.length_drop];omega),hd,w4,hr,w1]
  omega
 have e:=dO 4294967296 (l:=a0) (k:=i+1) (by omega) (by omega)
 rw[show i+1-1=i by omega]at e
 have e2:=dO 4294967296 (l:=qs.set i (vl 4294967296 ((os.drop i).take (ys.length+1))/vl 4294967296 ys)) (k:=i+1) (by omega) (by rw[List.length_set];omega)
 have e3:(qs.set i (vl 4294967296 ((os.drop i).take (ys.length+1))/vl 4294967296 ys)).drop (i+1)=qs.drop (i+1):=by rw[List.drop_set,if_pos (by omega)]
 rw[show i+1-1=i by omega,qU hq,e3]at e2
 refine⟨by omega,fun j hj=>by rw[lQ ht hj];exact h2 j (by omega),by rw[hv'];exact Nat.mod_lt _ hv,?_⟩
 rw[e,e2,hv',h4,←h2 i (by omega),w1]
 have hdm:=Nat.div_add_mod (vl 4294967296 (os.drop i)) (vl 4294967296 ys)
 rw[w2]at hdm⊢
 generalize vl 4294967296 (os.drop (i+1))=r at*
 generalize vl 4294967296 ys=v at*
 generalize vl 4294967296 (qs.drop (i+1))=q at*
 generalize (nth os i+4294967296*r)/v=d at*
 generalize (nth os i+4294967296*r)%v=m at*
 grind
theorem DMInv.end_ {a0 os qs ys:List Nat}(h:DMInv a0 os qs ys 0) (hv:0<vl 4294967296 ys):vl 4294967296 qs=vl 4294967296 a0/vl 4294967296 ys∧vl 4294967296 os=vl 4294967296 a0%vl 4294967296 ys:=by
 obtain⟨_,_,h3,h4⟩:=h
 simp only[List.drop_zero]at h3 h4
 exact Ea hv (by omega) h3
theorem Jp {l:List Nat}{m:Nat}(h:l.length=m+3):vl 4294967296 l=((nth l (m+2)*4294967296+nth l (m+1))*4294967296+nth l m)*4294967296^m+vl 4294967296 (l.take m):=by
 have e1:=aN 4294967296 l m
 have e2:=aN 4294967296 l (m+1)
 have e3:=aN 4294967296 l (m+1+1)
 rw[aQ 4294967296 (l:=l) (by omega)]at e3
 rw[e3,e2,e1]
 simp only[Nat.pow_succ]
 generalize 4294967296^m=p at*
 grind
theorem Jq {l:List Nat}{m:Nat}(h:l.length=m+2):vl 4294967296 l=(nth l (m+1)*4294967296+nth l m)*4294967296^m+vl 4294967296 (l.take m):=by
 have e1:=aN 4294967296 l m
 have e2:=aN 4294967296 l (m+1)
 rw[aQ 4294967296 (l:=l) (by omega)]at e2
 rw[e2,e1]
 simp only[Nat.pow_succ]
 generalize 4294967296^m=p at*
 grind
theorem Jr {B p f s hi mid low v' ul:Nat}(hs:s<B) (hv:v'<p) (hlt:((hi*B+mid)*B+low)*p+ul<((f*B+s)*p+v')*B):hi≤f:=by
 rcases Nat.lt_or_ge f hi with h | h
 ·exfalso
  have hB:0<B:=by omega
  have h1:(f*B+s)*p+v'<(f*B+s+1)*p:=by rw[Nat.succ_mul];omega
  have h2:=Nat.mul_lt_mul_of_pos_right h1 hB
  have h3:f*B+s+1≤(f+1)*B:=by rw[Nat.succ_mul];omega
  have h4:=Nat.mul_le_mul_right B (Nat.mul_le_mul_right p h3)
  have h5:=Nat.mul_le_mul_right B (Nat.mul_le_mul_right p (Nat.mul_le_mul_right B h))
  have h6:hi*B*p*B=hi*B*B*p:=by rw[Nat.mul_assoc (hi*B) p B,Nat.mul_comm p B,←Nat.mul_assoc]
  have h7:hi*B*B*p≤((hi*B+mid)*B+low)*p:=Nat.mul_le_mul_right _ (by rw[Nat.add_mul];omega)
  have h8:(f+1)*B*p*B≤hi*B*p*B:=h5
  omega
 exact h
theorem wU {u:List Nat}{ys:List Nat}{m:Nat}(hu:Lim 4294967296 u) (hul:u.length=m+3) (hy:Lim 4294967296 ys) (hyl:ys.length=m+2) (hf:2147483648≤nth ys (m+1)) (hlt:vl 4294967296 u<vl 4294967296 ys*4294967296):
  nth u (m+2)≤nth ys (m+1)∧
  vl 4294967296 u/vl 4294967296 ys≤cJ ((nth u (m+2)*4294967296+nth u (m+1))*4294967296+nth u m) (nth ys (m+1)*4294967296+nth ys m)∧
  cJ ((nth u (m+2)*4294967296+nth u (m+1))*4294967296+nth u m) (nth ys (m+1)*4294967296+nth ys m)≤vl 4294967296 u/vl 4294967296 ys+1:=by
 have e1:=Jp hul
 have e2:=Jq hyl
 have l1:=dQ (hu.take m)
 have l2:=dQ (hy.take m)
 rw[List.length_take,Nat.min_eq_left (by omega)]at l1 l2
 have y1:=hy.nth (by omega) m
 refine⟨?_,Bm e1 l1 e2 l2 (by omega) hlt⟩
 rw[e1,e2]at hlt
 exact Jr y1 l2 hlt
def Apart (A1 A2:Option Addr):Prop:=∀a b,A1=some a→A2=some b→a.block≠b.block
theorem Apart.left (A:Option Addr):Apart none A:=fun _ _ h=>by cases h
theorem Apart.right (A:Option Addr):Apart A none:=fun _ _ _ h=>by cases h
theorem Apart.symm {A1 A2:Option Addr}(h:Apart A1 A2):Apart A2 A1:=fun a b ha hb e=>h b a hb ha e.symm
theorem Apart.of {t:TypeId}{w0 w1:World}{b1 b2 n1 c1 n2 c2:Nat}{A1 A2:Option Addr}{xs ys:List Nat}(h1:Own t w0 b1 A1 n1 c1 xs) (h2:Own t w1 b2 A2 n2 c2 ys) (h:w0.heap.size≤b2):Apart A1 A2:=by
 rintro a b rfl rfl e
 rcases h1.row.2 with⟨hh,_⟩ | ⟨g,cap,cur,hv,_,hg,_⟩
 ·cases hh
 rcases h2.row.2 with⟨hh,_⟩ | ⟨g2,cap2,cur2,hv2,hb2,_⟩
 ·cases hh
 injection hv with e1
 injection e1 with e1
 injection hv2 with e2
 injection e2 with e2
 subst e1;subst e2
 have:=(Array.getElem?_eq_some_iff.1 hg).1
 dsimp only at e
 omega
def qY (q r:List Nat) (e1:Nat) (w:World) (e:Ending) (w':World):Prop:=
 ∃A1 n1 c1 A2 n2 c2,e=.returned (.tuple #[.slice A1 n1 c1,.slice A2 n2 c2,.int .i64 (e1:Int)])∧Own 22 w' w.heap.size A1 n1 c1 q∧Own 22 w' w.heap.size A2 n2 c2 r∧Apart A1 A2∧Below w.heap.size w w'
set_option maxHeartbeats 1000000 in
theorem qZ (A B:Option Addr) (n m c d:Nat) (xs ys:List Nat) (w:World) (ha:U32 w w.heap.size A n c xs) (hb:U32 w w.heap.size B m d ys) (hn:n≤549755813888) (hm:m≤549755813888) (hy:vl 4294967296 ys=0):
  Calls Tryz.prog 45 #[.slice A n c,.slice B m d] w (qY [] [] 20 w):=by
 have ht:trim ys=[]:=(dE 4294967296 (by omega) ys).2 hy
 go_enter Tryz.func45,Tryz.ntmps45
 go_wp2_with fail
 refine(cO _ _ _ xs _ ha (by omega)).mono ?_
 rintro e w1 ⟨A1,n1,c1,rfl,h1,hb1⟩
 go_wp2_with fail
 refine(cO _ _ _ ys _ (hb.now hb1) (by omega)).mono ?_
 rintro e w2 ⟨A2,n2,c2,rfl,h2,hb2⟩
 obtain rfl:n2=0:=by rw[←h2.len,ht];rfl
 have hb3:=hb1.trans (hb2.mono hb1.size)
 go_wp2_with fail
 go_ret3
 exact⟨none,0,0,none,0,0,rfl,Own.nil,Own.nil,Apart.left _,hb3⟩
set_option maxHeartbeats 1000000 in
theorem uK (A B:Option Addr) (n m c d:Nat) (xs ys:List Nat) (w:World) (ha:U32 w w.heap.size A n c xs) (hb:U32 w w.heap.size B m d ys) (hn:n≤549755813888) (hm:m≤549755813888) (hlt:vl 4294967296 xs<vl 4294967296 ys):
  Calls Tryz.prog 45 #[.slice A n c,.slice B m d] w (qY (dg 4294967296 (vl 4294967296 xs/vl 4294967296 ys)) (dg 4294967296 (vl 4294967296 xs%vl 4294967296 ys)) 0 w):=by
 have e1:=Lib.hid (lO hlt)
 have e2:=Lib.hid (Nat.div_eq_of_lt hlt)
 have e3:=Lib.hid (Nat.mod_eq_of_lt hlt)
 have e4:=Lib.hid (dR (by omega) ha.lim:dg 4294967296 (vl 4294967296 xs)=trim xs)
 have hy:trim ys≠[]:=fun e=>by
  have:=(dE 4294967296 (by omega) ys).1 e
  omega
 go_enter Tryz.func45,Tryz.ntmps45
 go_wp2_with fail
 refine(cO _ _ _ xs _ ha (by omega)).mono ?_
 rintro e w1 ⟨A1,n1,c1,rfl,h1,hb1⟩
 go_wp2_with fail
 refine(cO _ _ _ ys _ (hb.now hb1) (by omega)).mono ?_
 rintro e w2 ⟨A2,n2,c2,rfl,h2,hb2⟩
 have hn2:0<n2:=by
  rw[←h2.len]
  exact List.length_pos_iff.2 hy
 have hq:((n2:Int)==0)=false:=by rw[beq_eq_false_iff_ne];omega
 have h3:=h1.below hb2
 have hb3:=hb1.trans (hb2.mono hb1.size)
 clear hy
 go_wp2_with fail
 refine(mO _ _ _ _ _ _ _ _ _ _ h3.u32 h2.u32).mono ?_
 rintro e w' ⟨rfl,q,rfl⟩
 rw[cA,cA,e1.out]
 go_wp2_with fail
 go_ret3
 refine⟨none,0,0,A1,n1,c1,rfl,by rw[e2.out];exact Own.nil,by rw[e3.out,e4.out];exact h3.drew_base,Apart.left _,eF hb3 _⟩
set_option maxHeartbeats 1000000 in
theorem sY (A B:Option Addr) (n m c d y:Nat) (xs ys:List Nat) (w:World) (ha:U32 w w.heap.size A n c xs) (hb:U32 w w.heap.size B m d ys) (hn:n≤549755813888) (hm:m≤549755813888) (hle:vl 4294967296 ys≤vl 4294967296 xs) (ht:trim ys=[y]):
  Calls Tryz.prog 45 #[.slice A n c,.slice B m d] w (qY (dg 4294967296 (vl 4294967296 xs/vl 4294967296 ys)) (dg 4294967296 (vl 4294967296 xs%vl 4294967296 ys)) 0 w):=by
 have hy1:vl 4294967296 ys=y:=by rw[←cA,ht,uW]
 have hyl:y<4294967296:=by
  have:=hb.lim.trim
  rw[ht]at this
  exact this.head
 have hy0:y≠0:=by
  have:=kE (kD ys) (by rw[ht];simp)
  simpa[ht]using this
 have hge:¬fS (vl 4294967296 (trim xs)) (vl 4294967296 (trim ys))<0:=by
  rw[cA,cA]
  rcases Nat.lt_or_ge (vl 4294967296 ys) (vl 4294967296 xs)with h | h
  ·rw[jD h];omega
  rw[sW (by omega)];omega
 have htl:=bV xs
 rw[ha.len]at htl
 have hx1:=cA 4294967296 xs
 rw[hy1]
 have HT:=Lib.hid ht
 clear ht hle hy1
 go_enter Tryz.func45,Tryz.ntmps45
 go_wp2_with fail
 refine(cO _ _ _ xs _ ha (by omega)).mono ?_
 rintro e w1 ⟨A1,n1,c1,rfl,h1,hb1⟩
 have H1:=Lib.hid h1.len
 go_wp2_with fail
 refine(cO _ _ _ ys _ (hb.now hb1) (by omega)).mono ?_
 rintro e w2 ⟨A2,n2,c2,rfl,h2,hb2⟩
 obtain rfl:n2=1:=by rw[←h2.len,HT.out];rfl
 have h3:=h1.below hb2
 have hb3:=hb1.trans (hb2.mono hb1.size)
 clear hb1 hb2 h1
 obtain⟨g,rfl,hg1,hg2⟩:=h2.form (by omega)
 have hc:=h2.cell (j:=0) (by omega)
 rw[HT.out,show nth [y] 0=y from rfl]at hc
 have HX:=Lib.hid hx1
 clear hx1
 go_wp2_with fail
 refine(mO _ _ _ _ _ _ _ _ _ _ h3.u32 h2.u32).mono ?_
 rintro e w' ⟨rfl,q,rfl⟩
 go_wp2_with fail
 refine(iS _ _ _ _ _ (w2.drewN q) h3.drew_base.u32 (by rw[←H1.out];omega) (by omega) hyl).mono ?_
 rintro e w3 ⟨A3,n3,c3,rfl,h4,hb4⟩
 have hb5:Below w.heap.size w w3:=(eF hb3 q).trans (hb4.mono hb3.size)
 have hr:vl 4294967296 (trim xs)%y<4294967296:=Nat.lt_trans (Nat.mod_lt _ (by omega)) hyl
 clear hb4
 go_wp2_with fail
 have hU:U32 (w3.alloc (.cells #[.int .u32 (vl 4294967296 (trim xs)%y:Nat)] 22)) (w3.alloc (.cells #[.int .u32 (vl 4294967296 (trim xs)%y:Nat)] 22)).heap.size (some ⟨w3.heap.size,0,none⟩) 1 1 [vl 4294967296 (trim xs)%y]:=by
  refine⟨⟨rfl,Nat.le_refl _,by omega,fun _=>⟨_,rfl,by simp,fun k u hu=>?_⟩⟩,Lim.cons hr Lim.nil⟩
  have hk:k=0:=by
   rcases Nat.eq_zero_or_pos k with h | h
   ·exact h
   rw[List.getElem?_eq_none (by rw[eS];exact h)]at hu;cases hu
  subst hk
  rw[show(⟨w3.heap.size,0,none⟩:Addr).add 0=⟨w3.heap.size,0,none⟩ from rfl,lU _ _ _ 0 rfl]
  exact hu
 refine(cO _ _ _ [vl 4294967296 (trim xs)%y] _ hU (by omega)).mono ?_
 rintro e w4 ⟨A4,n4,c4,rfl,h5,hb6⟩
 have hbA:Below w3.heap.size w3 (w3.alloc (.cells #[.int .u32 (vl 4294967296 (trim xs)%y:Nat)] 22)):=fH _ _
 have hb7:=hbA.trans (hb6.mono hbA.size)
 go_wp2_with fail
 go_ret3
 refine⟨_,_,_,_,_,_,rfl,?_,?_,?_,hb5.trans (hb7.mono hb5.size)⟩
 ·have:=(h4.below hb7).base_le hb3.size
  rwa[HX.out]at this
 ·have:=h5.base_le (base':=w.heap.size) (Nat.le_trans hb5.size hbA.size)
  rw[←dR (by omega) (Lim.cons hr Lim.nil),uW,HX.out]at this
  exact this
 exact Apart.of h4 h5 hbA.size
theorem Js {P:Program}{f:FuncId}{args:Array Value}{w:World}{n:Nat}{v:Value}
  (h:Calls P f args (w.drewN n) fun e w'=>e=.returned v∧∃m,w'=(w.drewN n).drewN m):
  Calls P f args (w.drewN n) fun e w''=>e=.returned v∧∃m,w''=w.drewN m:=
 h.mono fun _ _ ⟨he,m,hm⟩=>⟨he,n+m,by rw[hm,World.drewN_drewN]⟩
theorem rA (A:Option Addr) (n c up R:Nat) (xs:List Nat) (w:World) (ha:U32 w w.heap.size A n c xs) (hv:vl 4294967296 xs=R*2^up) (hn:n≤1099511627775) (hup:up<32):
  Calls Tryz.prog 95 #[.slice A n c,.int .i64 (-(up:Int))] w (qV (dg 4294967296 R) 0 w):=by
 have hP:0<2^up:=Nat.pos_of_ne_zero (by simp)
 rcases Nat.eq_zero_or_pos R with h0 | h0
 ·subst h0
  exact qW A n c _ xs w ha (by rw[hv,Nat.zero_mul])
 have hne:R*2^up≠0:=Nat.pos_iff_ne_zero.1 (Nat.mul_pos h0 hP)
 rcases Nat.eq_zero_or_pos up with h1 | h1
 ·subst h1
  rw[show(-((0:Nat):Int))=((0:Nat):Int) from rfl]
  have:=iT A n c 0 R xs w ha (by rw[hv];simp) hn (by omega) (by omega)
  simpa using this
 have:=qX A n c up (R*2^up) xs w ha hv hn h1 hup hne
 rwa[Nat.mul_div_cancel _ hP]at this
theorem Ns (w:World) (v:Nat):Rd (w.alloc (.cells #[.int .u32 (v:Int)] 22)) (w.heap.size+1) 1 (some ⟨w.heap.size,0,none⟩) 1 1 (cX [v]):=by
 refine⟨rfl,Nat.le_refl _,by omega,fun _=>⟨_,rfl,by simp,fun k u hu=>?_⟩⟩
 have hk:k=0:=by
  rcases Nat.eq_zero_or_pos k with h | h
  ·exact h
  rw[List.getElem?_eq_none (by rw[eS];exact h)]at hu;cases hu
 subst hk
 rw[show(⟨w.heap.size,0,none⟩:Addr).add 0=⟨w.heap.size,0,none⟩ from rfl,lU _ _ _ 0 rfl]
 exact hu
theorem Ed {ys:List Nat}{lb up:Nat}(hy:Lim 4294967296 ys) (hl:ys.length=lb) (h2:2≤lb) (hup:up<32) (u2:2147483648≤nth ys (lb-1)*2^up) (u3:nth ys (lb-1)*2^up<4294967296):
  (dg 4294967296 (vl 4294967296 ys*2^up)).length=lb∧2147483648≤nth (dg 4294967296 (vl 4294967296 ys*2^up)) (lb-1)∧0<vl 4294967296 ys∧4294967296^(lb-1)≤vl 4294967296 ys*2^up:=by
 have e:=aN 4294967296 ys (lb-1)
 rw[show lb-1+1=lb by omega,aQ 4294967296 (l:=ys) (by omega)]at e
 have hlow:=dQ (hy.take (lb-1))
 rw[List.length_take,Nat.min_eq_left (by omega)]at hlow
 have hB:0<4294967296^(lb-1):=Nat.pos_of_ne_zero (by simp)
 have hP:0<2^up:=Nat.pos_of_ne_zero (by simp)
 have hpow:2^up*2^(32-up)=4294967296:=by rw[←Nat.pow_add,show up+(32-up)=32 by omega]
 have htop:(nth ys (lb-1)+1)*2^up≤4294967296:=by
  rw[←hpow]at u3⊢
  rw[Nat.mul_comm]at u3
  have:=Nat.lt_of_mul_lt_mul_left u3
  rw[Nat.mul_comm]
  exact Nat.mul_le_mul_left _ this
 have hge:2147483648*4294967296^(lb-1)≤vl 4294967296 ys*2^up:=by
  rw[e,Nat.add_mul]
  have:2147483648*4294967296^(lb-1)≤nth ys (lb-1)*2^up*4294967296^(lb-1):=Nat.mul_le_mul_right _ u2
  have e2:nth ys (lb-1)*2^up*4294967296^(lb-1)=4294967296^(lb-1)*nth ys (lb-1)*2^up:=by
   rw[Nat.mul_assoc,Nat.mul_comm (2^up),←Nat.mul_assoc,Nat.mul_comm (nth ys (lb-1))]
  omega
 have hlt:vl 4294967296 ys*2^up<4294967296^lb:=by
  have h1:vl 4294967296 ys<(nth ys (lb-1)+1)*4294967296^(lb-1):=by rw[Nat.succ_mul,Nat.mul_comm (nth ys (lb-1)),e];omega
  have h2:=Nat.mul_lt_mul_of_pos_right h1 hP
  have h3:(nth ys (lb-1)+1)*4294967296^(lb-1)*2^up=(nth ys (lb-1)+1)*2^up*4294967296^(lb-1):=by
   rw[Nat.mul_assoc,Nat.mul_comm (4294967296^(lb-1)),←Nat.mul_assoc]
  have h4:(nth ys (lb-1)+1)*2^up*4294967296^(lb-1)≤4294967296*4294967296^(lb-1):=Nat.mul_le_mul_right _ htop
  have h5:4294967296^lb=4294967296*4294967296^(lb-1):=by rw[←Nat.pow_succ',show(lb-1).succ=lb by omega]
  omega
 have hpos:0<vl 4294967296 ys:=by
  rcases Nat.eq_zero_or_pos (vl 4294967296 ys)with h | h
  ·rw[h]at hge;omega
  exact h
 generalize vl 4294967296 ys*2^up=v at*
 have hlen:(dg 4294967296 v).length=lb:=by
  have h1:=aF (B:=4294967296) (by omega) hlt
  have h2:=dW (B:=4294967296) (n:=v) (by omega)
  rcases Nat.lt_or_ge (dg 4294967296 v).length lb with h | h
  ·have:4294967296^(dg 4294967296 v).length≤4294967296^(lb-1):=Nat.pow_le_pow_right (by omega) (by omega)
   omega
  omega
 refine⟨hlen,?_,hpos,by omega⟩
 have e3:=aN 4294967296 (dg 4294967296 v) (lb-1)
 rw[show lb-1+1=lb by omega,aQ 4294967296 (l:=dg 4294967296 v) (by omega),bL (by omega)]at e3
 have h6:=dQ ((bE (B:=4294967296) (by omega) v).take (lb-1))
 rw[List.length_take,Nat.min_eq_left (by omega)]at h6
 rcases Nat.lt_or_ge (nth (dg 4294967296 v) (lb-1)) 2147483648 with h | h
 ·exfalso
  have h7:4294967296^(lb-1)*nth (dg 4294967296 v) (lb-1)≤4294967296^(lb-1)*2147483647:=Nat.mul_le_mul_left _ (by omega)
  omega
 exact h
set_option maxHeartbeats 4000000 in
theorem rB (A B:Option Addr) (n m c d:Nat) (xs ys:List Nat) (w:World) (ha:U32 w w.heap.size A n c xs) (hb:U32 w w.heap.size B m d ys) (hn:n≤549755813888) (hm:m≤549755813888) (hle:vl 4294967296 ys≤vl 4294967296 xs) (h2:2≤(trim ys).length):
    Calls Tryz.prog 45 #[.slice A n c,.slice B m d] w (qY (dg 4294967296 (vl 4294967296 xs/vl 4294967296 ys)) (dg 4294967296 (vl 4294967296 xs%vl 4294967296 ys)) 0 w):=by
  have hge:¬fS (vl 4294967296 (trim xs)) (vl 4294967296 (trim ys))<0:=by
    rw[cA,cA]
    rcases Nat.lt_or_ge (vl 4294967296 ys) (vl 4294967296 xs)with h | h
    · rw[jD h];omega
    rw[sW (by omega)];omega
  have htl:=bV xs
  have hty:=bV ys
  rw[ha.len]at htl
  rw[hb.len]at hty
  obtain⟨la,hla⟩:∃la,(trim xs).length=la:=⟨_,rfl⟩
  obtain⟨lb,hlb⟩:∃lb,(trim ys).length=lb:=⟨_,rfl⟩
  rw[hla]at htl
  rw[hlb]at hty h2
  have hlast:nth (trim ys) (lb-1)≠0:=by
    have h:=kE (kD ys) (by intro e;rw[e]at hlb;simp at hlb;omega)
    rw[List.getLast_eq_getElem]at h
    rw[aY (by omega)]
    simpa[hlb]using h
  have hlim:=hb.lim.trim.nth (by omega) (lb-1)
  obtain⟨up,u1,u2,u3,hlz⟩:∃up:Nat,up<32∧2147483648≤nth (trim ys) (lb-1)*2^up∧nth (trim ys) (lb-1)*2^up<4294967296∧
      ∀w:World,Calls Tryz.prog 94 #[.int .u32 (nth (trim ys) (lb-1):Int)] w fun e w'=>e=.returned (.int .i64 (up:Int))∧w=w':=by
    obtain⟨k,e,k1,k2,k3⟩:=uA hlim hlast
    refine⟨k,k1,k2,k3,fun w=>(Any.bits_LeadingZeros32 Ec _ w (by omega) (by omega)).mono fun _ _ ⟨h1,h2⟩=>⟨?_,h2.symm⟩⟩
    rw[h1,←e]
    rfl
  obtain⟨n1,n2,n3,n4⟩:=Ed hb.lim.trim hlb h2 u1 u2 u3
  rw[cA]at n1 n2 n3 n4
  have hX:vl 4294967296 (trim xs)=vl 4294967296 xs:=cA _ _
  have hY:vl 4294967296 (trim ys)=vl 4294967296 ys:=cA _ _
  generalize vl 4294967296 xs=X at*
  generalize vl 4294967296 ys=Y at*
  have hx0:X≠0:=by omega
  have hlaX:lb≤(dg 4294967296 (X*2^up)).length:=by
    rw[←n1];exact cU (by omega) (Nat.mul_le_mul_right _ hle)
  have hlaX2:(dg 4294967296 (X*2^up)).length≤la+1:=by
    apply aF (by omega)
    rw[Nat.pow_succ]
    have h1:=dQ ha.lim.trim
    rw[hX,hla]at h1
    exact Nat.mul_lt_mul_of_lt_of_lt h1 (Nat.lt_of_lt_of_le (Nat.pow_lt_pow_right (by omega) u1) (by decide))
  obtain⟨lx,hlx⟩:∃lx,(dg 4294967296 (X*2^up)).length=lx:=⟨_,rfl⟩
  rw[hlx]at hlaX hlaX2
  have HLA:=Lib.hid hla
  have HLB:=Lib.hid hlb
  have HLX:=Lib.hid hlx
  have HN1:=Lib.hid n1
  have HX:=Lib.hid hX
  have HY:=Lib.hid hY
  have hq0:((lb:Int)==0)=false:=by rw[beq_eq_false_iff_ne];omega
  have hq1:((lb:Int)==1)=false:=by rw[beq_eq_false_iff_ne];omega
  clear hla hlb hlx n1 hX hY
  go_enter Tryz.func45,Tryz.ntmps45
  go_wp2_with fail
  refine(cO _ _ _ xs _ ha (by omega)).mono ?_
  rintro e w1 ⟨A1,k1,c1,rfl,h1,hb1⟩
  obtain rfl:k1=la:=by rw[←h1.len,HLA.out]
  go_wp2_with fail
  refine(cO _ _ _ ys _ (hb.now hb1) (by omega)).mono ?_
  rintro e w2 ⟨A2,k2,c2,rfl,h2',hb2⟩
  obtain rfl:k2=lb:=by rw[←h2'.len,HLB.out]
  have h3:=h1.below hb2
  have hb3:=hb1.trans (hb2.mono hb1.size)
  clear hb1 hb2 h1
  obtain⟨g,rfl,hg1,hg2⟩:=h2'.form (by omega)
  have hc:=h2'.cell (j:=k2-1) (by omega)
  go_wp2_with fail
  refine(mO _ _ _ _ _ _ _ _ _ _ h3.u32 h2'.u32).mono ?_
  rintro e w' ⟨rfl,q,rfl⟩
  go_wp2_with fail
  refine(hlz _).mono ?_
  rintro e w' ⟨rfl,rfl⟩
  go_wp2_with fail
  refine(iT _ _ _ _ _ _ (w2.drewN q) h2'.drew_base.u32 HY.out (by omega) u1 (by omega)).mono ?_
  rintro e w3 ⟨A3,k3,c3,rfl,h4,hb4⟩
  obtain rfl:k3=k2:=by rw[←h4.len,HN1.out]
  have h5:=h3.drew_base.below hb4
  have hb5:Below w.heap.size w w3:=(eF hb3 q).trans (hb4.mono hb3.size)
  clear hb4 h3 h2' hc hb3
  go_wp2_with fail
  refine(iT _ _ _ _ _ _ _ h5.u32 HX.out (by omega) u1 hx0).mono ?_
  rintro e w4 ⟨A4,k4,c4,rfl,h6,hb6⟩
  obtain rfl:k4=lx:=by rw[←h6.len,HLX.out]
  have hb7:=hb5.trans (hb6.mono hb5.size)
  have hz6:=hb6.size
  obtain⟨Q,hQ⟩:∃Q,Q+k3=k4+1:=⟨k4+1-k3,by omega⟩
  have hQ1:1≤Q:=by omega
  have hQ2:Q≤k4+1:=by omega
  have hQ3:(Q:Int)=(k4:Int)+1-k3:=by omega
  have HQ:=Lib.hid hQ
  have HQ3:=Lib.hid hQ3
  clear hQ hQ3
  have h7:=(h6.below (fH w4 (.cells #[.int .u32 ((0:Nat):Int)] 22))).row
  go_wp2_with (first
    | (at_builtin
       refine iV _ jU rfl (.tmp 63) (.tmp 64) rfl w3.heap.size _ k4 _ rfl h7 _ _ 1 1 _ rfl (Ns w4 0) (oJ _) (by omega) (by omega) (by simp;omega) ?_
       intro A5 c5 w5 hO5 hg5 hat5)
    | (refine iH _ jU rfl (.tmp 69) (.tmp 69) rfl .i64 .i64 _ _ Q rfl rfl HQ3.out.symm HQ3.out.symm (by omega) (by omega) ?_
       intro w6 hO6 hb66 hz66))
  have oA:Own 22 w5 w3.heap.size A5 (k4+1) c5 (dg 4294967296 (X*2^up)++[0]):=⟨by rw[qG];exact hO5,(bE (by omega) _).append (Lim.cons (by omega) Lim.nil)⟩
  have bA:Below w3.heap.size w3 w5:=kI (hb6.alloc hb6.size _) h7 hg5 (by simp;omega) (Nat.le_refl _)
  have bW:Below w.heap.size w w5:=hb5.trans (bA.mono hb5.size)
  obtain⟨ga,rfl,hga1,hga2⟩:=oA.form (by omega)
  have uB:=((h4.u32.below bA).more hga1).below (hb66.mono (Nat.le_of_lt hga2))
  have oA6:=oA.below hb66
  have oQ:=Own.made hO6
  have bW6:=bW.trans (hb66.mono bW.size)
  have hz5:=bW.size
  have hz3:=hb5.size
  obtain⟨gb,rfl,_,_⟩:=h4.form (by omega)
  have D0:=DMInv.top (a:=dg 4294967296 (X*2^up)) (ys:=dg 4294967296 (Y*2^up)) (Q:=Q) (bE (by omega) _) (by rw[HN1.out,HLX.out];exact HQ.out) (by rw[HN1.out];omega) (by rw[HN1.out,bL (by omega)];exact n4)
  have hN:=oA6.len
  have HN:=Lib.hid hN
  have hcA:k4+1≤c5:=oA6.u32.cap
  have hcB:c5≤9223372036854775807:=oA6.u32.big
  clear hN h7 hO5 hg5 hat5 hO6 oA bA bW hb6 hb7 h4 h5 h6 hb66 hlz
  obtain⟨mm,hmm⟩:∃mm,k3=mm+2:=⟨k3-2,by omega⟩
  have HMM:=Lib.hid hmm
  clear hmm
  go_loopw [12] (fun i wr=>∃(k:Nat) (os qs:List Nat),k≤Q∧i=.int .i64 ((k:Int)-1)∧Own 22 wr w3.heap.size (some ⟨ga,0,none⟩) (k4+1) c5 os∧Own 22 wr w5.heap.size (some ⟨w5.heap.size,0,none⟩) Q Q qs∧
      DMInv (dg 4294967296 (X*2^up)++[0]) os qs (dg 4294967296 (Y*2^up)) k∧Below ga w6 wr) (fun i _=>(intOf i+1).toNat)
  case atStart=>exact⟨Q,_,_,Nat.le_refl _,by go_num,oA6,oQ,D0,Below.refl _ _⟩
  case round=>
    obtain⟨k,os,qs,hk,rfl,hoA,hoQ,hD,hbB⟩:=hrel
    by_cases h0:0<k
    · obtain⟨i,rfl⟩:∃i,k=i+1:=⟨k-1,by omega⟩
      rw[show((i+1:Nat):Int)-1=(i:Int) from by omega]
      have hQ:=HQ.out
      have hbnd:i+k3+1≤k4+1:=by omega
      clear hQ
      have ca1:=hoA.cell (j:=i+k3) (by omega)
      have ca2:=hoA.cell (j:=i+k3-1) (by omega)
      have ca3:=hoA.cell (j:=i+k3-2) (by omega)
      have uB1:=uB.below hbB
      have cb1:=uB1.cell0 (j:=k3-1) (by omega)
      have cb2:=uB1.cell0 (j:=k3-2) (by omega)
      have hw:=hD.window (by rw[hoA.len];omega) (bE (by omega) _) hoA.lim
      have hgu:=wU (u:=(os.drop i).take (k3+1)) (ys:=dg 4294967296 (Y*2^up)) (m:=mm) ((hoA.lim.drop i).take _) (by rw[List.length_take,List.length_drop,hoA.len,HMM.out];have:=HMM.out;omega) (bE (by omega) _)
        (by rw[HN1.out,HMM.out]) (by rw[show mm+1=k3-1 by rw[HMM.out];omega];exact n2) (by rw[←HN1.out,hw.1];exact hw.2.2.1)
      have ne:∀j,j≤k3→nth ((os.drop i).take (k3+1)) j=nth os (i+j):=fun j hj=>by
        rw[←dP];exact lQ (i:=k3+1) (by rw[List.take_take,Nat.min_self]) (by omega)
      have e0:mm+2=k3:=HMM.out.symm
      rw[ne (mm+2) (by omega),ne (mm+1) (by omega),ne mm (by omega),show mm+2=k3 from e0,show i+(mm+1)=i+k3-1 by omega,show i+mm=i+k3-2 by omega,show mm+1=k3-1 by omega,show mm=k3-2 by omega]at hgu
      obtain⟨hg1',hg2',hg3'⟩:=hgu
      clear e0 ne
      have lA:=hoA.lim
      have la1:=lA.nth (by omega) (i+k3-1)
      have la2:=lA.nth (by omega) (i+k3-2)
      have lb1:=(bE (B:=4294967296) (by omega) (Y*2^up)).nth (by omega) (k3-1)
      have lb2:=(bE (B:=4294967296) (by omega) (Y*2^up)).nth (by omega) (k3-2)
      have t0:(0:Int)≤(i:Int)+(k3:Int):=by omega
      have t1:(0:Int)≤(i:Int)+(k3:Int)-1:=by omega
      have t2:(0:Int)≤(i:Int)+(k3:Int)-2:=by omega
      have t3:(0:Int)≤(k3:Int)-1:=by omega
      have t4:(0:Int)≤(k3:Int)-2:=by omega
      have v0:(i:Int)+(k3:Int)<(k4:Int)+1:=by omega
      have v1:(i:Int)+(k3:Int)-1<(k4:Int)+1:=by omega
      have v2:(i:Int)+(k3:Int)-2<(k4:Int)+1:=by omega
      have v3:(k3:Int)-1<(k3:Int):=by omega
      have v4:(k3:Int)-2<(k3:Int):=by omega
      have s0:IntKind.i64.wrap ((i:Int)+(k3:Int))=(i:Int)+(k3:Int):=IntWalk.i64_in _ (by omega)
      have s1:IntKind.i64.wrap ((i:Int)+(k3:Int)-1)=(i:Int)+(k3:Int)-1:=IntWalk.i64_in _ (by omega)
      have s2:IntKind.i64.wrap ((i:Int)+(k3:Int)-2)=(i:Int)+(k3:Int)-2:=IntWalk.i64_in _ (by omega)
      have s3:IntKind.i64.wrap ((k3:Int)-1)=(k3:Int)-1:=IntWalk.i64_in _ (by omega)
      have s4:IntKind.i64.wrap ((k3:Int)-2)=(k3:Int)-2:=IntWalk.i64_in _ (by omega)
      have r0:((i:Int)+(k3:Int)).toNat=i+k3:=by omega
      have r1:((i:Int)+(k3:Int)-1).toNat=i+k3-1:=by omega
      have r2:((i:Int)+(k3:Int)-2).toNat=i+k3-2:=by omega
      have r3:((k3:Int)-1).toNat=k3-1:=by omega
      have r4:((k3:Int)-2).toNat=k3-2:=by omega
      go_wp2_with fail
      go_quiet ((go_at_call 96;exact Js (Dz _ _ _ _ _ _ n2 lb1 hg1' la1 la2 lb2)))
      clear t0 t1 t2 t3 t4 v0 v1 v2 v3 v4 s0 s1 s2 s3 s4 r0 r1 r2 r3 r4 ca1 ca2 ca3 cb1 cb2
      go_wp2_with fail
      rw[show i+k3+1-i=k3+1 by omega]
      have oAn:Own 22 (wr.drewN nq) w3.heap.size (some ⟨ga,0,none⟩) (k4+1) c5 os:=hoA.drew_base
      have hYv:0<vl 4294967296 (dg 4294967296 (Y*2^up)):=by
        rw[bL (by omega)];exact Nat.mul_pos n3 (Nat.pos_of_ne_zero (by simp))
      refine(Gm ga i (k4+1) k3 c5 c3 (c5-i) _ _ os (dg 4294967296 (Y*2^up)) (k3+1) w3.heap.size (wr.drewN nq) oAn (by omega) (by omega) (uB1.below (eF (Below.refl _ _) _)) (by omega) (Nat.min_le_left _ _) hYv hg2' hg3').mono ?_
      rintro e w7 ⟨os',rfl,oA7,ht7,hh7,hv7,gr7⟩
      have hgq:w5.heap.size≠ga:=by omega
      have oQ7:=(hoQ.drew_base (k:=nq)).only gr7 hgq
      have oA8:=oA7.len
      have hst:=hD.step (i:=i) (os':=os') (by rw[hoA.len];omega) (by rw[hoQ.len];omega) (bE (by omega) _) hoA.lim hYv (by rw[oA8,hoA.len]) ht7 (fun j hj=>hh7 j (by rw[HN1.out]at hj;omega))
        (by rw[HN1.out];exact hv7) (by rw[HN1.out,hoA.len];omega)
      rw[HN1.out]at hst
      have hqv:vl 4294967296 ((os.drop i).take (k3+1))/vl 4294967296 (dg 4294967296 (Y*2^up))<4294967296:=
        Nat.lt_of_le_of_lt hg2' (Nat.lt_of_le_of_lt (Nat.min_le_left _ _) (by omega))
      have cq1:=oQ7.cell (j:=i) (by omega)
      have cq2:=oQ7.frozen i
      have oQ8:=oQ7.set i hqv
      have oA9:=oA7.only (g':=w5.heap.size) (jH (tG w7 w5.heap.size) i (.int .u32 ((vl 4294967296 ((os.drop i).take (k3+1))/vl 4294967296 (dg 4294967296 (Y*2^up)):Nat):Int))) (Ne.symm hgq)
      have bb9:Below ga w6 w7:=(eF hbB nq).trans (lV gr7 (by have:=hbB.size;show ga≤wr.heap.size;omega))
      generalize vl 4294967296 ((os.drop i).take (k3+1))/vl 4294967296 (dg 4294967296 (Y*2^up))=qd at*
      clear oA8 hh7 ht7 hv7 hw hg2' hg3' hD
      go_wp2_with fail
      go_roundw
      case rel=>exact⟨i,os',_,by omega,by go_num,oA9,oQ8,hst,bb9.setCell (by show ga≤w5.heap.size;omega) _⟩
      case measure=>simp[intOf]
    obtain rfl:k=0:=by omega
    have hYv:0<vl 4294967296 (dg 4294967296 (Y*2^up)):=by
      rw[bL (by omega)];exact Nat.mul_pos n3 (Nat.pos_of_ne_zero (by simp))
    obtain⟨f1,f2⟩:=hD.end_ hYv
    have hPp:0<2^up:=Nat.pos_of_ne_zero (by simp)
    rw[fA,Nat.mul_zero,Nat.add_zero,bL (by omega),bL (by omega),Nat.mul_div_mul_right _ _ hPp]at f1
    rw[fA,Nat.mul_zero,Nat.add_zero,bL (by omega),bL (by omega),Nat.mul_mod_mul_right]at f2
    have F1:=Lib.hid f1
    have F2:=Lib.hid f2
    have bWr:Below w.heap.size w wr:=bW6.trans (hbB.mono (by omega))
    clear f1 f2 hD
    go_wp2_with fail
    refine(rA _ _ _ _ _ _ _ hoA.u32 F2.out (by omega) u1).mono ?_
    rintro e w8 ⟨A8,n8,c8,rfl,h8,hb8⟩
    have hoQ8:=hoQ.below hb8
    have bW8:=bWr.trans (hb8.mono bWr.size)
    go_wp2_with fail
    refine(cO _ _ _ _ _ hoQ8.u32 (by omega)).mono ?_
    rintro e w9 ⟨A9,n9,c9,rfl,h9,hb9⟩
    have bW9:=bW8.trans (hb9.mono bW8.size)
    go_wp2_with fail
    go_ret3
    refine⟨_,_,_,_,_,_,rfl,?_,(h8.below hb9).base_le bWr.size,(Apart.of h8 h9 (Nat.le_refl _)).symm,bW9⟩
    have:=h9.base_le (base':=w.heap.size) bW8.size
    rwa[←dR (by omega) hoQ.lim,F1.out]at this
theorem Bn (A B:Option Addr) (n m c d:Nat) (xs ys:List Nat) (w:World) (ha:U32 w w.heap.size A n c xs) (hb:U32 w w.heap.size B m d ys) (hn:n≤549755813888) (hm:m≤549755813888) (hy:vl 4294967296 ys≠0):
  Calls Tryz.prog 45 #[.slice A n c,.slice B m d] w (qY (dg 4294967296 (vl 4294967296 xs/vl 4294967296 ys)) (dg 4294967296 (vl 4294967296 xs%vl 4294967296 ys)) 0 w):=by
 rcases Nat.lt_or_ge (vl 4294967296 xs) (vl 4294967296 ys)with h | h
 ·exact uK A B n m c d xs ys w ha hb hn hm h
 match ht:trim ys with
 | []=>exact absurd ((dE 4294967296 (by omega) ys).1 ht) hy
 | [y]=>exact sY A B n m c d y xs ys w ha hb hn hm h ht
 | y::z::l=>exact rB A B n m c d xs ys w ha hb hn hm h (by rw[ht];simp)
structure URows (w:World) (B:Nat) (A:Option Addr) (n c:Nat) (rows:List (List Nat)):Prop where
 len:rows.length=n
 cap:n≤c
 big:c≤9223372036854775807
 cell:∀k,k<n→∃b o sp Ai ni ci,A=some ⟨b,o,sp⟩∧b<B∧w.cell? ((⟨b,o,sp⟩:Addr).add k)=some (.slice Ai ni ci)∧U32 w B Ai ni ci (rows.getD k [])
theorem URows.below {w w':World}{B n c:Nat}{A:Option Addr}{rows:List (List Nat)}(h:URows w B A n c rows) (hb:Below B w w'):URows w' B A n c rows:=
 ⟨h.len,h.cap,h.big,fun k hk=>by
  obtain⟨b,o,sp,Ai,ni,ci,e,hB,hc,hu⟩:=h.cell k hk
  exact⟨b,o,sp,Ai,ni,ci,e,hB,(hb.cell (by rw[eP];exact hB)).trans hc,hu.below hb⟩⟩
theorem URows.now {w w':World}{n c:Nat}{A:Option Addr}{rows:List (List Nat)}(h:URows w w.heap.size A n c rows) (hb:Below w.heap.size w w'):URows w' w'.heap.size A n c rows:=by
 have h1:=h.below hb
 refine⟨h1.len,h1.cap,h1.big,fun k hk=>?_⟩
 obtain⟨b,o,sp,Ai,ni,ci,e,hB,hc,hu⟩:=h1.cell k hk
 exact⟨b,o,sp,Ai,ni,ci,e,Nat.lt_of_lt_of_le hB hb.size,hc,hu.more hb.size⟩
def wV (neg:Bool) (m:Nat):Int:=if neg then-(m:Int)else m
def pJ (z:Int):Bool:=decide (z<0)
def eN (neg:Bool) (xs:List Nat):Bool:=(xs.isEmpty&& !neg)||(!xs.isEmpty&&nth xs (xs.length-1)!= 0)
def iL (neg:Bool) (xs:List Nat):Int:=if eN neg xs then wV neg (vl 4294967296 xs)else 0
theorem zJ (neg:Bool) (m:Nat):(wV neg m).natAbs=m:=by unfold wV;split <;> omega
theorem Nt (neg:Bool) (m:Nat):pJ (wV neg m)=(neg&&decide (0<m)):=by
 unfold wV pJ
 cases neg <;> simp
theorem Gn (z:Int):wV (pJ z) z.natAbs=z:=by
 unfold wV pJ
 by_cases h:z<0 <;> simp[h] <;> omega
theorem Jt {m n:Nat}(h:(dg 4294967296 m).length=n):decide (0<n)=decide (0<m):=by
 rcases Nat.eq_zero_or_pos n with h0 | h0
 ·subst h0
  have:=(bX (by omega)).1 (List.eq_nil_of_length_eq_zero h)
  subst this
  rfl
 rcases Nat.eq_zero_or_pos m with h1 | h1
 ·subst h1
  rw[(bX (B:=4294967296) (by omega)).2 rfl]at h
  simp at h
  omega
 simp[h0,h1]
theorem Bo {neg:Bool}{xs:List Nat}(h:eN neg xs=true):trim xs=xs:=by
 rcases xs with _ | ⟨x,l⟩
 ·rfl
 have h1:nth (x::l) ((x::l).length-1)≠0:=by simpa[eN]using h
 have h2:=kH (xs:=x::l) (k:=(x::l).length) (by simp) (Nat.le_refl _) h1
 rwa[List.take_of_length_le (Nat.le_refl _)]at h2
theorem sZ {neg:Bool}{xs:List Nat}(hl:Lim 4294967296 xs) (h:eN neg xs=true):dg 4294967296 (iL neg xs).natAbs=xs:=by
 unfold iL
 rw[if_pos h,zJ,dR (by omega) hl,Bo h]
theorem Ju {neg:Bool}{xs:List Nat}(hl:Lim 4294967296 xs) (h:eN neg xs=true):pJ (iL neg xs)=neg:=by
 have h1:=sZ hl h
 unfold iL at h1⊢
 rw[if_pos h]at h1⊢
 rw[zJ]at h1
 rw[Nt]
 rcases xs with _ | ⟨x,l⟩
 ·have:neg=false:=by simpa[eN]using h
  subst this
  rfl
 have h2:=Jt (m:=vl 4294967296 (x::l)) (n:=(x::l).length) (by rw[h1])
 rw[←h2]
 simp
theorem Ee {neg:Bool}{xs:List Nat}(h:eN neg xs=false):iL neg xs=0:=by unfold iL;rw[h];rfl
theorem Ef (z:Int):eN (pJ z) (dg 4294967296 z.natAbs)=true:=by
 unfold eN
 by_cases h0:z=0
 ·subst h0
  rw[show dg 4294967296 (Int.natAbs 0)=[] from(bX (by omega)).2 rfl]
  rfl
 have hn:dg 4294967296 z.natAbs≠[]:=fun e=>h0 (by have:=(bX (by omega)).1 e;omega)
 have h:=kE (xX (B:=4294967296) (by omega) _) hn
 rw[List.getLast_eq_getElem]at h
 have h2:=List.length_pos_iff.2 hn
 have:(dg 4294967296 z.natAbs).isEmpty=false:=by simpa using hn
 rw[this,aY (by omega)]
 simpa using h
theorem Eg (z:Int):iL (pJ z) (dg 4294967296 z.natAbs)=z:=by
 unfold iL
 rw[if_pos (Ef z),bL (by omega),Gn]
abbrev Hld (s:Nat) (w:World) (B g k:Nat) (W0 w':World):Prop:=
 Below s w w'∧g<w'.heap.size∧B≤w'.heap.size∧s≤g∧s≤B∧(∀b o,b<B→b≠g→w'.cell? ⟨b,o,none⟩=W0.cell? ⟨b,o,none⟩)∧(∀o,o<k→(w'.cell? ⟨g,o,none⟩).isSome=true∧w'.frozen? ⟨g,o,none⟩=false)
theorem Hld.call {s B g k:Nat}{w W0 W w1:World}(h:Hld s w B g k W0 W) (hb:Below W.heap.size W w1):Hld s w B g k W0 w1:=by
 obtain⟨h1,h2,h2',h3,h4,h5,h6⟩:=h
 refine⟨h1.trans (hb.mono (by omega)),Nat.lt_of_lt_of_le h2 hb.size,Nat.le_trans h2' hb.size,h3,h4,fun b o hlt hne=>?_,fun o ho=>?_⟩
 ·rw[hb.cell (p:=⟨b,o,none⟩) (show b<W.heap.size by omega)]
  exact h5 b o hlt hne
 rw[hb.cell (p:=⟨g,o,none⟩) h2,hb.frozen (p:=⟨g,o,none⟩) h2]
 exact h6 o ho
theorem Hld.alloc {s B g k:Nat}{w W0 W:World}(h:Hld s w B g k W0 W) (o:Obj):Hld s w B g k W0 (W.alloc o):=Hld.call h (fH W o)
theorem Hld.drew {s B g k:Nat}{w W0 W:World}(h:Hld s w B g k W0 W):Hld s w B g k W0 W.drew:=⟨h.1.drew,h.2⟩
theorem hH (w:World) (a b:Addr) (v:Value):(w.setCell a v).frozen? b=w.frozen? b:=by
 simp
theorem Hld.setCell {s B g k:Nat}{w W0 W:World}(h:Hld s w B g k W0 W){p:Addr}(hp:p.block=g∨B≤p.block) (v:Value):Hld s w B g k W0 (W.setCell p v):=by
 obtain⟨h1,h2,h2',h3,h4,h5,h6⟩:=h
 refine⟨h1.setCell (by omega) v,by simpa using h2,by simpa using h2',h3,h4,fun b o hlt hne=>?_,fun o ho=>⟨?_,?_⟩⟩
 ·rw[World.cell?_setCell_far _ _ _ _ (by show p.block≠b;omega)]
  exact h5 b o hlt hne
 ·obtain⟨v',hv'⟩:=Option.isSome_iff_exists.1 (h6 o ho).1
  obtain⟨v'',hv''⟩:=cell?_setCell_some (p:=p) (x:=v) hv'
  rw[hv''];rfl
 rw[hH];exact(h6 o ho).2
theorem Hld.from {P:Program}{f:FuncId}{args:Array Value}{s B g k:Nat}{w W0 W:World}{R:Ending→World→Prop}(hS:Hld s w B g k W0 W) (h:Hld s w B g k W0 W→Calls P f args W R):Calls P f args W R:=h hS
theorem Hld.bel {s B g k:Nat}{w W0 W:World}(h:Hld s w B g k W0 W):Below s w W:=h.1
theorem Hld.res {s B g k:Nat}{w W0 W:World}(h:Hld s w B g k W0 W) (o:Nat) (ho:o<k):∃v,W.cell? ⟨g,o,none⟩=some v:=Option.isSome_iff_exists.1 (h.2.2.2.2.2.2 o ho).1
theorem Hld.base {s B g k:Nat}{w W0 W:World}(h:Hld s w B g k W0 W):g+1≤W.heap.size:=h.2.1
theorem Own.setLow {t:TypeId}{w:World}{base n c:Nat}{A:Option Addr}{xs:List Nat}(h:Own t w base A n c xs){p:Addr}(hp:p.block<base) (v:Value):Own t (w.setCell p v) base A n c xs:=
 ⟨ownsRow_setCell_below h.row hp v,h.lim⟩
theorem Own.over {t:TypeId}{w w':World}{base n c:Nat}{A:Option Addr}{xs:List Nat}(h:Own t w base A n c xs) (hb:Below w.heap.size w w'):Own t w' base A n c xs:=h.below hb
theorem URows.two {w:World}{g n m c d:Nat}{A B:Option Addr}{xs ys:List Nat}(h0:w.cell? ⟨g,0,none⟩=some (.slice A n c)) (h1:w.cell? ⟨g,1,none⟩=some (.slice B m d)) (hg:g<w.heap.size)
  (ha:U32 w w.heap.size A n c xs) (hb:U32 w w.heap.size B m d ys):URows w w.heap.size (some ⟨g,0,none⟩) 2 2 [xs,ys]:=by
 refine⟨rfl,Nat.le_refl _,by omega,fun k hk=>?_⟩
 match k,hk with
 | 0,_=>exact⟨g,0,none,A,n,c,rfl,hg,h0,ha⟩
 | 1,_=>exact⟨g,0,none,B,m,d,rfl,hg,h1,hb⟩
abbrev Hld2 (s:Nat) (w:World) (B g g' k:Nat) (W0 w':World):Prop:=
 Below s w w'∧(g<w'.heap.size∧g'<w'.heap.size∧s≤g')∧B≤w'.heap.size∧s≤g∧s≤B∧(∀b o,b<B→b≠g→b≠g'→w'.cell? ⟨b,o,none⟩=W0.cell? ⟨b,o,none⟩)∧(∀o,o<k→(w'.cell? ⟨g,o,none⟩).isSome=true∧w'.frozen? ⟨g,o,none⟩=false)∧
  (∀o,o<k→(w'.cell? ⟨g',o,none⟩).isSome=true∧w'.frozen? ⟨g',o,none⟩=false)
theorem Hld2.call {s B g g' k:Nat}{w W0 W w1:World}(h:Hld2 s w B g g' k W0 W) (hb:Below W.heap.size W w1):Hld2 s w B g g' k W0 w1:=by
 obtain⟨h1,⟨h2,h2'',h2b⟩,h2',h3,h4,h5,h6,h7⟩:=h
 refine⟨h1.trans (hb.mono (by omega)),⟨Nat.lt_of_lt_of_le h2 hb.size,Nat.lt_of_lt_of_le h2'' hb.size,h2b⟩,Nat.le_trans h2' hb.size,h3,h4,fun b o hlt hne hne'=>?_,fun o ho=>?_,fun o ho=>?_⟩
 ·rw[hb.cell (p:=⟨b,o,none⟩) (show b<W.heap.size by omega)]
  exact h5 b o hlt hne hne'
 ·rw[hb.cell (p:=⟨g,o,none⟩) h2,hb.frozen (p:=⟨g,o,none⟩) h2]
  exact h6 o ho
 rw[hb.cell (p:=⟨g',o,none⟩) h2'',hb.frozen (p:=⟨g',o,none⟩) h2'']
 exact h7 o ho
theorem Hld2.alloc {s B g g' k:Nat}{w W0 W:World}(h:Hld2 s w B g g' k W0 W) (o:Obj):Hld2 s w B g g' k W0 (W.alloc o):=Hld2.call h (fH W o)
theorem Hld2.drew {s B g g' k:Nat}{w W0 W:World}(h:Hld2 s w B g g' k W0 W):Hld2 s w B g g' k W0 W.drew:=⟨h.1.drew,h.2⟩
theorem Hld2.setCell {s B g g' k:Nat}{w W0 W:World}(h:Hld2 s w B g g' k W0 W){p:Addr}(hp:p.block=g∨p.block=g'∨B≤p.block) (v:Value):Hld2 s w B g g' k W0 (W.setCell p v):=by
 obtain⟨h1,⟨h2,h2'',h2b⟩,h2',h3,h4,h5,h6,h7⟩:=h
 refine⟨h1.setCell (by omega) v,⟨by simpa using h2,by simpa using h2'',h2b⟩,by simpa using h2',h3,h4,fun b o hlt hne hne'=>?_,fun o ho=>⟨?_,?_⟩,fun o ho=>⟨?_,?_⟩⟩
 ·rw[World.cell?_setCell_far _ _ _ _ (by show p.block≠b;omega)]
  exact h5 b o hlt hne hne'
 ·obtain⟨v',hv'⟩:=Option.isSome_iff_exists.1 (h6 o ho).1
  obtain⟨v'',hv''⟩:=cell?_setCell_some (p:=p) (x:=v) hv'
  rw[hv''];rfl
 ·rw[hH];exact(h6 o ho).2
 ·obtain⟨v',hv'⟩:=Option.isSome_iff_exists.1 (h7 o ho).1
  obtain⟨v'',hv''⟩:=cell?_setCell_some (p:=p) (x:=v) hv'
  rw[hv''];rfl
 rw[hH];exact(h7 o ho).2
theorem Hld2.from {P:Program}{f:FuncId}{args:Array Value}{s B g g' k:Nat}{w W0 W:World}{R:Ending→World→Prop}(hS:Hld2 s w B g g' k W0 W) (h:Hld2 s w B g g' k W0 W→Calls P f args W R):Calls P f args W R:=h hS
theorem Hld2.bel {s B g g' k:Nat}{w W0 W:World}(h:Hld2 s w B g g' k W0 W):Below s w W:=h.1
theorem Hld2.res {s B g g' k:Nat}{w W0 W:World}(h:Hld2 s w B g g' k W0 W) (o:Nat) (ho:o<k):∃v,W.cell? ⟨g,o,none⟩=some v:=Option.isSome_iff_exists.1 (h.2.2.2.2.2.2.1 o ho).1
theorem Hld2.base {s B g g' k:Nat}{w W0 W:World}(h:Hld2 s w B g g' k W0 W):g+1≤W.heap.size:=h.2.1.1
theorem Hld2.base' {s B g g' k:Nat}{w W0 W:World}(h:Hld2 s w B g g' k W0 W):g'+1≤W.heap.size:=h.2.1.2.1
abbrev Hld0 (s:Nat) (w:World) (B:Nat) (W0 w':World):Prop:=
 Below s w w'∧B≤w'.heap.size∧s≤B∧(∀b o,b<B→w'.cell? ⟨b,o,none⟩=W0.cell? ⟨b,o,none⟩)
theorem Hld0.call {s B:Nat}{w W0 W w1:World}(h:Hld0 s w B W0 W) (hb:Below W.heap.size W w1):Hld0 s w B W0 w1:=by
 obtain⟨h1,h2,h4,h5⟩:=h
 refine⟨h1.trans (hb.mono (by omega)),Nat.le_trans h2 hb.size,h4,fun b o hlt=>?_⟩
 rw[hb.cell (p:=⟨b,o,none⟩) (show b<W.heap.size by omega)]
 exact h5 b o hlt
theorem Hld0.alloc {s B:Nat}{w W0 W:World}(h:Hld0 s w B W0 W) (o:Obj):Hld0 s w B W0 (W.alloc o):=Hld0.call h (fH W o)
theorem Hld0.drew {s B:Nat}{w W0 W:World}(h:Hld0 s w B W0 W):Hld0 s w B W0 W.drew:=⟨h.1.drew,h.2⟩
theorem Hld0.setCell {s B:Nat}{w W0 W:World}(h:Hld0 s w B W0 W){p:Addr}(hp:B≤p.block) (v:Value):Hld0 s w B W0 (W.setCell p v):=by
 obtain⟨h1,h2,h4,h5⟩:=h
 refine⟨h1.setCell (by omega) v,by simpa using h2,h4,fun b o hlt=>?_⟩
 rw[World.cell?_setCell_far _ _ _ _ (by show p.block≠b;omega)]
 exact h5 b o hlt
theorem Hld0.bel {s B:Nat}{w W0 W:World}(h:Hld0 s w B W0 W):Below s w W:=h.1
theorem Hld0.base {s B:Nat}{w W0 W:World}(h:Hld0 s w B W0 W):B≤W.heap.size:=h.2.1
theorem Hld0.from {P:Program}{f:FuncId}{args:Array Value}{s B:Nat}{w W0 W:World}{R:Ending→World→Prop}(hS:Hld0 s w B W0 W) (h:Hld0 s w B W0 W→Calls P f args W R):Calls P f args W R:=h hS
def Nu (na:Bool) (xs:List Nat) (nb:Bool) (ys:List Nat):Bool:=eN na xs&&eN nb ys&&decide (0<iL nb ys)&&(Int.gcd (iL na xs) (iL nb ys)==1)
theorem zK {xs:List Nat}(hl:Lim 4294967296 xs){neg:Bool}:(dg 4294967296 (iL neg xs).natAbs).length≤xs.length:=by
 cases h:eN neg xs
 ·rw[Ee h,show dg 4294967296 (Int.natAbs 0)=[] from(bX (by omega)).2 rfl]
  simp
 rw[sZ hl h]
 exact Nat.le_refl _
def Tu (na:Bool) (xs:List Nat) (nb:Bool) (ys:List Nat):Rat:=if Nu na xs nb ys then Rat.divInt (iL na xs) (iL nb ys)else 0
def Sz (L:Nat) (q:Rat):Prop:=(dg 4294967296 q.num.natAbs).length≤L∧(dg 4294967296 q.den).length≤L
def Src (b0 base:Nat) (w:World) (A:Option Addr) (n c:Nat) (xs:List Nat):Prop:=U32 w b0 A n c xs∨Own 22 w base A n c xs
theorem Src.below {b0 base n c:Nat}{w w':World}{A:Option Addr}{xs:List Nat}(h:Src b0 base w A n c xs) (h0:b0≤w.heap.size) (hb:Below w.heap.size w w'):Src b0 base w' A n c xs:=by
 rcases h with h | h
 ·exact .inl (h.below (hb.mono h0))
 exact .inr (h.below hb)
theorem Src.u32 {b0 base n c:Nat}{w:World}{A:Option Addr}{xs:List Nat}(h:Src b0 base w A n c xs) (h0:b0≤w.heap.size):U32 w w.heap.size A n c xs:=by
 rcases h with h | h
 ·exact h.more h0
 exact h.u32
theorem Src.setCell {b0 base n c:Nat}{w:World}{A:Option Addr}{xs:List Nat}(h:Src b0 base w A n c xs){p:Addr}(h0:b0≤p.block) (h1:p.block<base) (v:Value):Src b0 base (w.setCell p v) A n c xs:=by
 rcases h with h | h
 ·refine .inl (h.keep fun q hq=>World.cell?_setCell_far _ _ _ _ ?_)
  omega
 exact .inr (h.setLow h1 v)
theorem Src.drew {b0 base n c:Nat}{w:World}{A:Option Addr}{xs:List Nat}(h:Src b0 base w A n c xs):Src b0 base w.drew A n c xs:=by
 rcases h with h | h
 ·exact .inl ⟨⟨h.rd.len,h.rd.cap,h.rd.big,h.rd.cell⟩,h.lim⟩
 exact .inr ⟨h.row,h.lim⟩
theorem Src.base_le {b0 base base' n c:Nat}{w:World}{A:Option Addr}{xs:List Nat}(h:Src b0 base w A n c xs) (hb:base'≤base):Src b0 base' w A n c xs:=by
 rcases h with h | h
 ·exact .inl h
 exact .inr (h.base_le hb)
theorem Hld.up {s B g k:Nat}{w W0 W:World}(h:Hld s w B g k W0 W):B≤W.heap.size:=h.2.2.1
theorem dH (a b:Nat):(dg 4294967296 (a*b)).length≤(dg 4294967296 a).length+(dg 4294967296 b).length:=by
 refine aF (by omega) ?_
 rw[Nat.pow_add]
 exact Nat.mul_lt_mul_of_lt_of_lt (dW (by omega)) (dW (by omega))
structure Lv where
 A:Option Addr
 n:Nat
 c:Nat
structure Zv where
 s:Bool
 A:Option Addr
 n:Nat
 c:Nat
structure Rv where
 s:Bool
 A:Option Addr
 n:Nat
 c:Nat
 t:Bool
 B:Option Addr
 m:Nat
 d:Nat
def Rv.x (r:Rv):Zv:=⟨r.s,r.A,r.n,r.c⟩
def Rv.y (r:Rv):Zv:=⟨r.t,r.B,r.m,r.d⟩
def Lv.v (l:Lv):Value:=.slice l.A l.n l.c
def Zv.cs (z:Zv):List Value:=[.bool z.s,.slice z.A z.n z.c]
def Rv.cs (r:Rv):List Value:=[.bool r.s,.slice r.A r.n r.c,.bool r.t,.slice r.B r.m r.d]
structure LimR (W:World) (N:Nat→Prop) (A:Option Addr) (n c:Nat) (xs:List Nat):Prop where
 len:xs.length=n
 cap:n≤c
 big:c≤9223372036854775807
 lim:Lim 4294967296 xs
 cell:0<n→∃ad,A=some ad∧N ad.block∧∀k u,(cX xs)[k]? =some u→W.cell? (ad.add k)=some u
section
variable {W W':World}{N N':Nat→Prop}{A:Option Addr}{n c:Nat}{xs:List Nat}
theorem LimR.mono (h:LimR W N A n c xs) (hN:∀b,N b→N' b):LimR W N' A n c xs:=
 ⟨h.len,h.cap,h.big,h.lim,fun hn=>let ⟨ad,e,hb,hc⟩:=h.cell hn;⟨ad,e,hN _ hb,hc⟩⟩
theorem Bp {ad:Addr}(h:W'.heap[ad.block]? =W.heap[ad.block]?) (k:Nat):W'.cell? (ad.add k)=W.cell? (ad.add k):=World.cell?_of_block (w:=W) (by rw[eP];exact h)
theorem LimR.keep (h:LimR W N A n c xs) (hN:∀b,N b→W'.heap[b]? =W.heap[b]?):LimR W' N A n c xs:=
 ⟨h.len,h.cap,h.big,h.lim,fun hn=>let ⟨ad,e,hb,hc⟩:=h.cell hn;⟨ad,e,hb,fun k u hu=>(Bp (hN _ hb) k).trans (hc k u hu)⟩⟩
theorem LimR.u32 {B:Nat}(h:LimR W N A n c xs) (hN:∀b,N b→b<B):U32 W B A n c xs:=
 ⟨⟨by rw[eS,h.len,Nat.mul_one],h.cap,h.big,fun hn=>let ⟨ad,e,hb,hc⟩:=h.cell hn;⟨ad,e,hN _ hb,hc⟩⟩,h.lim⟩
theorem LimR.of_own {t base:Nat}(h:Own t W base A n c xs):LimR W (· ∈(Value.slice A n c).ownBlock.toList) A n c xs:=by
 have hu:=h.u32
 refine⟨hu.len,hu.cap,hu.big,hu.lim,fun hn=>?_⟩
 obtain⟨ad,e,_,hc⟩:=hu.rd.cell hn
 exact⟨ad,e,by subst e;simp[Value.ownBlock],hc⟩
theorem LimR.nil:LimR W N none 0 0 []:=⟨rfl,Nat.le_refl _,by omega,Lim.nil,fun h=>absurd h (by omega)⟩
end
theorem Own.keep {t:TypeId}{w w':World}{base n c:Nat}{A:Option Addr}{xs:List Nat}(h:Own t w base A n c xs) (hk:∀b∈(Value.slice A n c).ownBlock.toList,w'.heap[b]? =w.heap[b]?):Own t w' base A n c xs:=by
 refine⟨⟨h.row.1,?_⟩,h.lim⟩
 rcases h.row.2 with h2 | ⟨g,cap,cur,hv,hb,hh,rest⟩
 ·exact .inl h2
 exact .inr ⟨g,cap,cur,hv,hb,(hk g (by rw[hv];simp[Value.ownBlock])).trans hh,rest⟩
theorem Own.blk {t:TypeId}{w:World}{base n c:Nat}{A:Option Addr}{xs:List Nat}(h:Own t w base A n c xs):∀b∈(Value.slice A n c).ownBlock.toList,base≤b∧b<w.heap.size:=by
 intro b hb
 rcases h.row.2 with⟨h2,_⟩ | ⟨g,cap,cur,hv,hb',hh,rest⟩
 ·rw[h2]at hb
  simp[Value.ownBlock]at hb
 rw[hv]at hb
 simp[Value.ownBlock]at hb
 subst hb
 exact⟨hb',(Array.getElem?_eq_some_iff.1 hh).1⟩
section
variable {w:World}{r r':Rv}{p q:Rat}
end
section
variable {w:World}{z z':Zv}{k k':Int}
end
theorem Sz.mono {L M:Nat}{q:Rat}(h:Sz L q) (hL:L≤M):Sz M q:=⟨Nat.le_trans h.1 hL,Nat.le_trans h.2 hL⟩
def aB (xs:List Nat):List Tr:=xs.map fun(n:Nat)=>.v (.int .u32 (n:Int))
def sU (o:Bool) (xs:List Nat):Tr:=.s o 22 1 xs.length (aB xs)
theorem mP (xs:List Nat):(aB xs).length=xs.length:=by simp[aB]
theorem Nv (xs:List Nat):eL ((aB xs).map .t)=true:=by
 induction xs with
 | nil=>rfl
 | cons x xs ih=>simpa[aB,eL,jL]using ih
theorem Gp (xs:List Nat):cE ((aB xs).map .t)=true:=by
 induction xs with
 | nil=>rfl
 | cons x xs ih=>simpa[aB,cE,lone]using ih
theorem gF (xs:List Nat):NoFrL (aB xs):=by
 induction xs with
 | nil=>simp[aB,NoFrL]
 | cons x xs ih=>simpa[aB,NoFrL,mI]using ih
structure Fr4 where
 s:Bool
 x:List Nat
 t:Bool
 y:List Nat
namespace Fr4
def q (a:Fr4):Rat:=Tu a.s a.x a.t a.y
def of (q:Rat):Fr4:=⟨pJ q.num,dg 4294967296 q.num.natAbs,false,dg 4294967296 q.den⟩
def ok (a:Fr4):Prop:=Lim 4294967296 a.x∧Lim 4294967296 a.y∧a.x.length≤68719476736∧a.y.length≤68719476736
end Fr4
section
variable {W:World}{N:Nat→Prop}
theorem Jv {o:Bool}{xs:List Nat}{u:Value}(h:FR W N (sU o xs) u) (hl:Lim 4294967296 xs):∃A c,u=.slice A xs.length c∧LimR W N A xs.length c xs:=by
 simp only[sU,FR]at h
 obtain⟨A,c,rfl,h1,h2,h3,h4⟩:=h
 refine⟨A,c,rfl,rfl,h1,h2,hl,fun hn=>?_⟩
 rcases h4 with h4 | ⟨ad,rfl,h5,h6⟩
 ·omega
 refine⟨ad,rfl,h5,fun k u hk=>?_⟩
 simp only[cX,List.getElem?_map,Option.map_eq_some_iff]at hk
 obtain⟨m,hm,rfl⟩:=hk
 obtain⟨u,e1,e2⟩:=lD h6 (j:=k) (x:=.v (.int .u32 (m:Int))) (by simp[aB,hm])
 simp only[FR]at e2
 rw[Nat.zero_add]at e1
 rw[e1,e2]
theorem lR {t:TypeId}{base n c:Nat}{A:Option Addr}{xs:List Nat}(h:Own t W base A n c xs):∃y:VT,y.val=.slice A n c∧OR W N (.s true t 1 xs.length (aB xs)) y∧y.ok W∧y.fp=(Value.slice A n c).ownBlock.toList:=by
 have hl:=h.len
 rcases h.row.2 with⟨h2,h3⟩ | ⟨g,cap,cur,hv,_,hg,hnc,hcm,hcs,htake⟩
 ·injection h2 with e1 e2 e3
  subst e1 e3
  subst h3
  have:xs=[]:=List.eq_nil_of_length_eq_zero hl
  subst this
  exact⟨.w (.slice none 0 0),rfl,by simp[OR,aB],by simp[VT.ok],by simp[VT.fp,Value.ownBlock]⟩
 injection hv with e1 e2 e3
 subst e1 e3
 have hor:ORL W N (aB xs) ((cX xs).map VT.w):=by
  clear hl htake h
  induction xs with
  | nil=>simp[aB,cX,ORL]
  | cons x xs ih=>simpa[aB,cX,ORL,OR]using ih
 refine⟨.s g c t 1 n ((cX xs).map .w),rfl,?_,?_,by simp[VT.fp,gM,Value.ownBlock]⟩
 ·simp only[OR]
  exact⟨trivial,hl.symm,trivial,trivial,hor⟩
 simp only[VT.ok]
 refine⟨⟨cur.toList.drop (n*1),?_,?_⟩,hnc,hcm,by simp[eS,hl],mF _⟩
 ·rw[mG,←htake,List.take_append_drop]
  simpa using hg
 rw[mG,←htake,List.take_append_drop]
 simpa using hcs
end
section
variable {f:FuncId}{args:List FV}
theorem nZ {N:Nat→Prop}{w:World}{cs:List Co}{us:List Value}(hL:Loc ((aA (aT []) cs).flatMap Res.S) w w (aA (aT []) cs) [(Mf [] cs args us).on N]):cs=[]∧bM w (fun b=>b<w.heap.size∧N b) [] args us:=by
 have h:=Sh.off (hL.sh 0 rfl)
 have hc:cs=[]:=List.eq_nil_of_length_eq_zero (by have:=h.1.1;simpa[aT]using this.symm)
 subst hc
 exact⟨rfl,fY (fun _ _=>rfl) (fun b hb=>⟨hb.1.1,hb.2⟩) .refl _ _ h.2⟩
theorem Ended.mk0 {fresh:Bool}{N:Nat→Prop}{M:List Nat}{w W:World}{R:List Lt→FV→Prop}{v:Value}{r:FV}{y:List VT}(hR:R [] r) (hb:Below w.heap.size w W) (hok:VT.okL W y) (hnd:(VT.fpL y).Nodup) (hfp:∀b∈VT.fpL y,w.heap.size≤b∧b<W.heap.size)
  (hro:RO W (fun b=>fresh=false∧(b<W.heap.size∧b∉VT.fpL y)∧(N b∨w.heap.size≤b)) [] r v y):Ended fresh N M w [] [] R (.returned v) W:=by
 refine⟨v,[],[],r,y,rfl,hR,rfl,fun _ _ _ h=>by simp at h,rfl,.refl,?_⟩
 refine⟨⟨hb.os,hb.tape,hb.output,hb.size,fun k hk _=>hb.block k hk⟩,fun q hq=>?_,fun b hb=>?_,by simpa[aT,aA,eV]using hnd,fun q hq=>?_⟩
 ·simp[aT,aA]at hq
  subst hq
  exact hok
 ·have:=hfp b (by simpa[aT,aA,eV]using hb)
  exact⟨.inr this.1,this.2⟩
 simp at hq
 subst hq
 refine⟨⟨rfl,fun k o hk=>by simp[aT]at hk⟩,lH (fun _ _=>rfl) (fun b hb=>⟨hb.1,⟨⟨hb.2.1.1,?_⟩,hb.2.2.elim .inl fun h=>.inr (.inr h)⟩⟩) .refl hro⟩
 simpa[aT,aA,eV]using hb.2.1.2
theorem wW {v:Value}(h:∀(N:Nat→Prop) (w:World) us,bM w N [] args us→(∀b,N b→b<w.heap.size)→Calls Tryz.prog f us.toArray w (fun e w'=>e=.returned v∧Below w.heap.size w w')):aJ true Tryz.prog f [] args (bC (.one (tv v))):=by
 intro N w cs us hL
 obtain⟨rfl,hf⟩:=nZ hL
 refine(h _ w us hf (fun b hb=>hb.1)).mono ?_
 rintro e W ⟨rfl,hb⟩
 refine .mk0 (y:=[.w v]) rfl hb (by simp[VT.okL,VT.ok]) (by simp[VT.fpL,VT.fp]) (by simp[VT.fpL,VT.fp]) ⟨.w v,rfl,rfl,?_⟩
 simp[CR,tv,OR]
end
theorem oB {W:World}{N:Nat→Prop}{a b:FV}{us:List Value}(h:bM W N [] [a,b] us):∃u v,us=[u,v]∧aR W N [] a u∧aR W N [] b v:=by
 match us,h with
 | [u,v],h=>
  simp only[bM]at h
  exact⟨u,v,rfl,h.1,h.2.1⟩
 | [],h=>simp only[bM]at h
 | [_],h=>simp only[bM]at h;exact h.2.elim
 | _::_::_::_,h=>simp only[bM]at h;exact absurd h.2.2 (by simp)
theorem Nw {W:World}{N:Nat→Prop}{a:FV}{us:List Value}(h:bM W N [] [a] us):∃u,us=[u]∧aR W N [] a u:=by
 match us,h with
 | [u],h=>
  simp only[bM]at h
  exact⟨u,rfl,h.1⟩
 | [],h=>simp only[bM]at h
 | _::_::_,h=>simp only[bM]at h;exact absurd h.2 (by simp)
section
variable {a b:Fr4}
end
theorem bU (xs:List Nat){k:Nat}(h:k<xs.length):((aB xs).drop (k*1)).take [Tr.v (.int .u32 ((nth xs k:Nat):Int))].length=[Tr.v (.int .u32 ((nth xs k:Nat):Int))]:=by
 rw[Nat.mul_one]
 have:(aB xs)[k]? =some (Tr.v (.int .u32 ((nth xs k:Nat):Int))):=by simp[aB,aY h,h]
 rw[List.length_singleton,List.take_one]
 simp[this]
theorem aZ {x:Cx}{g:Nat→FV}{ob:List (Option Ob)}(h0:x.c0.length=0) (τ:List Nat) (live:List (Nat×FV)) (os:List Ob) (hn:τ.Nodup) (h1:jP τ g live) (h2:dZ τ ob τ os):Sub x g ob (bO live) (os.map some):=
 su τ (fun k hk=>by rw[h0]at hk;cases hk) live os hn h1 h2
theorem Gq {xs ys:List Nat}{k:Nat}(h:xs.take k=ys.take k) (h1:k<xs.length) (h2:k<ys.length) (he:nth xs k=nth ys k):xs.take (k+1)=ys.take (k+1):=by
 rw[List.take_add_one,List.take_add_one,h]
 rw[aY h1,aY h2]at he
 simp[List.getElem?_eq_getElem h1,List.getElem?_eq_getElem h2,he]
theorem jW (xs:List Nat):((aB xs).map AV.t).take (xs.length*1)=(aB xs).map .t:=by rw[Nat.mul_one,List.take_of_length_le (by simp[mP])]
theorem dD (xs:List Nat):(aB xs).length=xs.length*1:=by simp[mP]
theorem Nx {a b:Fr4}:a=b↔(a.s=b.s∧a.t=b.t)∧a.x=b.x∧a.y=b.y:=by
 obtain⟨s,x,t,y⟩:=a
 obtain⟨s',x',t',y'⟩:=b
 simp only[Fr4.mk.injEq]
 constructor
 ·rintro⟨h1,h2,h3,h4⟩
  exact⟨⟨h1,h3⟩,h2,h4⟩
 rintro⟨⟨h1,h3⟩,h2,h4⟩
 exact⟨h1,h2,h3,h4⟩
instance:DecidableEq Fr4:=fun a b=>decidable_of_iff _ Nx.symm
def Fr4.len (a:Fr4) (m:Nat):Prop:=a.x.length≤m∧a.y.length≤m
def hv:List Nat→List Nat
 | []=>[]
 | x::xs=>x%65536::x/65536::hv xs
def lb:List Nat→List Nat
 | []=>[]
 | [a]=>[a]
 | a::b::l=>(a+65536*b)::lb l
theorem Gr (xs ys:List Nat):(aB xs).map AV.t++(aB ys).map .t=(aB (xs++ys)).map .t:=by simp[aB]
theorem eO (a b:Nat):Int.tmod (a:Int) (b:Int)=((a%b:Nat):Int):=by
 rw[Int.tmod_eq_emod_of_nonneg (by omega)]
 rfl
theorem jE (a b:Nat):Int.tdiv (a:Int) (b:Int)=((a/b:Nat):Int):=by
 rw[Int.tdiv_eq_ediv_of_nonneg (by omega)]
 rfl
theorem oC {k:IntKind}{a:Nat}(b:Nat) (hb:b≠0) (h:gG k (a:Int)):(b:Int)≠0∧gG k (Int.tdiv (a:Int) (b:Int)):=by
 refine⟨by omega,?_⟩
 rw[jE]
 have:=Nat.div_le_self a b
 generalize a/b=c at this⊢
 cases k <;> simp only[gG]at h⊢ <;> omega
section
variable {x:Cx}{g:Nat→FV}{ob:List (Option Ob)}
theorem uC {i k n:Nat}{zs zs':List Nat}(hi:Nat.blt i x.n=true) (hg:g i=.one (.sl k 0 n)) (ho:bI ob k=some ⟨22,1,(aB zs).map .t⟩) (hn:n=zs.length) (he:zs=zs'):Sub x g ob (aK g i (.one (.t (sU false zs')))) (ob.set k none):=by
 subst he
 have:=fz hi hg ho (by rw[mP,hn,Nat.mul_one])
 rw[hn]at this
 exact this
end
section
variable {l:List Nat}{k N:Nat}{z:Int}{xs:List Nat}{neg:Bool}
theorem eQ {a b:Nat}(h:a≤b):(dg 4294967296 a).length≤(dg 4294967296 b).length:=cU (by omega) h
end
theorem Eh (xs:List Nat){k:Nat}(h:k<xs.length):((aB xs).map AV.t)[0+k*1]? =some (tv (.int .u32 ((nth xs k:Nat):Int))):=by simp[aB,aY h,h,tv]
theorem tA (xs:List Nat){k v:Nat}(h:k<xs.length):cD ((aB xs).map AV.t) (0+k*1) [tv (.int .u32 (v:Int))]=(aB (xs.set k v)).map .t:=by
 rw[Nat.zero_add,Nat.mul_one,List.set_eq_take_append_cons_drop,if_pos h]
 simp[cD,aB,tv,List.map_take,List.map_drop]
theorem wX (xs:List Nat){k:Nat}{a:AV}(h:k<xs.length):0+k*1+[a].length≤((aB xs).map AV.t).length:=by simp[aB];omega
structure Zi where
 s:Bool
 x:List Nat
def Zi.of (k:Int):Zi:=⟨pJ k,dg 4294967296 k.natAbs⟩
def Zn (a:Zi) (k:Int):Prop:=Lim 4294967296 a.x∧a.x.length≤137438953472∧iL a.s a.x=k
theorem Zn.of {k:Int}(h:(dg 4294967296 k.natAbs).length≤137438953472):Zn (.of k) k:=⟨bE (by omega) _,h,Eg k⟩
theorem Zn.len {a:Zi}{k:Int}(h:Zn a k):(dg 4294967296 k.natAbs).length≤137438953472:=by
 obtain⟨h1,h2,rfl⟩:=h
 exact Nat.le_trans (zK h1) h2
theorem Zn.right {a:Zi}{k:Int}(h:Zn a k) (hr:eN a.s a.x=true):pJ k=a.s∧dg 4294967296 k.natAbs=a.x:=by
 obtain⟨h1,h2,rfl⟩:=h
 exact⟨Ju h1 hr,sZ h1 hr⟩
theorem Qj:CallOk Tryz.prog 105:=.mk Tryz.func105 (by decide) rfl
def aW (l:List Nat):Nat:=l.foldl (fun n c=>n*10+(c-48)) 0
theorem Gs {l:List Nat}{k:Nat}(h:k<l.length):aW (l.take k)*10+(nth l k-48)=aW (l.take (k+1)):=by
 have e:l[k]? =some (nth l k):=by rw[aY h];simp[h]
 rw[List.take_add_one,e]
 simp[aW]
theorem rC:∀{l:List Nat}{k:Nat},(∀c∈l,48≤c∧c≤57)→k≤l.length→aW (l.take k)<10^k
 | l,0,_,_=>by simp[aW]
 | l,k+1,h,hk=>by
  have ih:=rC (k:=k) h (by omega)
  have h2:=h (nth l k) (by rw[aY (by omega)];exact List.getElem_mem _)
  rw[←Gs (by omega),Nat.pow_succ]
  omega
theorem wY {l:List Nat}{k:Nat}(h:∀c∈l,48≤c∧c≤57) (hk:k<l.length):48≤nth l k∧nth l k≤57:=h _ (by rw[aY hk];exact List.getElem_mem hk)
theorem Jw {l:List Nat}(h:∀c∈l,48≤c∧c≤57):Lim 256 l:=fun c hc=>by have:=h c hc;omega
theorem Qk {k:Nat}(h:k≤17):10^k≤100000000000000000:=Nat.le_trans (Nat.pow_le_pow_right (by omega) h) (by decide)
theorem Jx {l:List Nat}(hd:∀c∈l,48≤c∧c≤57) (h0l:0<l.length) (h18:l.length≤18):aJ true Tryz.prog 105 [] [.one (tv (.string (aH l)))] (bC (.tup [.one (tv (.int .i64 ((aW l:Nat):Int))),.one (tv .nilIface)])):=by
 refine cR Tryz.func105 rfl Tryz.ntmps105 rfl aG rfl fun N9 w9 c0 h0=>?_
 have hd0:=wY hd h0l
 refine sq ?_;refine rl ?_;refine o1 ?_;refine o1 ?_;refine nl ?_;refine sq ?_;refine rl ?_;refine o1 ?_;refine o1 ?_
 refine WL.cast (t:=12) (u':=.int .i64 ((l.length:Nat):Int)) rfl (congrArg (fun n:Nat=>Value.int .i64 (n:Int)) (aP _)) ?_
 refine o1 ?_;refine nl ?_;refine sq ?_;refine sq ?_;refine rl ?_;refine o1 ?_;(iterate 6 refine dC ?_);(iterate 6 refine o1 ?_);refine WL.split (t:=25) rfl (fun h1=>?_) (fun h1=>?_)
 ·(iterate 5 refine o1 ?_);refine nl ?_;refine bG rfl (fun h2=>?_) (fun h2=>?_)
  ·refine sq ?_;refine rl ?_;refine o1 ?_;refine o1 ?_;refine nl ?_;refine sq ?_;refine sq ?_;refine rl ?_;refine o1 ?_;refine o1 ?_ (hC:=(by rw[aP];show 0<l.length;omega))
   refine WL.cast (t:=33) (u':=.int .u8 (((nth l 0):Nat):Int)) rfl (congrArg (fun n:Nat=>Value.int .u8 (n:Int)) (iE (i:=0) (by omega) (by omega))) ?_
   refine o1 ?_;refine o1 ?_;refine WL.split (t:=35) rfl (fun h3=>?_) (fun h3=>?_)
   ·omega
   refine o1 ?_;refine o1 ?_ (hC:=(by rw[aP];show 0<l.length;omega))
   refine WL.cast (t:=37) (u':=.int .u8 (((nth l 0):Nat):Int)) rfl (congrArg (fun n:Nat=>Value.int .u8 (n:Int)) (iE (i:=0) (by omega) (by omega))) ?_
   refine o1 ?_;refine o1 ?_;refine nl ?_;refine bG rfl (fun h4=>?_) (fun h4=>?_)
   ·omega
   refine sk ?_;refine sq ?_;refine rl ?_;refine o1 ?_;refine nl ?_;refine sq ?_;refine sq ?_;refine rl ?_;refine o1 ?_;refine Ts (Jw hd) (by omega) ?_
   refine o1 ?_;refine o1 ?_;refine nl ?_;refine bl ?_
   refine lp (γ:=Nat) (fun k=>bO [(5,.one (tv (.string (aH l)))),(6,.one (tv (.int .i64 ((aW (l.take k):Nat):Int)))),(47,.one (.t (.s false 5 1 l.length (aV l)))),(48,.one (tv (.int .i64 ((l.length:Nat):Int)))),(49,.one (tv (.int .i64 ((k:Nat):Int))))]) (fun _=>([]:List Ob).map some) (fun k=>k≤l.length) (fun k=>l.length-k) 0 (Nat.zero_le _) (aZ h0 [] _ _ (by decide) ⟨rfl,rfl,rfl,rfl,rfl,trivial⟩ rfl) fun k hk=>?_
   refine sq ?_;refine rl ?_;refine o1 ?_;refine nl ?_;refine sq ?_;refine bG rfl (fun h5=>?_) (fun h5=>?_)
   ·refine sk ?_;refine sq ?_;refine bl ?_;refine sq ?_;have hdk:=wY hd (k:=k) (by omega)
    have hvk:=Nat.lt_of_lt_of_le (rC (k:=k) hd hk) (Qk (by omega))
    refine rl ?_;refine o1 ?_;refine jS ([.v (.int .u8 ((nth l (k):Nat):Int))]) (gP l (k:=k) (by omega)) ?_
    refine o1 ?_;refine nl ?_;refine sq ?_;refine rl ?_;refine o1 ?_;refine o1 ?_;refine WL.cast (t:=54) (u':=.int .u8 (((nth l k-48):Nat):Int)) rfl (aD (by omega)) ?_
    refine o1 ?_;refine nl ?_;refine sq ?_;refine sq ?_;refine rl ?_;refine o1 ?_;refine o1 ?_;refine nl ?_;refine bG rfl (fun h6=>?_) (fun h6=>?_)
    ·omega
    refine sk ?_;refine rl ?_;refine o1 ?_;refine o1 ?_;refine WL.cast (t:=59) (u':=.int .i64 (((aW (l.take k)*10):Nat):Int)) rfl (aD (by omega)) ?_
    refine o1 ?_;refine o1 ?_;refine WL.cast (t:=61) (u':=.int .i64 (((nth l k-48):Nat):Int)) rfl (aD (by omega)) ?_
    refine o1 ?_;refine WL.cast (t:=62) (u':=.int .i64 (((aW (l.take k)*10+(nth l k-48)):Nat):Int)) rfl (aD (by omega)) ?_
    refine WL.cast (t:=62) (u':=.int .i64 (((aW (l.take k)*10)+(nth l k-48):Nat):Int)) rfl (aD (by omega)) ?_
    refine o1 ?_;refine nl ?_;refine rl ?_;refine o1 ?_;refine WL.cast (t:=63) (u':=.int .i64 ((k+1:Nat):Int)) rfl (aD (by omega)) ?_
    refine o1 ?_;refine nl ?_
    exact⟨k+1,by omega,by omega,aZ h0 [] _ _ (by decide) ⟨rfl,nY (congrArg (fun n:Nat=>(n:Int)) (Gs (by omega)).symm),rfl,rfl,rfl,trivial⟩ rfl⟩
   refine ex ?_;refine sq ?_;refine sq ?_;refine rl ?_;refine o1 ?_;refine o1 ?_ (hC:=(by rw[aP];show 0<l.length;omega))
   refine WL.cast (t:=65) (u':=.int .u8 (((nth l 0):Nat):Int)) rfl (congrArg (fun n:Nat=>Value.int .u8 (n:Int)) (iE (i:=0) (by omega) (by omega))) ?_
   refine o1 ?_;refine nl ?_;refine bG rfl (fun h7=>?_) (fun h7=>?_)
   ·omega
   refine sk ?_;refine sq ?_;refine rl ?_;(iterate 3 refine o1 ?_);refine nl ?_;refine rt ?_;have hk9:k=l.length:=by omega
   exact en (.inl rfl) rfl (fQ (.cons (cY _) (.cons (cY _) .nil))) (by decide) (fun _=>⟨trivial,trivial,trivial⟩) (by rw[hk9,List.take_of_length_le (Nat.le_refl _)];rfl)
  omega
 omega
theorem rD {l:List Nat}(hd:∀c∈l,48≤c∧c≤57) (h0l:0<l.length) (h18:l.length≤18):aJ true Tryz.prog 49 [] [.one (tv (.string (aH l)))] (bC (.tup [.one (tv (.int .i64 ((aW l:Nat):Int))),.one (tv .nilIface)])):=by
 refine cR Tryz.func49 rfl Tryz.ntmps49 rfl aG rfl fun N9 w9 c0 h0=>?_
 refine sq ?_;refine rl ?_;refine o1 ?_;refine o1 ?_;refine nl ?_;refine sq ?_;refine rl ?_;refine o1 ?_
 refine ca (Jx hd h0l h18) Qj ⟨a1 rfl,rfl⟩ (.tup [.one (tv (.int .i64 ((aW l:Nat):Int))),.one (tv .nilIface)]) ?_;(iterate 5 refine o1 ?_);refine nl ?_;refine sq ?_;refine sq ?_
 refine rl ?_;refine o1 ?_;refine Tt ?_ (by kernel_rfl)
 refine nl ?_;refine fU rfl ?_;refine sk ?_;refine sq ?_;refine rl ?_;(iterate 3 refine o1 ?_);refine nl ?_;refine rt ?_
 exact en (.inl rfl) rfl (fQ (.cons (cY _) (.cons (cY _) .nil))) (by decide) (fun _=>⟨trivial,trivial,trivial⟩) rfl
end Go.Proofs.YteggpgndiajdpaaGreatDoor
namespace Go.Proofs.YteggpgndiajdpaaGreatDoor
open Go Go.Shelf
def lays160_ren:Go.Shelf.Ren:=⟨fun | 160=>48 | 232=>99 | 231=>98 | 227=>100 | 234=>102 | 233=>101 | 236=>104 | 235=>103 | 228=>134 | 271=>137 | 151=>136 | 197=>135 | 120=>153 | 152=>152 | 260=>151 | 137=>159 | 119=>160 | 224=>161 | 225=>162 | 217=>166 | 266=>168 | n=>n,fun | 9=>9 | 4=>4 | 3=>3 | 5=>5 | 117=>127 | 116=>126 | 0=>0 | 124=>130 | 21=>21 | 105=>151 | 46=>85 | 119=>175 | 139=>178 | 138=>177 | n=>n,fun | 3=>3 | 4=>4 | n=>n⟩
theorem Jy:Go.Proofs.Lays.n160 Tryz.prog lays160_ren:={
 mixed:=by kernel_rfl
 f119:=Tryz.func160.trans (congrArg some (by kernel_rfl))
 f120:=Tryz.func153.trans (congrArg some (by kernel_rfl))
 f137:=Tryz.func159.trans (congrArg some (by kernel_rfl))
 f151:=Tryz.func136.trans (congrArg some (by kernel_rfl))
 f152:=Tryz.func152.trans (congrArg some (by kernel_rfl))
 f160:=Tryz.func48.trans (congrArg some (by kernel_rfl))
 f197:=Tryz.func135.trans (congrArg some (by kernel_rfl))
 f217:=Tryz.func166.trans (congrArg some (by kernel_rfl))
 f224:=Tryz.func161.trans (congrArg some (by kernel_rfl))
 f225:=Tryz.func162.trans (congrArg some (by kernel_rfl))
 f227:=Tryz.func100.trans (congrArg some (by kernel_rfl))
 f228:=Tryz.func134.trans (congrArg some (by kernel_rfl))
 f231:=Tryz.func98.trans (congrArg some (by kernel_rfl))
 f232:=Tryz.func99.trans (congrArg some (by kernel_rfl))
 f233:=Tryz.func101.trans (congrArg some (by kernel_rfl))
 f234:=Tryz.func102.trans (congrArg some (by kernel_rfl))
 f235:=Tryz.func103.trans (congrArg some (by kernel_rfl))
 f236:=Tryz.func104.trans (congrArg some (by kernel_rfl))
 f260:=Tryz.func151.trans (congrArg some (by kernel_rfl))
 f266:=Tryz.func168.trans (congrArg some (by kernel_rfl))
 f271:=Tryz.func137.trans (congrArg some (by kernel_rfl))
 t0:=Tryz.underlying0
 a0:=Tryz.isAgg0
 z0:=Tryz.sizeOf0
 v0:=Tryz.zeroValue0
 t3:=Tryz.underlying3
 a3:=Tryz.isAgg3
 z3:=Tryz.sizeOf3
 v3:=Tryz.zeroValue3
 t4:=Tryz.underlying4
 a4:=Tryz.isAgg4
 z4:=Tryz.sizeOf4
 v4:=Tryz.zeroValue4
 t5:=Tryz.underlying5
 a5:=Tryz.isAgg5
 z5:=Tryz.sizeOf5
 v5:=Tryz.zeroValue5
 t9:=Tryz.underlying9
 a9:=Tryz.isAgg9
 z9:=Tryz.sizeOf9
 v9:=Tryz.zeroValue9
 t21:=Tryz.underlying21
 a21:=Tryz.isAgg21
 z21:=Tryz.sizeOf21
 v21:=Tryz.zeroValue21
 t46:=Tryz.underlying85
 a46:=Tryz.isAgg85
 z46:=Tryz.sizeOf85
 v46:=Tryz.zeroValue85
 t105:=Tryz.underlying151
 a105:=Tryz.isAgg151
 z105:=Tryz.sizeOf151
 v105:=Tryz.zeroValue151
 t116:=Tryz.underlying126
 a116:=Tryz.isAgg126
 z116:=Tryz.sizeOf126
 t117:=Tryz.underlying127
 a117:=Tryz.isAgg127
 z117:=Tryz.sizeOf127
 v117:=Tryz.zeroValue127
 t119:=Tryz.underlying175
 a119:=Tryz.isAgg175
 z119:=Tryz.sizeOf175
 t124:=Tryz.underlying130
 a124:=Tryz.isAgg130
 z124:=Tryz.sizeOf130
 v124:=Tryz.zeroValue130
 t138:=Tryz.underlying177
 a138:=Tryz.isAgg177
 z138:=Tryz.sizeOf177
 v138:=Tryz.zeroValue177
 t139:=Tryz.underlying178
 a139:=Tryz.isAgg178
 z139:=Tryz.sizeOf178
 v139:=Tryz.zeroValue178
 g3:=by kernel_rfl
 g4:=by kernel_rfl}
end Go.Proofs.YteggpgndiajdpaaGreatDoor
namespace Go.Proofs.YteggpgndiajdpaaGreatDoor
open Go Go.RowKit
section
variable {f:FuncId}{args:List FV}
theorem iM {xs:List Nat}(h:∀(N:Nat→Prop) (w:World) us,bM w N [] args us→(∀b,N b→b<w.heap.size)→Calls Tryz.prog f us.toArray w (iF xs w)):aJ true Tryz.prog f [] args (bC (.one (.t (sU true xs)))):=by
 intro N w cs us hL
 obtain⟨rfl,hf⟩:=nZ hL
 refine(h _ w us hf (fun b hb=>hb.1)).mono ?_
 rintro e W ⟨A,n,c,rfl,ho,hb⟩
 obtain⟨y1,a1,a2,a3,a4⟩:=lR (N:=fun b=>true=false∧(b<W.heap.size∧b∉VT.fpL [])∧(N b∨w.heap.size≤b)) ho
 refine .mk0 (y:=[y1]) rfl hb (by simp only[VT.okL];exact⟨a3,trivial⟩) ?_ (fun b hb'=>?_) ?_
 ·simp only[VT.fpL,a4,List.append_nil]
  cases A <;> simp[Value.ownBlock]
 ·simp only[VT.fpL,a4,List.append_nil]at hb'
  exact ho.blk b hb'
 exact⟨y1,rfl,a1.symm,fB (fun _ _=>rfl) (fun b hb=>absurd hb.1 (by simp)) _ _ a2⟩
variable {xs ys:List Nat}
theorem eB {W:World}{N:Nat→Prop}{v:Value}(h:aR W N [] (.one (.t (sU false xs))) v) (hl:Lim 4294967296 xs) (hN:∀b,N b→b<W.heap.size):∃A c,v=.slice A xs.length c∧U32 W W.heap.size A xs.length c xs:=by
 simp only[aR,AR]at h
 obtain⟨A,c,rfl,l⟩:=Jv h hl
 exact⟨A,c,rfl,l.u32 hN⟩
theorem Ny (hx:Lim 4294967296 xs) (h:xs.length≤1099511627776):aJ true Tryz.prog 56 [] [.one (.t (sU false xs))] (bC (.one (.t (sU true (trim xs))))):=iM fun N w us hf hN=>by
 obtain⟨u,rfl,h1⟩:=Nw hf
 obtain⟨A,c,rfl,u1⟩:=eB h1 hx hN
 exact cO A _ c xs w u1 h
theorem Jz (hx:Lim 4294967296 xs) (h:xs.length≤1099511627776):aJ true Tryz.prog 79 [] [.one (.t (sU false xs))] (bC (.one (.t (sU true xs)))):=iM fun N w us hf hN=>by
 obtain⟨u,rfl,h1⟩:=Nw hf
 obtain⟨A,c,rfl,u1⟩:=eB h1 hx hN
 exact oU A _ c xs w u1 h
theorem Ql (hx:Lim 4294967296 xs) (hy:Lim 4294967296 ys):aJ true Tryz.prog 67 [] [.one (.t (sU false xs)),.one (.t (sU false ys))] (bC (.one (tv (.int .i64 (fS (vl 4294967296 xs) (vl 4294967296 ys)))))):=wW fun N w us hf hN=>by
 obtain⟨u,v,rfl,h1,h2⟩:=oB hf
 obtain⟨A,c,rfl,u1⟩:=eB h1 hx hN
 obtain⟨B,d,rfl,u2⟩:=eB h2 hy hN
 exact(mO A B _ _ c d xs ys _ w u1 u2).mono fun e W ⟨he,k,hk⟩=>⟨he,hk▸eF (Below.refl _ _) k⟩
theorem Ic (hx:Lim 4294967296 xs) (hy:Lim 4294967296 ys) (h:xs.length≤1099511627776) (h':ys.length≤1099511627776):aJ true Tryz.prog 50 [] [.one (.t (sU false xs)),.one (.t (sU false ys))] (bC (.one (.t (sU true (dg 4294967296 (vl 4294967296 xs+vl 4294967296 ys)))))):=iM fun N w us hf hN=>by
 obtain⟨u,v,rfl,h1,h2⟩:=oB hf
 obtain⟨A,c,rfl,u1⟩:=eB h1 hx hN
 obtain⟨B,d,rfl,u2⟩:=eB h2 hy hN
 exact Gj A B _ _ c d xs ys w u1 u2 h h'
theorem Qm (hx:Lim 4294967296 xs) (hy:Lim 4294967296 ys) (h:xs.length≤549755813888) (h':ys.length≤549755813888):aJ true Tryz.prog 44 [] [.one (.t (sU false xs)),.one (.t (sU false ys))] (bC (.one (.t (sU true (dg 4294967296 (vl 4294967296 xs*vl 4294967296 ys)))))):=iM fun N w us hf hN=>by
 obtain⟨u,v,rfl,h1,h2⟩:=oB hf
 obtain⟨A,c,rfl,u1⟩:=eB h1 hx hN
 obtain⟨B,d,rfl,u2⟩:=eB h2 hy hN
 exact Jm A B _ _ c d xs ys w u1 u2 h h'
theorem oD (A:Option Addr) (n c:Nat):((Value.slice A n c).ownBlock.toList).Nodup:=by cases A <;> simp[Value.ownBlock]
theorem Gt (hx:Lim 4294967296 xs) (hy:Lim 4294967296 ys) (h:xs.length≤549755813888) (h':ys.length≤549755813888) (h0:vl 4294967296 ys≠0):aJ true Tryz.prog 45 [] [.one (.t (sU false xs)),.one (.t (sU false ys))] (bC (.tup [.one (.t (sU true (dg 4294967296 (vl 4294967296 xs/vl 4294967296 ys)))),.one (.t (sU true (dg 4294967296 (vl 4294967296 xs%vl 4294967296 ys)))),.one (tv (.int .i64 0))])):=by
 intro N w cs us hL
 obtain⟨rfl,hf⟩:=nZ hL
 obtain⟨u,v,rfl,h1,h2⟩:=oB hf
 obtain⟨A,c,rfl,u1⟩:=eB h1 hx fun b hb=>hb.1
 obtain⟨B,d,rfl,u2⟩:=eB h2 hy fun b hb=>hb.1
 refine(Bn A B _ _ c d xs ys w u1 u2 h h' h0).mono ?_
 rintro e W ⟨A1,n1,c1,A2,n2,c2,rfl,ho,ho2,hap,hb⟩
 obtain⟨y1,a1,a2,a3,a4⟩:=lR (N:=fun b=>true=false∧(b<W.heap.size∧b∉VT.fpL [])∧(N b∨w.heap.size≤b)) ho
 obtain⟨y2,b1,b2,b3,b4⟩:=lR (N:=fun b=>true=false∧(b<W.heap.size∧b∉VT.fpL [])∧(N b∨w.heap.size≤b)) ho2
 refine .mk0 (y:=[y1,y2,.w (.int .i64 0)]) rfl hb (by simp only[VT.okL,VT.ok];exact⟨a3,b3,trivial,trivial⟩) ?_ (fun b hb'=>?_) ?_
 ·simp only[VT.fpL,VT.fp,a4,b4,List.append_nil]
  rw[List.nodup_append]
  refine⟨oD ..,oD ..,fun x hx y hy e=>?_⟩
  subst e
  rcases A1 with _ | a
  ·simp[Value.ownBlock]at hx
  rcases A2 with _ | b
  ·simp[Value.ownBlock]at hy
  simp[Value.ownBlock]at hx hy
  exact hap a b rfl rfl (by rw[←hx,←hy])
 ·simp only[VT.fpL,VT.fp,a4,b4,List.append_nil]at hb'
  rcases List.mem_append.1 hb' with hb' | hb'
  ·exact ho.blk b hb'
  exact ho2.blk b hb'
 refine⟨[_,_,_],rfl,?_⟩
 exact⟨_,_,[y1],[y2,.w (.int .i64 0)],rfl,rfl,⟨y1,rfl,a1.symm,fB (fun _ _=>rfl) (fun b hb=>absurd hb.1 (by simp)) _ _ a2⟩,_,_,[y2],[.w (.int .i64 0)],rfl,rfl,⟨y2,rfl,b1.symm,fB (fun _ _=>rfl) (fun b hb=>absurd hb.1 (by simp)) _ _ b2⟩,_,_,[.w (.int .i64 0)],[],rfl,rfl,⟨_,rfl,rfl,by simp[CR,tv,OR]⟩,rfl,rfl⟩
end
section
variable {xs:List Nat}
theorem Bq {d:Nat}(hx:Lim 4294967296 xs) (h:xs.length≤1099511627776) (hd0:0<d) (hd:d<4294967296):aJ true Tryz.prog 57 [] [.one (.t (sU false xs)),.one (tv (.int .u32 (d:Int)))] (bC (.tup [.one (.t (sU true (dg 4294967296 (vl 4294967296 xs/d)))),.one (tv (.int .u32 ((vl 4294967296 xs%d:Nat):Int))),.one (tv (.int .i64 0))])):=by
 intro N w cs us hL
 obtain⟨rfl,hf⟩:=nZ hL
 obtain⟨u,v,rfl,h1,h2⟩:=oB hf
 obtain⟨A,c,rfl,u1⟩:=eB h1 hx fun b hb=>hb.1
 obtain rfl:=aE (gH h2)
 refine(iS A _ c d xs w u1 h hd0 hd).mono ?_
 rintro e W ⟨A,n,c,rfl,ho,hb⟩
 obtain⟨y1,a1,a2,a3,a4⟩:=lR (N:=fun b=>true=false∧(b<W.heap.size∧b∉VT.fpL [])∧(N b∨w.heap.size≤b)) ho
 refine .mk0 (y:=[y1,.w (.int .u32 ((vl 4294967296 xs%d:Nat):Int)),.w (.int .i64 0)]) rfl hb (by simp only[VT.okL,VT.ok];exact⟨a3,trivial,trivial,trivial⟩) ?_ (fun b hb'=>?_) ?_
 ·simp only[VT.fpL,VT.fp,a4,List.append_nil]
  exact oD A n c
 ·simp only[VT.fpL,VT.fp,a4,List.append_nil]at hb'
  exact ho.blk b hb'
 refine⟨[_,_,_],rfl,?_⟩
 exact⟨_,_,[y1],[.w _,.w (.int .i64 0)],rfl,rfl,⟨y1,rfl,a1.symm,fB (fun _ _=>rfl) (fun b hb=>absurd hb.1 (by simp)) _ _ a2⟩,_,_,[.w _],[.w (.int .i64 0)],rfl,rfl,⟨_,rfl,rfl,by simp[CR,tv,OR]⟩,_,_,[.w (.int .i64 0)],[],rfl,rfl,⟨_,rfl,rfl,by simp[CR,tv,OR]⟩,rfl,rfl⟩
theorem zL {v:Nat}(hx:Lim 4294967296 xs) (h:xs.length≤1099511627776) (hv:vl 4294967296 xs=v):aJ true Tryz.prog 56 [] [.one (.t (sU false xs))] (bC (.one (.t (sU true (dg 4294967296 v))))):=by
 have e:=dR (B:=4294967296) (by omega) hx
 rw[←hv,e]
 exact Ny hx h
theorem Nz {u d:Nat}(h:(dg 4294967296 u).length≤1099511627776) (hd0:0<d) (hd:d<4294967296):aJ true Tryz.prog 57 [] [.one (.t (sU false (dg 4294967296 u))),.one (tv (.int .u32 (d:Int)))] (bC (.tup [.one (.t (sU true (dg 4294967296 (u/d)))),.one (tv (.int .u32 ((u%d:Nat):Int))),.one (tv (.int .i64 0))])):=by
 have e:=bL (B:=4294967296) (by omega) u
 have h2:=Bq (xs:=dg 4294967296 u) (d:=d) (bE (by omega) _) h hd0 hd
 rw[e]at h2
 exact h2
end
theorem wZ {l:List Nat}(hn:l.length≤9223372036854775807):aJ true Tryz.prog 48 [] [.one (tv (.string (aH l))),.one (tv (.string ⟨#[48,49,50,51,52,53,54,55,56,57]⟩))] (bC (.one (tv (.string ⟨(Lib.trimS (aH l).data.toList [48,49,50,51,52,53,54,55,56,57]).toArray⟩)))):=wW fun N w us hf hN=>by
 obtain⟨u,v,rfl,h1,h2⟩:=oB hf
 obtain rfl:=aE (gH h1)
 obtain rfl:=aE (gH h2)
 exact Go.Proofs.Any.strings_Trim_laid Jy (by kernel_rfl) (aH l) ⟨#[48,49,50,51,52,53,54,55,56,57]⟩ w (by rw[aP];omega) (by decide) (fun j b h=>(by decide:∀b∈([48,49,50,51,52,53,54,55,56,57]:List UInt8),b.toNat<128) b (List.mem_of_getElem? h))
theorem xA {α:Type}{p:α→Bool}:∀{l:List α},l.dropWhile p=[]↔∀x∈l,p x=true
 | []=>by simp
 | x::l=>by
  rw[List.dropWhile_cons]
  by_cases h:p x=true
  ·rw[if_pos h,xA];simp[h]
  rw[if_neg h];simp[h]
theorem Ei {l cs:List UInt8}:Lib.trimS l cs=[]↔∀x∈l,cs.contains x=true:=by
 unfold Lib.trimS Lib.trimLeftS Lib.trimRightS
 rw[xA]
 refine⟨fun h=>?_,fun h x hx=>h x (by simpa using(List.dropWhile_sublist _).subset (List.mem_reverse.1 hx))⟩
 cases hq:l.reverse.dropWhile (cs.contains ·)with
 | nil=>exact fun x hx=>xA.1 hq x (List.mem_reverse.2 hx)
 | cons y ys=>
  have h1:=h y (by rw[hq];simp)
  have h2:=List.head?_dropWhile_not (cs.contains ·) l.reverse
  rw[hq]at h2
  simp at h2
  exact absurd (by simpa using h1) h2
theorem rE {xs:List Nat}{m:Nat}(hx:Lim 4294967296 xs) (h:xs.length≤1099511627776) (hm:m<4294967296):aJ true Tryz.prog 51 [] [.one (.t (sU false xs)),.one (tv (.int .u32 (m:Int)))] (bC (.one (.t (sU true (dg 4294967296 (vl 4294967296 xs*m)))))):=iM fun N w us hf hN=>by
 obtain⟨u,v,rfl,h1,h2⟩:=oB hf
 obtain⟨A,c,rfl,u1⟩:=eB h1 hx hN
 obtain rfl:=aE (gH h2)
 exact nA A _ c m xs w u1 h hm
def Zg (a:Zi) (k:Int):Prop:=Lim 4294967296 a.x∧a.x.length≤300000000000∧iL a.s a.x=k
theorem Zn.g {a:Zi}{k:Int}(h:Zn a k):Zg a k:=⟨h.1,Nat.le_trans h.2.1 (by omega),h.2.2⟩
theorem Zg.of {k:Int}(h:(dg 4294967296 k.natAbs).length≤300000000000):Zg (.of k) k:=⟨bE (by omega) _,h,Eg k⟩
theorem Zg.len {a:Zi}{k:Int}(h:Zg a k):(dg 4294967296 k.natAbs).length≤300000000000:=by
 obtain⟨h1,h2,rfl⟩:=h
 exact Nat.le_trans (zK h1) h2
theorem fV (xs:List Nat):((aB xs).map AV.t).take (aB xs).length=(aB xs).map .t:=List.take_of_length_le (by simp)
section
variable {α:Type}{f:α→List Tr}{z:Nat}{xs:List α}{k o:Nat}{x x' y:α}{us:List Tr}
end
def zv (a:Zi):Int:=iL a.s a.x
def ZL (L:Nat) (a:Zi):Prop:=Lim 4294967296 a.x∧a.x.length≤L
theorem ZL.n {L:Nat}{a:Zi}(h:ZL L a) (hL:L≤137438953472):Zn a (zv a):=⟨h.1,Nat.le_trans h.2 hL,rfl⟩
theorem xB {α:Type}{l:List α}{k:Nat}(h:l.length≤k):l.take k=l:=List.take_of_length_le h
def jX (l:List Nat):Bool:=l.all fun c=>decide (48≤c∧c≤57)
theorem zM {l:List Nat}(h:jX l=true):∀c∈l,48≤c∧c≤57:=by simpa[jX]using h
theorem xC {l:List Nat}(h:∀c∈l,48≤c∧c≤57):jX l=true:=by simpa[jX]using h
theorem Ej:∀c<256,([48,49,50,51,52,53,54,55,56,57]:List UInt8).contains (UInt8.ofNat c)=decide (48≤c∧c≤57):=by decide+kernel
theorem zN {l:List Nat}(h:Lim 256 l):((⟨(Lib.trimS (aH l).data.toList [48,49,50,51,52,53,54,55,56,57]).toArray⟩:ByteArray).toList==(⟨#[]⟩:ByteArray).toList)=jX l:=by
 rw[ByteArray.toList_eq,ByteArray.toList_eq,Bool.eq_iff_iff,beq_iff_eq]
 show Lib.trimS _ _=[]↔_
 rw[Ei,gZ]
 unfold jX
 rw[List.all_eq_true]
 refine⟨fun g c hc=>?_,fun g x hx=>?_⟩
 ·rw[←Ej c (h c hc)]
  exact g _ (List.mem_map.2 ⟨c,hc,rfl⟩)
 obtain⟨c,hc,rfl⟩:=List.mem_map.1 hx
 rw[Ej c (h c hc)]
 exact g c hc
def dT (l:List Nat):Bool:=decide (l=[])||(!decide (l=[48])&&decide (nth l 0=48))|| !jX l
def eR (l:List Nat):Int:=if dT l then 60 else if 4096<l.length then 3 else 0
def dK (l:List Nat):Nat:=if eR l=0 then aW l else 0
theorem Br {l:List Nat}(h:decide (l=[])=true):dT l=true:=by simp[dT,h]
theorem Bs {l:List Nat}(h:decide (l=[48])=false) (h2:nth l 0=48):dT l=true:=by simp[dT,h,h2]
theorem rF {l:List Nat}(h:jX l=false):dT l=true:=by simp[dT,h]
theorem oE {l:List Nat}(h0:decide (l=[])=false) (h:decide (l=[48])=true∨¬nth l 0=48) (h2:jX l=true):dT l=false:=by
 rcases h with h | h <;> simp[dT,h0,h,h2]
theorem iY {l:List Nat}(h:dT l=true):eR l=60:=by simp[eR,h]
theorem Gu {l:List Nat}(h:dT l=false) (h2:4096<l.length):eR l=3:=by simp[eR,h,h2]
theorem xD {l:List Nat}(h:dT l=false) (h2:¬4096<l.length):eR l=0:=by simp[eR,h,h2]
theorem oW {l:List Nat}(h:eR l=0):dK l=aW l:=if_pos h
theorem fX {l:List Nat}(h:¬eR l=0):dK l=0:=if_neg h
theorem rG {l:List Nat}(h:dT l=false):∀c∈l,48≤c∧c≤57:=by
 refine zM ?_
 cases hq:jX l with
 | true=>rfl
 | false=>rw[rF hq]at h;cases h
theorem Gv (m:List Nat):∀n:Nat,m.foldl (fun n c=>n*10+(c-48)) n=n*10^m.length+aW m:=by
 induction m with
 | nil=>intro n;simp[aW]
 | cons c m ih=>
  intro n
  have e:aW (c::m)=(0*10+(c-48))*10^m.length+aW m:=ih _
  rw[List.foldl_cons,ih,e,List.length_cons,Nat.pow_succ,Nat.zero_mul,Nat.zero_add,Nat.add_mul,Nat.mul_assoc,Nat.mul_comm 10,Nat.add_assoc]
theorem zO (l m:List Nat):aW (l++m)=aW l*10^m.length+aW m:=by
 show(l++m).foldl _ 0=_
 rw[List.foldl_append,Gv]
 rfl
theorem kP {l:List Nat}{j f:Nat}(h:j+f≤l.length) (hf:j=0∨f=9):aW (l.take j)*1000000000+aW ((l.drop j).take f)=aW (l.take (j+f)):=by
 rw[List.take_add,zO,List.length_take,List.length_drop,Nat.min_eq_left (by omega)]
 rcases hf with rfl | rfl
 ·simp[aW]
 rfl
theorem Ka {l:List Nat}(h:∀c∈l,48≤c∧c≤57){j:Nat}(hj:j≤l.length):aW (l.take j)<4294967296^j:=Nat.lt_of_lt_of_le (rC h hj) (Nat.pow_le_pow_left (by omega) j)
theorem lS {l:List Nat}(h:∀c∈l,48≤c∧c≤57){j:Nat}(hj:j≤l.length):(dg 4294967296 (aW (l.take j))).length≤j:=aF (by omega) (Ka h hj)
theorem mQ {l:List Nat}(h:∀c∈l,48≤c∧c≤57) (j f:Nat):∀c∈(l.drop j).take f,48≤c∧c≤57:=fun c hc=>h c (List.mem_of_mem_drop (List.mem_of_mem_take hc))
theorem mR {l:List Nat}(h:∀c∈l,48≤c∧c≤57){j f:Nat}(hj:j+f≤l.length) (hf:f≤9):aW ((l.drop j).take f)<1000000000:=
 Nat.lt_of_lt_of_le (rC (l:=l.drop j) (k:=f) (fun c hc=>h c (List.mem_of_mem_drop hc)) (by rw[List.length_drop];omega)) (Nat.le_trans (Nat.pow_le_pow_right (by omega) hf) (by decide))
theorem Qn {l:List Nat}{k:Nat}(h:k<l.length):aW (l.take k)*10+(nth l k-48)=aW (l.take (k+1)):=Gs h
theorem zP (ds:List Nat):aW (bT ds).reverse=vl 10 ds:=by
 induction ds with
 | nil=>rfl
 | cons d ds ih=>
  have e:(bT (d::ds)).reverse=(bT ds).reverse++[48+d]:=by simp[bT]
  rw[e,zO,ih]
  simp[aW,vl]
  omega
theorem Oa (v:Nat):aW (tx v)=v:=by
 unfold tx
 split
 ·rename_i h;subst h;rfl
 rw[zP,bL (by omega)]
theorem Oc (v:Nat):∀c∈tx v,48≤c∧c≤57:=by
 unfold tx
 split
 ·intro c hc
  simp at hc
  omega
 intro c hc
 rw[List.mem_reverse]at hc
 obtain⟨d,hd,rfl⟩:=List.mem_map.1 hc
 have:=bE (B:=10) (by omega) v d hd
 omega
theorem Kb {v:Nat}(h:v≠0):nth (tx v) 0≠48:=by
 have e:=uS (l:=dg 10 v) (v:=v) (bE (by omega) v) (bL (by omega) v)
 rw[if_neg h]at e
 have e2:tx v=(bT (dg 10 v)).reverse:=by unfold tx;rw[if_neg h]
 rw[←e2]at e
 have h2:=Bh v
 generalize tx v=L at e h2
 cases L with
 | nil=>exact absurd rfl h2
 | cons x l=>
  intro h3
  have h4:x=48:=h3
  subst h4
  have h5:=(List.dropWhile_sublist (· ==48) (l:=l)).length_le
  rw[List.dropWhile_cons,if_pos (by rfl)]at e
  rw[e,List.length_cons]at h5
  omega
theorem Kc (v:Nat):dT (tx v)=false:=by
 by_cases h:v=0
 ·subst h;rfl
 exact oE (decide_eq_false (Bh v)) (.inr (Kb h)) (xC (Oc v))
def jY (l:List Nat):Bool:=decide (l=[])||(decide (nth l 0=48)&&decide (1<l.length))
theorem Od {l:List Nat}(h:decide (l=[])=true):true=jY l:=by simp[jY,h]
theorem Oe {l:List Nat}(h:jY l=true):dT l=true:=by
 unfold jY at h
 simp only[Bool.or_eq_true,Bool.and_eq_true,decide_eq_true_eq]at h
 rcases h with h | ⟨h1,h2⟩
 ·exact Br (decide_eq_true h)
 refine Bs (decide_eq_false fun e=>?_) h1
 rw[e]at h2
 simp at h2
theorem Of {l:List Nat}(h:jY l=false) (h2:jX l=true):dT l=false:=by
 unfold jY at h
 simp only[Bool.or_eq_false_iff,Bool.and_eq_false_iff,decide_eq_false_iff_not]at h
 refine oE (decide_eq_false h.1) ?_ h2
 rcases h.2 with h3 | h3
 ·exact .inr h3
 by_cases h4:nth l 0=48
 ·left
  match l,h.1,h3,h4 with
  | [c],_,_,h4=>have h5:c=48:=h4;subst h5;rfl
  | _::_::_,_,h3,_=>simp at h3
 exact .inr h4
theorem Og {l:List Nat}{k:Nat}(h:k<l.length) (h2:nth l k<48∨57<nth l k):jX l=false:=by
 cases hq:jX l with
 | false=>rfl
 | true=>have:=zM hq (nth l k) (by rw[aY h];exact List.getElem_mem h);omega
theorem Qo {l:List Nat}{k:Nat}(h:k<l.length) (h1:∀c∈l.take k,48≤c∧c≤57) (h2:48≤nth l k∧nth l k≤57):∀c∈l.take (k+1),48≤c∧c≤57:=by
 have e:l[k]? =some (nth l k):=by rw[aY h];simp[h]
 intro c hc
 rw[List.take_add_one,e]at hc
 simp at hc
 rcases hc with hc | rfl
 ·exact h1 c hc
 exact h2
theorem rH {u m:Nat}(h:(dg 4294967296 u).length≤1099511627776) (hm:m<4294967296):aJ true Tryz.prog 51 [] [.one (.t (sU false (dg 4294967296 u))),.one (tv (.int .u32 (m:Int)))] (bC (.one (.t (sU true (dg 4294967296 (u*m)))))):=by
 have h1:=rE (bE (by omega) u) h hm
 rwa[bL (by omega)]at h1
theorem rI {u x:Nat}(h:(dg 4294967296 u).length≤1099511627776) (hx:x<4294967296):aJ true Tryz.prog 50 [] [.one (.t (sU false (dg 4294967296 u))),.one (.t (sU false [x]))] (bC (.one (.t (sU true (dg 4294967296 (u+x)))))):=by
 have h1:=Ic (bE (by omega) u) (Lim.cons hx Lim.nil) h (by simp)
 rw[bL (by omega)]at h1
 have e:vl 4294967296 [x]=x:=by simp[vl]
 rwa[e]at h1
end Go.Proofs.YteggpgndiajdpaaGreatDoor
