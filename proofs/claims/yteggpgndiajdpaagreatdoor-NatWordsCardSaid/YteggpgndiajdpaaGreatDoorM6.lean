/- Part 6 of a proof: Nat4 to P0. -/
import Derived.Test.YteggpgndiajdpaaGreatDoorM5
import Derived.Deep.LoopGhost
import Derived.Deep.Cut
import Derived.Deep.CutRange
import Derived.Deep.DeepCutAuto
import Derived.Test.YteggpgndiajdpaaGreatDoorM1
import Derived.KernelRfl
import Derived.Test.YteggpgndiajdpaaGreatDoorProg
import Derived.Test.YteggpgndiajdpaaGreatDoorM4
import Derived.Shelf.Strings.Trim
import Derived.Shelf.Strings.SlTrimAscii
set_option maxRecDepth 100000
set_option linter.unusedVariables false
set_option linter.unusedSimpArgs false
namespace Go.Proofs.YteggpgndiajdpaaGreatDoor
open Go Go.RowKit
theorem rS {l:List Nat}{m:Nat}(h:vl 4294967296 l<4294967296^m):vl 4294967296 (l.take m)=vl 4294967296 l∧vl 4294967296 (l.drop m)=0:=by
 by_cases hm:m≤l.length
 ·have e:=gV 4294967296 l m hm
  have:vl 4294967296 (l.drop m)=0:=by
   rcases Nat.eq_zero_or_pos (vl 4294967296 (l.drop m))with h0 | h0
   ·exact h0
   have:4294967296^m*1≤4294967296^m*vl 4294967296 (l.drop m):=Nat.mul_le_mul_left _ h0
   omega
  rw[this,Nat.mul_zero,Nat.add_zero]at e
  exact⟨e.symm,this⟩
 rw[List.take_of_length_le (by omega),List.drop_eq_nil_of_le (by omega)]
 exact⟨rfl,rfl⟩
def DMInv (a0 os qs ys:List Nat) (k:Nat):Prop:=
 os.length=a0.length∧(∀j,j<k→nth os j=nth a0 j)∧vl 4294967296 (os.drop k)<vl 4294967296 ys∧vl 4294967296 (a0.drop k)=vl 4294967296 (qs.drop k)*vl 4294967296 ys+vl 4294967296 (os.drop k)
theorem DMInv.top {a ys:List Nat}{Q:Nat}(ha:Lim 4294967296 a) (hQ:Q+ys.length=a.length+1) (hy:ys.length≠0) (hv:4294967296^(ys.length-1)≤vl 4294967296 ys):
  DMInv (a++[0]) (a++[0]) (List.replicate Q 0) ys Q:=by
 refine⟨rfl,fun _ _=>rfl,?_,?_⟩
 ·have e:(a++[0]).drop Q=a.drop Q++[0]:=by rw[List.drop_append_of_le_length (by omega)]
  rw[e,dX,Nat.mul_zero,Nat.add_zero]
  have:=cW (ha.drop Q)
  rw[List.length_drop,show a.length-Q=ys.length-1 by omega]at this
  omega
 have e:(List.replicate Q 0).drop Q=[]:=List.drop_eq_nil_of_le (by simp)
 rw[e,Hl,Nat.zero_mul,Nat.zero_add]
theorem DMInv.window {a0 os qs ys:List Nat}{i:Nat}(h:DMInv a0 os qs ys (i+1)) (hi:i<os.length) (hy:Lim 4294967296 ys) (ho:Lim 4294967296 os):
  vl 4294967296 ((os.drop i).take (ys.length+1))=vl 4294967296 (os.drop i)∧vl 4294967296 (os.drop i)=nth os i+4294967296*vl 4294967296 (os.drop (i+1))∧
   vl 4294967296 (os.drop i)<vl 4294967296 ys*4294967296∧vl 4294967296 ((os.drop i).drop (ys.length+1))=0:=by
 obtain⟨h1,h2,h3,h4⟩:=h
 have e:=cU 4294967296 (l:=os) (k:=i+1) (by omega) (by omega)
 rw[show i+1-1=i by omega]at e
 have o1:=ho.nth (by omega) i
 have hv:=cW hy
 have hlt:vl 4294967296 (os.drop i)<vl 4294967296 ys*4294967296:=by
  rw[e]
  generalize vl 4294967296 (os.drop (i+1))=r at*
  generalize vl 4294967296 ys=v at*
  omega
 have hp:vl 4294967296 (os.drop i)<4294967296^(ys.length+1):=by
  rw[Nat.pow_succ]
  exact Nat.lt_of_lt_of_le hlt (Nat.mul_le_mul_right _ (Nat.le_of_lt hv))
 obtain⟨t1,t2⟩:=rS hp
 exact⟨t1,e,hlt,t2⟩
theorem qH {a b:List Nat}(hl:a.length=b.length){k:Nat}(h:∀j,k≤j→nth a j=nth b j):a.drop k=b.drop k:=by
 apply List.ext_getElem
 ·simp[hl]
 intro i h1 h2
 rw[List.length_drop]at h1 h2
 have:=h (k+i) (by omega)
 rw[aU (by omega),aU (by omega)]at this
 simpa using this
theorem jS {a b:List Nat}{i:Nat}(h:a.take i=b.take i){j:Nat}(hj:j<i):nth a j=nth b j:=by
 have e:∀l:List Nat,nth (l.take i) j=nth l j:=fun l=>by
  unfold nth
  rw[List.getD_eq_getElem?_getD,List.getD_eq_getElem?_getD,List.getElem?_take,if_pos hj]
 rw[←e a,←e b,h]
theorem DMInv.step {a0 os qs ys os':List Nat}{i:Nat}(h:DMInv a0 os qs ys (i+1)) (hi:i<os.length) (hq:i<qs.length) (hy:Lim 4294967296 ys) (ho:Lim 4294967296 os) (hv:0<vl 4294967296 ys)
  (hl:os'.length=os.length) (ht:os'.take i=os.take i) (hhi:∀j,i+(ys.length+1)≤j→nth os' j=nth os j)
  (hr:vl 4294967296 ((os'.drop i).take (ys.length+1))=vl 4294967296 ((os.drop i).take (ys.length+1))%vl 4294967296 ys) (hN:i+(ys.length+1)≤os.length):
  DMInv a0 os' (qs.set i (vl 4294967296 ((os.drop i).take (ys.length+1))/vl 4294967296 ys)) ys i:=by
 obtain⟨w1,w2,w3,w4⟩:=h.window hi hy ho
 obtain⟨h1,h2,h3,h4⟩:=h
 have hd:(os'.drop i).drop (ys.length+1)=(os.drop i).drop (ys.length+1):=by
  rw[List.drop_drop,List.drop_drop]
  exact qH hl hhi
 have hv':vl 4294967296 (os'.drop i)=vl 4294967296 (os.drop i)%vl 4294967296 ys:=by
  rw[gV 4294967296 (os'.drop i) (ys.length+1) (by rw[List.length_drop];omega),hd,w4,hr,w1]
  omega
 have e:=cU 4294967296 (l:=a0) (k:=i+1) (by omega) (by omega)
 rw[show i+1-1=i by omega]at e
 have e2:=cU 4294967296 (l:=qs.set i (vl 4294967296 ((os.drop i).take (ys.length+1))/vl 4294967296 ys)) (k:=i+1) (by omega) (by rw[List.length_set];omega)
 have e3:(qs.set i (vl 4294967296 ((os.drop i).take (ys.length+1))/vl 4294967296 ys)).drop (i+1)=qs.drop (i+1):=by rw[List.drop_set,if_pos (by omega)]
 rw[show i+1-1=i by omega,oO hq,e3]at e2
 refine⟨by omega,fun j hj=>by rw[jS ht hj];exact h2 j (by omega),by rw[hv'];exact Nat.mod_lt _ hv,?_⟩
 rw[e,e2,hv',h4,←h2 i (by omega),w1]
 have hdm:=Nat.div_add_mod (vl 4294967296 (os.drop i)) (vl 4294967296 ys)
 rw[w2]at hdm⊢
 generalize vl 4294967296 (os.drop (i+1))=r at*
 generalize vl 4294967296 ys=v at*
 generalize vl 4294967296 (qs.drop (i+1))=q at*
 generalize (nth os i+4294967296*r)/v=d at*
 generalize (nth os i+4294967296*r)%v=m at*
 grind
theorem DMInv.end_ {a0 os qs ys:List Nat}(h:DMInv a0 os qs ys 0) (hv:0<vl 4294967296 ys):vl 4294967296 qs=vl 4294967296 a0/vl 4294967296 ys∧vl 4294967296 os=vl 4294967296 a0%vl 4294967296 ys:=by
 obtain⟨_,_,h3,h4⟩:=h
 simp only[List.drop_zero]at h3 h4
 exact Bb hv (by omega) h3
theorem Gj {l:List Nat}{m:Nat}(h:l.length=m+3):vl 4294967296 l=((nth l (m+2)*4294967296+nth l (m+1))*4294967296+nth l m)*4294967296^m+vl 4294967296 (l.take m):=by
 have e1:=aF 4294967296 l m
 have e2:=aF 4294967296 l (m+1)
 have e3:=aF 4294967296 l (m+1+1)
 rw[aL 4294967296 (l:=l) (by omega)]at e3
 rw[e3,e2,e1]
 simp only[Nat.pow_succ]
 generalize 4294967296^m=p at*
 grind
theorem Gk {l:List Nat}{m:Nat}(h:l.length=m+2):vl 4294967296 l=(nth l (m+1)*4294967296+nth l m)*4294967296^m+vl 4294967296 (l.take m):=by
 have e1:=aF 4294967296 l m
 have e2:=aF 4294967296 l (m+1)
 rw[aL 4294967296 (l:=l) (by omega)]at e2
 rw[e2,e1]
 simp only[Nat.pow_succ]
 generalize 4294967296^m=p at*
 grind
theorem Gl {B p f s hi mid low v' ul:Nat}(hs:s<B) (hv:v'<p) (hlt:((hi*B+mid)*B+low)*p+ul<((f*B+s)*p+v')*B):hi≤f:=by
 rcases Nat.lt_or_ge f hi with h | h
 ·exfalso
  have hB:0<B:=by omega
  have h1:(f*B+s)*p+v'<(f*B+s+1)*p:=by rw[Nat.succ_mul];omega
  have h2:=Nat.mul_lt_mul_of_pos_right h1 hB
  have h3:f*B+s+1≤(f+1)*B:=by rw[Nat.succ_mul];omega
  have h4:=Nat.mul_le_mul_right B (Nat.mul_le_mul_right p h3)
  have h5:=Nat.mul_le_mul_right B (Nat.mul_le_mul_right p (Nat.mul_le_mul_right B h))
  have h6:hi*B*p*B=hi*B*B*p:=by rw[Nat.mul_assoc (hi*B) p B,Nat.mul_comm p B,←Nat.mul_assoc]
  have h7:hi*B*B*p≤((hi*B+mid)*B+low)*p:=Nat.mul_le_mul_right _ (by rw[Nat.add_mul];omega)
  have h8:(f+1)*B*p*B≤hi*B*p*B:=h5
  omega
 exact h
theorem uG {u:List Nat}{ys:List Nat}{m:Nat}(hu:Lim 4294967296 u) (hul:u.length=m+3) (hy:Lim 4294967296 ys) (hyl:ys.length=m+2) (hf:2147483648≤nth ys (m+1)) (hlt:vl 4294967296 u<vl 4294967296 ys*4294967296):
  nth u (m+2)≤nth ys (m+1)∧
  vl 4294967296 u/vl 4294967296 ys≤bY ((nth u (m+2)*4294967296+nth u (m+1))*4294967296+nth u m) (nth ys (m+1)*4294967296+nth ys m)∧
  bY ((nth u (m+2)*4294967296+nth u (m+1))*4294967296+nth u m) (nth ys (m+1)*4294967296+nth ys m)≤vl 4294967296 u/vl 4294967296 ys+1:=by
 have e1:=Gj hul
 have e2:=Gk hyl
 have l1:=cW (hu.take m)
 have l2:=cW (hy.take m)
 rw[List.length_take,Nat.min_eq_left (by omega)]at l1 l2
 have y1:=hy.nth (by omega) m
 refine⟨?_,yU e1 l1 e2 l2 (by omega) hlt⟩
 rw[e1,e2]at hlt
 exact Gl y1 l2 hlt
def Apart (A1 A2:Option Addr):Prop:=∀a b,A1=some a→A2=some b→a.block≠b.block
theorem Apart.left (A:Option Addr):Apart none A:=fun _ _ h=>by cases h
theorem Apart.right (A:Option Addr):Apart A none:=fun _ _ _ h=>by cases h
theorem Apart.symm {A1 A2:Option Addr}(h:Apart A1 A2):Apart A2 A1:=fun a b ha hb e=>h b a hb ha e.symm
theorem Apart.of {t:TypeId}{w0 w1:World}{b1 b2 n1 c1 n2 c2:Nat}{A1 A2:Option Addr}{xs ys:List Nat}(h1:Own t w0 b1 A1 n1 c1 xs) (h2:Own t w1 b2 A2 n2 c2 ys) (h:w0.heap.size≤b2):Apart A1 A2:=by
 rintro a b rfl rfl e
 rcases h1.row.2 with⟨hh,_⟩ | ⟨g,cap,cur,hv,_,hg,_⟩
 ·cases hh
 rcases h2.row.2 with⟨hh,_⟩ | ⟨g2,cap2,cur2,hv2,hb2,_⟩
 ·cases hh
 injection hv with e1
 injection e1 with e1
 injection hv2 with e2
 injection e2 with e2
 subst e1;subst e2
 have:=(Array.getElem?_eq_some_iff.1 hg).1
 dsimp only at e
 omega
def sC (q r:List Nat) (e1:Nat) (w:World) (e:Ending) (w':World):Prop:=
 ∃A1 n1 c1 A2 n2 c2,e=.returned (.tuple #[.slice A1 n1 c1,.slice A2 n2 c2,.int .i64 (e1:Int)])∧Own 22 w' w.heap.size A1 n1 c1 q∧Own 22 w' w.heap.size A2 n2 c2 r∧Apart A1 A2∧Below w.heap.size w w'
set_option maxHeartbeats 1000000 in
theorem rU (A B:Option Addr) (n m c d:Nat) (xs ys:List Nat) (w:World) (ha:U32 w w.heap.size A n c xs) (hb:U32 w w.heap.size B m d ys) (hn:n≤549755813888) (hm:m≤549755813888) (hlt:vl 4294967296 xs<vl 4294967296 ys):
  Calls Tryz.prog 45 #[.slice A n c,.slice B m d] w (sC (dg 4294967296 (vl 4294967296 xs/vl 4294967296 ys)) (dg 4294967296 (vl 4294967296 xs%vl 4294967296 ys)) 0 w):=by
 have e1:=Lib.hid (jQ hlt)
 have e2:=Lib.hid (Nat.div_eq_of_lt hlt)
 have e3:=Lib.hid (Nat.mod_eq_of_lt hlt)
 have e4:=Lib.hid (cZ (by omega) ha.lim:dg 4294967296 (vl 4294967296 xs)=trim xs)
 have hy:trim ys≠[]:=fun e=>by
  have:=(cY 4294967296 (by omega) ys).1 e
  omega
 go_enter Tryz.func45,Tryz.ntmps45
 go_wp2_with fail
 refine(cR _ _ _ xs _ ha (by omega)).mono ?_
 rintro e w1 ⟨A1,n1,c1,rfl,h1,hb1⟩
 go_wp2_with fail
 refine(cR _ _ _ ys _ (hb.now hb1) (by omega)).mono ?_
 rintro e w2 ⟨A2,n2,c2,rfl,h2,hb2⟩
 have hn2:0<n2:=by
  rw[←h2.len]
  exact List.length_pos_iff.2 hy
 have hq:((n2:Int)==0)=false:=by rw[beq_eq_false_iff_ne];omega
 have h3:=h1.below hb2
 have hb3:=hb1.trans (hb2.mono hb1.size)
 clear hy
 go_wp2_with fail
 refine(nV _ _ _ _ _ _ _ _ _ _ h3.u32 h2.u32).mono ?_
 rintro e w' ⟨rfl,q,rfl⟩
 rw[bO,bO,e1.out]
 go_wp2_with fail
 go_ret3
 refine⟨none,0,0,A1,n1,c1,rfl,by rw[e2.out];exact Own.nil,by rw[e3.out,e4.out];exact h3.drew_base,Apart.left _,dY hb3 _⟩
set_option maxHeartbeats 1000000 in
theorem qI (A B:Option Addr) (n m c d y:Nat) (xs ys:List Nat) (w:World) (ha:U32 w w.heap.size A n c xs) (hb:U32 w w.heap.size B m d ys) (hn:n≤549755813888) (hm:m≤549755813888) (hle:vl 4294967296 ys≤vl 4294967296 xs) (ht:trim ys=[y]):
  Calls Tryz.prog 45 #[.slice A n c,.slice B m d] w (sC (dg 4294967296 (vl 4294967296 xs/vl 4294967296 ys)) (dg 4294967296 (vl 4294967296 xs%vl 4294967296 ys)) 0 w):=by
 have hy1:vl 4294967296 ys=y:=by rw[←bO,ht,sG]
 have hyl:y<4294967296:=by
  have:=hb.lim.trim
  rw[ht]at this
  exact this.head
 have hy0:y≠0:=by
  have:=iK (iJ ys) (by rw[ht];simp)
  simpa[ht]using this
 have hge:¬iD (vl 4294967296 (trim xs)) (vl 4294967296 (trim ys))<0:=by
  rw[bO,bO]
  rcases Nat.lt_or_ge (vl 4294967296 ys) (vl 4294967296 xs)with h | h
  ·rw[gS h];omega
  rw[qG (by omega)];omega
 have htl:=bQ xs
 rw[ha.len]at htl
 have hx1:=bO 4294967296 xs
 rw[hy1]
 have HT:=Lib.hid ht
 clear ht hle hy1
 go_enter Tryz.func45,Tryz.ntmps45
 go_wp2_with fail
 refine(cR _ _ _ xs _ ha (by omega)).mono ?_
 rintro e w1 ⟨A1,n1,c1,rfl,h1,hb1⟩
 have H1:=Lib.hid h1.len
 go_wp2_with fail
 refine(cR _ _ _ ys _ (hb.now hb1) (by omega)).mono ?_
 rintro e w2 ⟨A2,n2,c2,rfl,h2,hb2⟩
 obtain rfl:n2=1:=by rw[←h2.len,HT.out];rfl
 have h3:=h1.below hb2
 have hb3:=hb1.trans (hb2.mono hb1.size)
 clear hb1 hb2 h1
 obtain⟨g,rfl,hg1,hg2⟩:=h2.form (by omega)
 have hc:=h2.cell (j:=0) (by omega)
 rw[HT.out,show nth [y] 0=y from rfl]at hc
 have HX:=Lib.hid hx1
 clear hx1
 go_wp2_with fail
 refine(nV _ _ _ _ _ _ _ _ _ _ h3.u32 h2.u32).mono ?_
 rintro e w' ⟨rfl,q,rfl⟩
 go_wp2_with fail
 refine(gJ _ _ _ _ _ (w2.drewN q) h3.drew_base.u32 (by rw[←H1.out];omega) (by omega) hyl).mono ?_
 rintro e w3 ⟨A3,n3,c3,rfl,h4,hb4⟩
 have hb5:Below w.heap.size w w3:=(dY hb3 q).trans (hb4.mono hb3.size)
 have hr:vl 4294967296 (trim xs)%y<4294967296:=Nat.lt_trans (Nat.mod_lt _ (by omega)) hyl
 clear hb4
 go_wp2_with fail
 have hU:U32 (w3.alloc (.cells #[.int .u32 (vl 4294967296 (trim xs)%y:Nat)] 22)) (w3.alloc (.cells #[.int .u32 (vl 4294967296 (trim xs)%y:Nat)] 22)).heap.size (some ⟨w3.heap.size,0,none⟩) 1 1 [vl 4294967296 (trim xs)%y]:=by
  refine⟨⟨rfl,Nat.le_refl _,by omega,fun _=>⟨_,rfl,by simp,fun k u hu=>?_⟩⟩,Lim.cons hr Lim.nil⟩
  have hk:k=0:=by
   rcases Nat.eq_zero_or_pos k with h | h
   ·exact h
   rw[List.getElem?_eq_none (by rw[dP];exact h)]at hu;cases hu
  subst hk
  rw[show(⟨w3.heap.size,0,none⟩:Addr).add 0=⟨w3.heap.size,0,none⟩ from rfl,jW _ _ _ 0 rfl]
  exact hu
 refine(cR _ _ _ [vl 4294967296 (trim xs)%y] _ hU (by omega)).mono ?_
 rintro e w4 ⟨A4,n4,c4,rfl,h5,hb6⟩
 have hbA:Below w3.heap.size w3 (w3.alloc (.cells #[.int .u32 (vl 4294967296 (trim xs)%y:Nat)] 22)):=eF _ _
 have hb7:=hbA.trans (hb6.mono hbA.size)
 go_wp2_with fail
 go_ret3
 refine⟨_,_,_,_,_,_,rfl,?_,?_,?_,hb5.trans (hb7.mono hb5.size)⟩
 ·have:=(h4.below hb7).base_le hb3.size
  rwa[HX.out]at this
 ·have:=h5.base_le (base':=w.heap.size) (Nat.le_trans hb5.size hbA.size)
  rw[←cZ (by omega) (Lim.cons hr Lim.nil),sG,HX.out]at this
  exact this
 exact Apart.of h4 h5 hbA.size
theorem Gm {P:Program}{f:FuncId}{args:Array Value}{w:World}{n:Nat}{v:Value}
  (h:Calls P f args (w.drewN n) fun e w'=>e=.returned v∧∃m,w'=(w.drewN n).drewN m):
  Calls P f args (w.drewN n) fun e w''=>e=.returned v∧∃m,w''=w.drewN m:=
 h.mono fun _ _ ⟨he,m,hm⟩=>⟨he,n+m,by rw[hm,World.drewN_drewN]⟩
theorem oT (A:Option Addr) (n c up R:Nat) (xs:List Nat) (w:World) (ha:U32 w w.heap.size A n c xs) (hv:vl 4294967296 xs=R*2^up) (hn:n≤1099511627775) (hup:up<32):
  Calls Tryz.prog 95 #[.slice A n c,.int .i64 (-(up:Int))] w (oP (dg 4294967296 R) 0 w):=by
 have hP:0<2^up:=Nat.pos_of_ne_zero (by simp)
 rcases Nat.eq_zero_or_pos R with h0 | h0
 ·subst h0
  exact oR A n c _ xs w ha (by rw[hv,Nat.zero_mul])
 have hne:R*2^up≠0:=Nat.pos_iff_ne_zero.1 (Nat.mul_pos h0 hP)
 rcases Nat.eq_zero_or_pos up with h1 | h1
 ·subst h1
  rw[show(-((0:Nat):Int))=((0:Nat):Int) from rfl]
  have:=gK A n c 0 R xs w ha (by rw[hv];simp) hn (by omega) (by omega)
  simpa using this
 have:=oS A n c up (R*2^up) xs w ha hv hn h1 hup hne
 rwa[Nat.mul_div_cancel _ hP]at this
theorem Ki (w:World) (v:Nat):Rd (w.alloc (.cells #[.int .u32 (v:Int)] 22)) (w.heap.size+1) 1 (some ⟨w.heap.size,0,none⟩) 1 1 (cI [v]):=by
 refine⟨rfl,Nat.le_refl _,by omega,fun _=>⟨_,rfl,by simp,fun k u hu=>?_⟩⟩
 have hk:k=0:=by
  rcases Nat.eq_zero_or_pos k with h | h
  ·exact h
  rw[List.getElem?_eq_none (by rw[dP];exact h)]at hu;cases hu
 subst hk
 rw[show(⟨w.heap.size,0,none⟩:Addr).add 0=⟨w.heap.size,0,none⟩ from rfl,jW _ _ _ 0 rfl]
 exact hu
theorem Be {ys:List Nat}{lb up:Nat}(hy:Lim 4294967296 ys) (hl:ys.length=lb) (h2:2≤lb) (hup:up<32) (u2:2147483648≤nth ys (lb-1)*2^up) (u3:nth ys (lb-1)*2^up<4294967296):
  (dg 4294967296 (vl 4294967296 ys*2^up)).length=lb∧2147483648≤nth (dg 4294967296 (vl 4294967296 ys*2^up)) (lb-1)∧0<vl 4294967296 ys∧4294967296^(lb-1)≤vl 4294967296 ys*2^up:=by
 have e:=aF 4294967296 ys (lb-1)
 rw[show lb-1+1=lb by omega,aL 4294967296 (l:=ys) (by omega)]at e
 have hlow:=cW (hy.take (lb-1))
 rw[List.length_take,Nat.min_eq_left (by omega)]at hlow
 have hB:0<4294967296^(lb-1):=Nat.pos_of_ne_zero (by simp)
 have hP:0<2^up:=Nat.pos_of_ne_zero (by simp)
 have hpow:2^up*2^(32-up)=4294967296:=by rw[←Nat.pow_add,show up+(32-up)=32 by omega]
 have htop:(nth ys (lb-1)+1)*2^up≤4294967296:=by
  rw[←hpow]at u3⊢
  rw[Nat.mul_comm]at u3
  have:=Nat.lt_of_mul_lt_mul_left u3
  rw[Nat.mul_comm]
  exact Nat.mul_le_mul_left _ this
 have hge:2147483648*4294967296^(lb-1)≤vl 4294967296 ys*2^up:=by
  rw[e,Nat.add_mul]
  have:2147483648*4294967296^(lb-1)≤nth ys (lb-1)*2^up*4294967296^(lb-1):=Nat.mul_le_mul_right _ u2
  have e2:nth ys (lb-1)*2^up*4294967296^(lb-1)=4294967296^(lb-1)*nth ys (lb-1)*2^up:=by
   rw[Nat.mul_assoc,Nat.mul_comm (2^up),←Nat.mul_assoc,Nat.mul_comm (nth ys (lb-1))]
  omega
 have hlt:vl 4294967296 ys*2^up<4294967296^lb:=by
  have h1:vl 4294967296 ys<(nth ys (lb-1)+1)*4294967296^(lb-1):=by rw[Nat.succ_mul,Nat.mul_comm (nth ys (lb-1)),e];omega
  have h2:=Nat.mul_lt_mul_of_pos_right h1 hP
  have h3:(nth ys (lb-1)+1)*4294967296^(lb-1)*2^up=(nth ys (lb-1)+1)*2^up*4294967296^(lb-1):=by
   rw[Nat.mul_assoc,Nat.mul_comm (4294967296^(lb-1)),←Nat.mul_assoc]
  have h4:(nth ys (lb-1)+1)*2^up*4294967296^(lb-1)≤4294967296*4294967296^(lb-1):=Nat.mul_le_mul_right _ htop
  have h5:4294967296^lb=4294967296*4294967296^(lb-1):=by rw[←Nat.pow_succ',show(lb-1).succ=lb by omega]
  omega
 have hpos:0<vl 4294967296 ys:=by
  rcases Nat.eq_zero_or_pos (vl 4294967296 ys)with h | h
  ·rw[h]at hge;omega
  exact h
 generalize vl 4294967296 ys*2^up=v at*
 have hlen:(dg 4294967296 v).length=lb:=by
  have h1:=aH (B:=4294967296) (by omega) hlt
  have h2:=eS (B:=4294967296) (n:=v) (by omega)
  rcases Nat.lt_or_ge (dg 4294967296 v).length lb with h | h
  ·have:4294967296^(dg 4294967296 v).length≤4294967296^(lb-1):=Nat.pow_le_pow_right (by omega) (by omega)
   omega
  omega
 refine⟨hlen,?_,hpos,by omega⟩
 have e3:=aF 4294967296 (dg 4294967296 v) (lb-1)
 rw[show lb-1+1=lb by omega,aL 4294967296 (l:=dg 4294967296 v) (by omega),bL (by omega)]at e3
 have h6:=cW ((bF (B:=4294967296) (by omega) v).take (lb-1))
 rw[List.length_take,Nat.min_eq_left (by omega)]at h6
 rcases Nat.lt_or_ge (nth (dg 4294967296 v) (lb-1)) 2147483648 with h | h
 ·exfalso
  have h7:4294967296^(lb-1)*nth (dg 4294967296 v) (lb-1)≤4294967296^(lb-1)*2147483647:=Nat.mul_le_mul_left _ (by omega)
  omega
 exact h
set_option maxHeartbeats 4000000 in
theorem oU (A B:Option Addr) (n m c d:Nat) (xs ys:List Nat) (w:World) (ha:U32 w w.heap.size A n c xs) (hb:U32 w w.heap.size B m d ys) (hn:n≤549755813888) (hm:m≤549755813888) (hle:vl 4294967296 ys≤vl 4294967296 xs) (h2:2≤(trim ys).length):
    Calls Tryz.prog 45 #[.slice A n c,.slice B m d] w (sC (dg 4294967296 (vl 4294967296 xs/vl 4294967296 ys)) (dg 4294967296 (vl 4294967296 xs%vl 4294967296 ys)) 0 w):=by
  have hge:¬iD (vl 4294967296 (trim xs)) (vl 4294967296 (trim ys))<0:=by
    rw[bO,bO]
    rcases Nat.lt_or_ge (vl 4294967296 ys) (vl 4294967296 xs)with h | h
    · rw[gS h];omega
    rw[qG (by omega)];omega
  have htl:=bQ xs
  have hty:=bQ ys
  rw[ha.len]at htl
  rw[hb.len]at hty
  obtain⟨la,hla⟩:∃la,(trim xs).length=la:=⟨_,rfl⟩
  obtain⟨lb,hlb⟩:∃lb,(trim ys).length=lb:=⟨_,rfl⟩
  rw[hla]at htl
  rw[hlb]at hty h2
  have hlast:nth (trim ys) (lb-1)≠0:=by
    have h:=iK (iJ ys) (by intro e;rw[e]at hlb;simp at hlb;omega)
    rw[List.getLast_eq_getElem]at h
    rw[aU (by omega)]
    simpa[hlb]using h
  have hlim:=hb.lim.trim.nth (by omega) (lb-1)
  obtain⟨up,u1,u2,u3,hlz⟩:∃up:Nat,up<32∧2147483648≤nth (trim ys) (lb-1)*2^up∧nth (trim ys) (lb-1)*2^up<4294967296∧
      ∀w:World,Calls Tryz.prog 94 #[.int .u32 (nth (trim ys) (lb-1):Int)] w fun e w'=>e=.returned (.int .i64 (up:Int))∧w=w':=by
    obtain⟨k,e,k1,k2,k3⟩:=rL hlim hlast
    refine⟨k,k1,k2,k3,fun w=>(Any.bits_LeadingZeros32 Bd _ w (by omega) (by omega)).mono fun _ _ ⟨h1,h2⟩=>⟨?_,h2.symm⟩⟩
    rw[h1,←e]
    rfl
  obtain⟨n1,n2,n3,n4⟩:=Be hb.lim.trim hlb h2 u1 u2 u3
  rw[bO]at n1 n2 n3 n4
  have hX:vl 4294967296 (trim xs)=vl 4294967296 xs:=bO _ _
  have hY:vl 4294967296 (trim ys)=vl 4294967296 ys:=bO _ _
  generalize vl 4294967296 xs=X at*
  generalize vl 4294967296 ys=Y at*
  have hx0:X≠0:=by omega
  have hlaX:lb≤(dg 4294967296 (X*2^up)).length:=by
    rw[←n1];exact cD (by omega) (Nat.mul_le_mul_right _ hle)
  have hlaX2:(dg 4294967296 (X*2^up)).length≤la+1:=by
    apply aH (by omega)
    rw[Nat.pow_succ]
    have h1:=cW ha.lim.trim
    rw[hX,hla]at h1
    exact Nat.mul_lt_mul_of_lt_of_lt h1 (Nat.lt_of_lt_of_le (Nat.pow_lt_pow_right (by omega) u1) (by decide))
  obtain⟨lx,hlx⟩:∃lx,(dg 4294967296 (X*2^up)).length=lx:=⟨_,rfl⟩
  rw[hlx]at hlaX hlaX2
  have HLA:=Lib.hid hla
  have HLB:=Lib.hid hlb
  have HLX:=Lib.hid hlx
  have HN1:=Lib.hid n1
  have HX:=Lib.hid hX
  have HY:=Lib.hid hY
  have hq0:((lb:Int)==0)=false:=by rw[beq_eq_false_iff_ne];omega
  have hq1:((lb:Int)==1)=false:=by rw[beq_eq_false_iff_ne];omega
  clear hla hlb hlx n1 hX hY
  go_enter Tryz.func45,Tryz.ntmps45
  go_wp2_with fail
  refine(cR _ _ _ xs _ ha (by omega)).mono ?_
  rintro e w1 ⟨A1,k1,c1,rfl,h1,hb1⟩
  obtain rfl:k1=la:=by rw[←h1.len,HLA.out]
  go_wp2_with fail
  refine(cR _ _ _ ys _ (hb.now hb1) (by omega)).mono ?_
  rintro e w2 ⟨A2,k2,c2,rfl,h2',hb2⟩
  obtain rfl:k2=lb:=by rw[←h2'.len,HLB.out]
  have h3:=h1.below hb2
  have hb3:=hb1.trans (hb2.mono hb1.size)
  clear hb1 hb2 h1
  obtain⟨g,rfl,hg1,hg2⟩:=h2'.form (by omega)
  have hc:=h2'.cell (j:=k2-1) (by omega)
  go_wp2_with fail
  refine(nV _ _ _ _ _ _ _ _ _ _ h3.u32 h2'.u32).mono ?_
  rintro e w' ⟨rfl,q,rfl⟩
  go_wp2_with fail
  refine(hlz _).mono ?_
  rintro e w' ⟨rfl,rfl⟩
  go_wp2_with fail
  refine(gK _ _ _ _ _ _ (w2.drewN q) h2'.drew_base.u32 HY.out (by omega) u1 (by omega)).mono ?_
  rintro e w3 ⟨A3,k3,c3,rfl,h4,hb4⟩
  obtain rfl:k3=k2:=by rw[←h4.len,HN1.out]
  have h5:=h3.drew_base.below hb4
  have hb5:Below w.heap.size w w3:=(dY hb3 q).trans (hb4.mono hb3.size)
  clear hb4 h3 h2' hc hb3
  go_wp2_with fail
  refine(gK _ _ _ _ _ _ _ h5.u32 HX.out (by omega) u1 hx0).mono ?_
  rintro e w4 ⟨A4,k4,c4,rfl,h6,hb6⟩
  obtain rfl:k4=lx:=by rw[←h6.len,HLX.out]
  have hb7:=hb5.trans (hb6.mono hb5.size)
  have hz6:=hb6.size
  obtain⟨Q,hQ⟩:∃Q,Q+k3=k4+1:=⟨k4+1-k3,by omega⟩
  have hQ1:1≤Q:=by omega
  have hQ2:Q≤k4+1:=by omega
  have hQ3:(Q:Int)=(k4:Int)+1-k3:=by omega
  have HQ:=Lib.hid hQ
  have HQ3:=Lib.hid hQ3
  clear hQ hQ3
  have h7:=(h6.below (eF w4 (.cells #[.int .u32 ((0:Nat):Int)] 22))).row
  go_wp2_with (first
    | (at_builtin
       refine gM _ iC rfl (.tmp 63) (.tmp 64) rfl w3.heap.size _ k4 _ rfl h7 _ _ 1 1 _ rfl (Ki w4 0) (mH _) (by omega) (by omega) (by simp;omega) ?_
       intro A5 c5 w5 hO5 hg5 hat5)
    | (refine fZ _ iC rfl (.tmp 69) (.tmp 69) rfl .i64 .i64 _ _ Q rfl rfl HQ3.out.symm HQ3.out.symm (by omega) (by omega) ?_
       intro w6 hO6 hb66 hz66))
  have oA:Own 22 w5 w3.heap.size A5 (k4+1) c5 (dg 4294967296 (X*2^up)++[0]):=⟨by rw[nY];exact hO5,(bF (by omega) _).append (Lim.cons (by omega) Lim.nil)⟩
  have bA:Below w3.heap.size w3 w5:=iM (hb6.alloc hb6.size _) h7 hg5 (by simp;omega) (Nat.le_refl _)
  have bW:Below w.heap.size w w5:=hb5.trans (bA.mono hb5.size)
  obtain⟨ga,rfl,hga1,hga2⟩:=oA.form (by omega)
  have uB:=((h4.u32.below bA).more hga1).below (hb66.mono (Nat.le_of_lt hga2))
  have oA6:=oA.below hb66
  have oQ:=Own.made hO6
  have bW6:=bW.trans (hb66.mono bW.size)
  have hz5:=bW.size
  have hz3:=hb5.size
  obtain⟨gb,rfl,_,_⟩:=h4.form (by omega)
  have D0:=DMInv.top (a:=dg 4294967296 (X*2^up)) (ys:=dg 4294967296 (Y*2^up)) (Q:=Q) (bF (by omega) _) (by rw[HN1.out,HLX.out];exact HQ.out) (by rw[HN1.out];omega) (by rw[HN1.out,bL (by omega)];exact n4)
  have hN:=oA6.len
  have HN:=Lib.hid hN
  have hcA:k4+1≤c5:=oA6.u32.cap
  have hcB:c5≤9223372036854775807:=oA6.u32.big
  clear hN h7 hO5 hg5 hat5 hO6 oA bA bW hb6 hb7 h4 h5 h6 hb66 hlz
  obtain⟨mm,hmm⟩:∃mm,k3=mm+2:=⟨k3-2,by omega⟩
  have HMM:=Lib.hid hmm
  clear hmm
  go_loopw [12] (fun i wr=>∃(k:Nat) (os qs:List Nat),k≤Q∧i=.int .i64 ((k:Int)-1)∧Own 22 wr w3.heap.size (some ⟨ga,0,none⟩) (k4+1) c5 os∧Own 22 wr w5.heap.size (some ⟨w5.heap.size,0,none⟩) Q Q qs∧
      DMInv (dg 4294967296 (X*2^up)++[0]) os qs (dg 4294967296 (Y*2^up)) k∧Below ga w6 wr) (fun i _=>(intOf i+1).toNat)
  case atStart=>exact⟨Q,_,_,Nat.le_refl _,by go_num,oA6,oQ,D0,Below.refl _ _⟩
  case round=>
    obtain⟨k,os,qs,hk,rfl,hoA,hoQ,hD,hbB⟩:=hrel
    by_cases h0:0<k
    · obtain⟨i,rfl⟩:∃i,k=i+1:=⟨k-1,by omega⟩
      rw[show((i+1:Nat):Int)-1=(i:Int) from by omega]
      have hQ:=HQ.out
      have hbnd:i+k3+1≤k4+1:=by omega
      clear hQ
      have ca1:=hoA.cell (j:=i+k3) (by omega)
      have ca2:=hoA.cell (j:=i+k3-1) (by omega)
      have ca3:=hoA.cell (j:=i+k3-2) (by omega)
      have uB1:=uB.below hbB
      have cb1:=uB1.cell0 (j:=k3-1) (by omega)
      have cb2:=uB1.cell0 (j:=k3-2) (by omega)
      have hw:=hD.window (by rw[hoA.len];omega) (bF (by omega) _) hoA.lim
      have hgu:=uG (u:=(os.drop i).take (k3+1)) (ys:=dg 4294967296 (Y*2^up)) (m:=mm) ((hoA.lim.drop i).take _) (by rw[List.length_take,List.length_drop,hoA.len,HMM.out];have:=HMM.out;omega) (bF (by omega) _)
        (by rw[HN1.out,HMM.out]) (by rw[show mm+1=k3-1 by rw[HMM.out];omega];exact n2) (by rw[←HN1.out,hw.1];exact hw.2.2.1)
      have ne:∀j,j≤k3→nth ((os.drop i).take (k3+1)) j=nth os (i+j):=fun j hj=>by
        rw[←cV];exact jS (i:=k3+1) (by rw[List.take_take,Nat.min_self]) (by omega)
      have e0:mm+2=k3:=HMM.out.symm
      rw[ne (mm+2) (by omega),ne (mm+1) (by omega),ne mm (by omega),show mm+2=k3 from e0,show i+(mm+1)=i+k3-1 by omega,show i+mm=i+k3-2 by omega,show mm+1=k3-1 by omega,show mm=k3-2 by omega]at hgu
      obtain⟨hg1',hg2',hg3'⟩:=hgu
      clear e0 ne
      have lA:=hoA.lim
      have la1:=lA.nth (by omega) (i+k3-1)
      have la2:=lA.nth (by omega) (i+k3-2)
      have lb1:=(bF (B:=4294967296) (by omega) (Y*2^up)).nth (by omega) (k3-1)
      have lb2:=(bF (B:=4294967296) (by omega) (Y*2^up)).nth (by omega) (k3-2)
      have t0:(0:Int)≤(i:Int)+(k3:Int):=by omega
      have t1:(0:Int)≤(i:Int)+(k3:Int)-1:=by omega
      have t2:(0:Int)≤(i:Int)+(k3:Int)-2:=by omega
      have t3:(0:Int)≤(k3:Int)-1:=by omega
      have t4:(0:Int)≤(k3:Int)-2:=by omega
      have v0:(i:Int)+(k3:Int)<(k4:Int)+1:=by omega
      have v1:(i:Int)+(k3:Int)-1<(k4:Int)+1:=by omega
      have v2:(i:Int)+(k3:Int)-2<(k4:Int)+1:=by omega
      have v3:(k3:Int)-1<(k3:Int):=by omega
      have v4:(k3:Int)-2<(k3:Int):=by omega
      have s0:IntKind.i64.wrap ((i:Int)+(k3:Int))=(i:Int)+(k3:Int):=IntWalk.i64_in _ (by omega)
      have s1:IntKind.i64.wrap ((i:Int)+(k3:Int)-1)=(i:Int)+(k3:Int)-1:=IntWalk.i64_in _ (by omega)
      have s2:IntKind.i64.wrap ((i:Int)+(k3:Int)-2)=(i:Int)+(k3:Int)-2:=IntWalk.i64_in _ (by omega)
      have s3:IntKind.i64.wrap ((k3:Int)-1)=(k3:Int)-1:=IntWalk.i64_in _ (by omega)
      have s4:IntKind.i64.wrap ((k3:Int)-2)=(k3:Int)-2:=IntWalk.i64_in _ (by omega)
      have r0:((i:Int)+(k3:Int)).toNat=i+k3:=by omega
      have r1:((i:Int)+(k3:Int)-1).toNat=i+k3-1:=by omega
      have r2:((i:Int)+(k3:Int)-2).toNat=i+k3-2:=by omega
      have r3:((k3:Int)-1).toNat=k3-1:=by omega
      have r4:((k3:Int)-2).toNat=k3-2:=by omega
      go_wp2_with fail
      go_quiet ((go_at_call 96;exact Gm (Ba _ _ _ _ _ _ n2 lb1 hg1' la1 la2 lb2)))
      clear t0 t1 t2 t3 t4 v0 v1 v2 v3 v4 s0 s1 s2 s3 s4 r0 r1 r2 r3 r4 ca1 ca2 ca3 cb1 cb2
      go_wp2_with fail
      rw[show i+k3+1-i=k3+1 by omega]
      have oAn:Own 22 (wr.drewN nq) w3.heap.size (some ⟨ga,0,none⟩) (k4+1) c5 os:=hoA.drew_base
      have hYv:0<vl 4294967296 (dg 4294967296 (Y*2^up)):=by
        rw[bL (by omega)];exact Nat.mul_pos n3 (Nat.pos_of_ne_zero (by simp))
      refine(Dj ga i (k4+1) k3 c5 c3 (c5-i) _ _ os (dg 4294967296 (Y*2^up)) (k3+1) w3.heap.size (wr.drewN nq) oAn (by omega) (by omega) (uB1.below (dY (Below.refl _ _) _)) (by omega) (Nat.min_le_left _ _) hYv hg2' hg3').mono ?_
      rintro e w7 ⟨os',rfl,oA7,ht7,hh7,hv7,gr7⟩
      have hgq:w5.heap.size≠ga:=by omega
      have oQ7:=(hoQ.drew_base (k:=nq)).only gr7 hgq
      have oA8:=oA7.len
      have hst:=hD.step (i:=i) (os':=os') (by rw[hoA.len];omega) (by rw[hoQ.len];omega) (bF (by omega) _) hoA.lim hYv (by rw[oA8,hoA.len]) ht7 (fun j hj=>hh7 j (by rw[HN1.out]at hj;omega))
        (by rw[HN1.out];exact hv7) (by rw[HN1.out,hoA.len];omega)
      rw[HN1.out]at hst
      have hqv:vl 4294967296 ((os.drop i).take (k3+1))/vl 4294967296 (dg 4294967296 (Y*2^up))<4294967296:=
        Nat.lt_of_le_of_lt hg2' (Nat.lt_of_le_of_lt (Nat.min_le_left _ _) (by omega))
      have cq1:=oQ7.cell (j:=i) (by omega)
      have cq2:=oQ7.frozen i
      have oQ8:=oQ7.set i hqv
      have oA9:=oA7.only (g':=w5.heap.size) (gW (qQ w7 w5.heap.size) i (.int .u32 ((vl 4294967296 ((os.drop i).take (k3+1))/vl 4294967296 (dg 4294967296 (Y*2^up)):Nat):Int))) (Ne.symm hgq)
      have bb9:Below ga w6 w7:=(dY hbB nq).trans (jX gr7 (by have:=hbB.size;show ga≤wr.heap.size;omega))
      generalize vl 4294967296 ((os.drop i).take (k3+1))/vl 4294967296 (dg 4294967296 (Y*2^up))=qd at*
      clear oA8 hh7 ht7 hv7 hw hg2' hg3' hD
      go_wp2_with fail
      go_roundw
      case rel=>exact⟨i,os',_,by omega,by go_num,oA9,oQ8,hst,bb9.setCell (by show ga≤w5.heap.size;omega) _⟩
      case measure=>simp[intOf]
    obtain rfl:k=0:=by omega
    have hYv:0<vl 4294967296 (dg 4294967296 (Y*2^up)):=by
      rw[bL (by omega)];exact Nat.mul_pos n3 (Nat.pos_of_ne_zero (by simp))
    obtain⟨f1,f2⟩:=hD.end_ hYv
    have hPp:0<2^up:=Nat.pos_of_ne_zero (by simp)
    rw[dX,Nat.mul_zero,Nat.add_zero,bL (by omega),bL (by omega),Nat.mul_div_mul_right _ _ hPp]at f1
    rw[dX,Nat.mul_zero,Nat.add_zero,bL (by omega),bL (by omega),Nat.mul_mod_mul_right]at f2
    have F1:=Lib.hid f1
    have F2:=Lib.hid f2
    have bWr:Below w.heap.size w wr:=bW6.trans (hbB.mono (by omega))
    clear f1 f2 hD
    go_wp2_with fail
    refine(oT _ _ _ _ _ _ _ hoA.u32 F2.out (by omega) u1).mono ?_
    rintro e w8 ⟨A8,n8,c8,rfl,h8,hb8⟩
    have hoQ8:=hoQ.below hb8
    have bW8:=bWr.trans (hb8.mono bWr.size)
    go_wp2_with fail
    refine(cR _ _ _ _ _ hoQ8.u32 (by omega)).mono ?_
    rintro e w9 ⟨A9,n9,c9,rfl,h9,hb9⟩
    have bW9:=bW8.trans (hb9.mono bW8.size)
    go_wp2_with fail
    go_ret3
    refine⟨_,_,_,_,_,_,rfl,?_,(h8.below hb9).base_le bWr.size,(Apart.of h8 h9 (Nat.le_refl _)).symm,bW9⟩
    have:=h9.base_le (base':=w.heap.size) bW8.size
    rwa[←cZ (by omega) hoQ.lim,F1.out]at this
theorem yV (A B:Option Addr) (n m c d:Nat) (xs ys:List Nat) (w:World) (ha:U32 w w.heap.size A n c xs) (hb:U32 w w.heap.size B m d ys) (hn:n≤549755813888) (hm:m≤549755813888) (hy:vl 4294967296 ys≠0):
  Calls Tryz.prog 45 #[.slice A n c,.slice B m d] w (sC (dg 4294967296 (vl 4294967296 xs/vl 4294967296 ys)) (dg 4294967296 (vl 4294967296 xs%vl 4294967296 ys)) 0 w):=by
 rcases Nat.lt_or_ge (vl 4294967296 xs) (vl 4294967296 ys)with h | h
 ·exact rU A B n m c d xs ys w ha hb hn hm h
 match ht:trim ys with
 | []=>exact absurd ((cY 4294967296 (by omega) ys).1 ht) hy
 | [y]=>exact qI A B n m c d y xs ys w ha hb hn hm h ht
 | y::z::l=>exact oU A B n m c d xs ys w ha hb hn hm h (by rw[ht];simp)
structure URows (w:World) (B:Nat) (A:Option Addr) (n c:Nat) (rows:List (List Nat)):Prop where
 len:rows.length=n
 cap:n≤c
 big:c≤9223372036854775807
 cell:∀k,k<n→∃b o sp Ai ni ci,A=some ⟨b,o,sp⟩∧b<B∧w.cell? ((⟨b,o,sp⟩:Addr).add k)=some (.slice Ai ni ci)∧U32 w B Ai ni ci (rows.getD k [])
theorem URows.below {w w':World}{B n c:Nat}{A:Option Addr}{rows:List (List Nat)}(h:URows w B A n c rows) (hb:Below B w w'):URows w' B A n c rows:=
 ⟨h.len,h.cap,h.big,fun k hk=>by
  obtain⟨b,o,sp,Ai,ni,ci,e,hB,hc,hu⟩:=h.cell k hk
  exact⟨b,o,sp,Ai,ni,ci,e,hB,(hb.cell (by rw[cQ];exact hB)).trans hc,hu.below hb⟩⟩
theorem URows.now {w w':World}{n c:Nat}{A:Option Addr}{rows:List (List Nat)}(h:URows w w.heap.size A n c rows) (hb:Below w.heap.size w w'):URows w' w'.heap.size A n c rows:=by
 have h1:=h.below hb
 refine⟨h1.len,h1.cap,h1.big,fun k hk=>?_⟩
 obtain⟨b,o,sp,Ai,ni,ci,e,hB,hc,hu⟩:=h1.cell k hk
 exact⟨b,o,sp,Ai,ni,ci,e,Nat.lt_of_lt_of_le hB hb.size,hc,hu.more hb.size⟩
def uH (neg:Bool) (m:Nat):Int:=if neg then-(m:Int)else m
def nB (z:Int):Bool:=decide (z<0)
def dK (neg:Bool) (xs:List Nat):Bool:=(xs.isEmpty&& !neg)||(!xs.isEmpty&&nth xs (xs.length-1)!= 0)
def gD (neg:Bool) (xs:List Nat):Int:=if dK neg xs then uH neg (vl 4294967296 xs)else 0
theorem wV (neg:Bool) (m:Nat):(uH neg m).natAbs=m:=by unfold uH;split <;> omega
theorem Kj (neg:Bool) (m:Nat):nB (uH neg m)=(neg&&decide (0<m)):=by
 unfold uH nB
 cases neg <;> simp
theorem Dk (z:Int):uH (nB z) z.natAbs=z:=by
 unfold uH nB
 by_cases h:z<0 <;> simp[h] <;> omega
theorem Gn {m n:Nat}(h:(dg 4294967296 m).length=n):decide (0<n)=decide (0<m):=by
 rcases Nat.eq_zero_or_pos n with h0 | h0
 ·subst h0
  have:=(bS (by omega)).1 (List.eq_nil_of_length_eq_zero h)
  subst this
  rfl
 rcases Nat.eq_zero_or_pos m with h1 | h1
 ·subst h1
  rw[(bS (B:=4294967296) (by omega)).2 rfl]at h
  simp at h
  omega
 simp[h0,h1]
theorem yW {neg:Bool}{xs:List Nat}(h:dK neg xs=true):trim xs=xs:=by
 rcases xs with _ | ⟨x,l⟩
 ·rfl
 have h1:nth (x::l) ((x::l).length-1)≠0:=by simpa[dK]using h
 have h2:=lE (xs:=x::l) (k:=(x::l).length) (by simp) (Nat.le_refl _) h1
 rwa[List.take_of_length_le (Nat.le_refl _)]at h2
theorem qJ {neg:Bool}{xs:List Nat}(hl:Lim 4294967296 xs) (h:dK neg xs=true):dg 4294967296 (gD neg xs).natAbs=xs:=by
 unfold gD
 rw[if_pos h,wV,cZ (by omega) hl,yW h]
theorem Gp {neg:Bool}{xs:List Nat}(hl:Lim 4294967296 xs) (h:dK neg xs=true):nB (gD neg xs)=neg:=by
 have h1:=qJ hl h
 unfold gD at h1⊢
 rw[if_pos h]at h1⊢
 rw[wV]at h1
 rw[Kj]
 rcases xs with _ | ⟨x,l⟩
 ·have:neg=false:=by simpa[dK]using h
  subst this
  rfl
 have h2:=Gn (m:=vl 4294967296 (x::l)) (n:=(x::l).length) (by rw[h1])
 rw[←h2]
 simp
theorem Bf {neg:Bool}{xs:List Nat}(h:dK neg xs=false):gD neg xs=0:=by unfold gD;rw[h];rfl
theorem Bg (z:Int):dK (nB z) (dg 4294967296 z.natAbs)=true:=by
 unfold dK
 by_cases h0:z=0
 ·subst h0
  rw[show dg 4294967296 (Int.natAbs 0)=[] from(bS (by omega)).2 rfl]
  rfl
 have hn:dg 4294967296 z.natAbs≠[]:=fun e=>h0 (by have:=(bS (by omega)).1 e;omega)
 have h:=iK (vE (B:=4294967296) (by omega) _) hn
 rw[List.getLast_eq_getElem]at h
 have h2:=List.length_pos_iff.2 hn
 have:(dg 4294967296 z.natAbs).isEmpty=false:=by simpa using hn
 rw[this,aU (by omega)]
 simpa using h
theorem Bh (z:Int):gD (nB z) (dg 4294967296 z.natAbs)=z:=by
 unfold gD
 rw[if_pos (Bg z),bL (by omega),Dk]
abbrev Hld (s:Nat) (w:World) (B g k:Nat) (W0 w':World):Prop:=
 Below s w w'∧g<w'.heap.size∧B≤w'.heap.size∧s≤g∧s≤B∧(∀b o,b<B→b≠g→w'.cell? ⟨b,o,none⟩=W0.cell? ⟨b,o,none⟩)∧(∀o,o<k→(w'.cell? ⟨g,o,none⟩).isSome=true∧w'.frozen? ⟨g,o,none⟩=false)
theorem Hld.call {s B g k:Nat}{w W0 W w1:World}(h:Hld s w B g k W0 W) (hb:Below W.heap.size W w1):Hld s w B g k W0 w1:=by
 obtain⟨h1,h2,h2',h3,h4,h5,h6⟩:=h
 refine⟨h1.trans (hb.mono (by omega)),Nat.lt_of_lt_of_le h2 hb.size,Nat.le_trans h2' hb.size,h3,h4,fun b o hlt hne=>?_,fun o ho=>?_⟩
 ·rw[hb.cell (p:=⟨b,o,none⟩) (show b<W.heap.size by omega)]
  exact h5 b o hlt hne
 rw[hb.cell (p:=⟨g,o,none⟩) h2,hb.frozen (p:=⟨g,o,none⟩) h2]
 exact h6 o ho
theorem Hld.alloc {s B g k:Nat}{w W0 W:World}(h:Hld s w B g k W0 W) (o:Obj):Hld s w B g k W0 (W.alloc o):=Hld.call h (eF W o)
theorem Hld.drew {s B g k:Nat}{w W0 W:World}(h:Hld s w B g k W0 W):Hld s w B g k W0 W.drew:=⟨h.1.drew,h.2⟩
theorem fS (w:World) (a b:Addr) (v:Value):(w.setCell a v).frozen? b=w.frozen? b:=by
 simp
theorem Hld.setCell {s B g k:Nat}{w W0 W:World}(h:Hld s w B g k W0 W){p:Addr}(hp:p.block=g∨B≤p.block) (v:Value):Hld s w B g k W0 (W.setCell p v):=by
 obtain⟨h1,h2,h2',h3,h4,h5,h6⟩:=h
 refine⟨h1.setCell (by omega) v,by simpa using h2,by simpa using h2',h3,h4,fun b o hlt hne=>?_,fun o ho=>⟨?_,?_⟩⟩
 ·rw[World.cell?_setCell_far _ _ _ _ (by show p.block≠b;omega)]
  exact h5 b o hlt hne
 ·obtain⟨v',hv'⟩:=Option.isSome_iff_exists.1 (h6 o ho).1
  obtain⟨v'',hv''⟩:=cell?_setCell_some (p:=p) (x:=v) hv'
  rw[hv''];rfl
 rw[fS];exact(h6 o ho).2
theorem Hld.from {P:Program}{f:FuncId}{args:Array Value}{s B g k:Nat}{w W0 W:World}{R:Ending→World→Prop}(hS:Hld s w B g k W0 W) (h:Hld s w B g k W0 W→Calls P f args W R):Calls P f args W R:=h hS
theorem Hld.bel {s B g k:Nat}{w W0 W:World}(h:Hld s w B g k W0 W):Below s w W:=h.1
theorem Hld.res {s B g k:Nat}{w W0 W:World}(h:Hld s w B g k W0 W) (o:Nat) (ho:o<k):∃v,W.cell? ⟨g,o,none⟩=some v:=Option.isSome_iff_exists.1 (h.2.2.2.2.2.2 o ho).1
theorem Hld.base {s B g k:Nat}{w W0 W:World}(h:Hld s w B g k W0 W):g+1≤W.heap.size:=h.2.1
theorem Own.setLow {t:TypeId}{w:World}{base n c:Nat}{A:Option Addr}{xs:List Nat}(h:Own t w base A n c xs){p:Addr}(hp:p.block<base) (v:Value):Own t (w.setCell p v) base A n c xs:=
 ⟨ownsRow_setCell_below h.row hp v,h.lim⟩
theorem Own.over {t:TypeId}{w w':World}{base n c:Nat}{A:Option Addr}{xs:List Nat}(h:Own t w base A n c xs) (hb:Below w.heap.size w w'):Own t w' base A n c xs:=h.below hb
theorem URows.two {w:World}{g n m c d:Nat}{A B:Option Addr}{xs ys:List Nat}(h0:w.cell? ⟨g,0,none⟩=some (.slice A n c)) (h1:w.cell? ⟨g,1,none⟩=some (.slice B m d)) (hg:g<w.heap.size)
  (ha:U32 w w.heap.size A n c xs) (hb:U32 w w.heap.size B m d ys):URows w w.heap.size (some ⟨g,0,none⟩) 2 2 [xs,ys]:=by
 refine⟨rfl,Nat.le_refl _,by omega,fun k hk=>?_⟩
 match k,hk with
 | 0,_=>exact⟨g,0,none,A,n,c,rfl,hg,h0,ha⟩
 | 1,_=>exact⟨g,0,none,B,m,d,rfl,hg,h1,hb⟩
abbrev Hld2 (s:Nat) (w:World) (B g g' k:Nat) (W0 w':World):Prop:=
 Below s w w'∧(g<w'.heap.size∧g'<w'.heap.size∧s≤g')∧B≤w'.heap.size∧s≤g∧s≤B∧(∀b o,b<B→b≠g→b≠g'→w'.cell? ⟨b,o,none⟩=W0.cell? ⟨b,o,none⟩)∧(∀o,o<k→(w'.cell? ⟨g,o,none⟩).isSome=true∧w'.frozen? ⟨g,o,none⟩=false)∧
  (∀o,o<k→(w'.cell? ⟨g',o,none⟩).isSome=true∧w'.frozen? ⟨g',o,none⟩=false)
theorem Hld2.call {s B g g' k:Nat}{w W0 W w1:World}(h:Hld2 s w B g g' k W0 W) (hb:Below W.heap.size W w1):Hld2 s w B g g' k W0 w1:=by
 obtain⟨h1,⟨h2,h2'',h2b⟩,h2',h3,h4,h5,h6,h7⟩:=h
 refine⟨h1.trans (hb.mono (by omega)),⟨Nat.lt_of_lt_of_le h2 hb.size,Nat.lt_of_lt_of_le h2'' hb.size,h2b⟩,Nat.le_trans h2' hb.size,h3,h4,fun b o hlt hne hne'=>?_,fun o ho=>?_,fun o ho=>?_⟩
 ·rw[hb.cell (p:=⟨b,o,none⟩) (show b<W.heap.size by omega)]
  exact h5 b o hlt hne hne'
 ·rw[hb.cell (p:=⟨g,o,none⟩) h2,hb.frozen (p:=⟨g,o,none⟩) h2]
  exact h6 o ho
 rw[hb.cell (p:=⟨g',o,none⟩) h2'',hb.frozen (p:=⟨g',o,none⟩) h2'']
 exact h7 o ho
theorem Hld2.alloc {s B g g' k:Nat}{w W0 W:World}(h:Hld2 s w B g g' k W0 W) (o:Obj):Hld2 s w B g g' k W0 (W.alloc o):=Hld2.call h (eF W o)
theorem Hld2.drew {s B g g' k:Nat}{w W0 W:World}(h:Hld2 s w B g g' k W0 W):Hld2 s w B g g' k W0 W.drew:=⟨h.1.drew,h.2⟩
theorem Hld2.setCell {s B g g' k:Nat}{w W0 W:World}(h:Hld2 s w B g g' k W0 W){p:Addr}(hp:p.block=g∨p.block=g'∨B≤p.block) (v:Value):Hld2 s w B g g' k W0 (W.setCell p v):=by
 obtain⟨h1,⟨h2,h2'',h2b⟩,h2',h3,h4,h5,h6,h7⟩:=h
 refine⟨h1.setCell (by omega) v,⟨by simpa using h2,by simpa using h2'',h2b⟩,by simpa using h2',h3,h4,fun b o hlt hne hne'=>?_,fun o ho=>⟨?_,?_⟩,fun o ho=>⟨?_,?_⟩⟩
 ·rw[World.cell?_setCell_far _ _ _ _ (by show p.block≠b;omega)]
  exact h5 b o hlt hne hne'
 ·obtain⟨v',hv'⟩:=Option.isSome_iff_exists.1 (h6 o ho).1
  obtain⟨v'',hv''⟩:=cell?_setCell_some (p:=p) (x:=v) hv'
  rw[hv''];rfl
 ·rw[fS];exact(h6 o ho).2
 ·obtain⟨v',hv'⟩:=Option.isSome_iff_exists.1 (h7 o ho).1
  obtain⟨v'',hv''⟩:=cell?_setCell_some (p:=p) (x:=v) hv'
  rw[hv''];rfl
 rw[fS];exact(h7 o ho).2
theorem Hld2.from {P:Program}{f:FuncId}{args:Array Value}{s B g g' k:Nat}{w W0 W:World}{R:Ending→World→Prop}(hS:Hld2 s w B g g' k W0 W) (h:Hld2 s w B g g' k W0 W→Calls P f args W R):Calls P f args W R:=h hS
theorem Hld2.bel {s B g g' k:Nat}{w W0 W:World}(h:Hld2 s w B g g' k W0 W):Below s w W:=h.1
theorem Hld2.res {s B g g' k:Nat}{w W0 W:World}(h:Hld2 s w B g g' k W0 W) (o:Nat) (ho:o<k):∃v,W.cell? ⟨g,o,none⟩=some v:=Option.isSome_iff_exists.1 (h.2.2.2.2.2.2.1 o ho).1
theorem Hld2.base {s B g g' k:Nat}{w W0 W:World}(h:Hld2 s w B g g' k W0 W):g+1≤W.heap.size:=h.2.1.1
theorem Hld2.base' {s B g g' k:Nat}{w W0 W:World}(h:Hld2 s w B g g' k W0 W):g'+1≤W.heap.size:=h.2.1.2.1
abbrev Hld0 (s:Nat) (w:World) (B:Nat) (W0 w':World):Prop:=
 Below s w w'∧B≤w'.heap.size∧s≤B∧(∀b o,b<B→w'.cell? ⟨b,o,none⟩=W0.cell? ⟨b,o,none⟩)
theorem Hld0.call {s B:Nat}{w W0 W w1:World}(h:Hld0 s w B W0 W) (hb:Below W.heap.size W w1):Hld0 s w B W0 w1:=by
 obtain⟨h1,h2,h4,h5⟩:=h
 refine⟨h1.trans (hb.mono (by omega)),Nat.le_trans h2 hb.size,h4,fun b o hlt=>?_⟩
 rw[hb.cell (p:=⟨b,o,none⟩) (show b<W.heap.size by omega)]
 exact h5 b o hlt
theorem Hld0.alloc {s B:Nat}{w W0 W:World}(h:Hld0 s w B W0 W) (o:Obj):Hld0 s w B W0 (W.alloc o):=Hld0.call h (eF W o)
theorem Hld0.drew {s B:Nat}{w W0 W:World}(h:Hld0 s w B W0 W):Hld0 s w B W0 W.drew:=⟨h.1.drew,h.2⟩
theorem Hld0.setCell {s B:Nat}{w W0 W:World}(h:Hld0 s w B W0 W){p:Addr}(hp:B≤p.block) (v:Value):Hld0 s w B W0 (W.setCell p v):=by
 obtain⟨h1,h2,h4,h5⟩:=h
 refine⟨h1.setCell (by omega) v,by simpa using h2,h4,fun b o hlt=>?_⟩
 rw[World.cell?_setCell_far _ _ _ _ (by show p.block≠b;omega)]
 exact h5 b o hlt
theorem Hld0.bel {s B:Nat}{w W0 W:World}(h:Hld0 s w B W0 W):Below s w W:=h.1
theorem Hld0.base {s B:Nat}{w W0 W:World}(h:Hld0 s w B W0 W):B≤W.heap.size:=h.2.1
theorem Hld0.from {P:Program}{f:FuncId}{args:Array Value}{s B:Nat}{w W0 W:World}{R:Ending→World→Prop}(hS:Hld0 s w B W0 W) (h:Hld0 s w B W0 W→Calls P f args W R):Calls P f args W R:=h hS
def Kk (na:Bool) (xs:List Nat) (nb:Bool) (ys:List Nat):Bool:=dK na xs&&dK nb ys&&decide (0<gD nb ys)&&(Int.gcd (gD na xs) (gD nb ys)==1)
theorem wW {xs:List Nat}(hl:Lim 4294967296 xs){neg:Bool}:(dg 4294967296 (gD neg xs).natAbs).length≤xs.length:=by
 cases h:dK neg xs
 ·rw[Bf h,show dg 4294967296 (Int.natAbs 0)=[] from(bS (by omega)).2 rfl]
  simp
 rw[qJ hl h]
 exact Nat.le_refl _
def Qd (na:Bool) (xs:List Nat) (nb:Bool) (ys:List Nat):Rat:=if Kk na xs nb ys then Rat.divInt (gD na xs) (gD nb ys)else 0
def Sz (L:Nat) (q:Rat):Prop:=(dg 4294967296 q.num.natAbs).length≤L∧(dg 4294967296 q.den).length≤L
def Src (b0 base:Nat) (w:World) (A:Option Addr) (n c:Nat) (xs:List Nat):Prop:=U32 w b0 A n c xs∨Own 22 w base A n c xs
theorem Src.below {b0 base n c:Nat}{w w':World}{A:Option Addr}{xs:List Nat}(h:Src b0 base w A n c xs) (h0:b0≤w.heap.size) (hb:Below w.heap.size w w'):Src b0 base w' A n c xs:=by
 rcases h with h | h
 ·exact .inl (h.below (hb.mono h0))
 exact .inr (h.below hb)
theorem Src.u32 {b0 base n c:Nat}{w:World}{A:Option Addr}{xs:List Nat}(h:Src b0 base w A n c xs) (h0:b0≤w.heap.size):U32 w w.heap.size A n c xs:=by
 rcases h with h | h
 ·exact h.more h0
 exact h.u32
theorem Src.setCell {b0 base n c:Nat}{w:World}{A:Option Addr}{xs:List Nat}(h:Src b0 base w A n c xs){p:Addr}(h0:b0≤p.block) (h1:p.block<base) (v:Value):Src b0 base (w.setCell p v) A n c xs:=by
 rcases h with h | h
 ·refine .inl (h.keep fun q hq=>World.cell?_setCell_far _ _ _ _ ?_)
  omega
 exact .inr (h.setLow h1 v)
theorem Src.drew {b0 base n c:Nat}{w:World}{A:Option Addr}{xs:List Nat}(h:Src b0 base w A n c xs):Src b0 base w.drew A n c xs:=by
 rcases h with h | h
 ·exact .inl ⟨⟨h.rd.len,h.rd.cap,h.rd.big,h.rd.cell⟩,h.lim⟩
 exact .inr ⟨h.row,h.lim⟩
theorem Src.base_le {b0 base base' n c:Nat}{w:World}{A:Option Addr}{xs:List Nat}(h:Src b0 base w A n c xs) (hb:base'≤base):Src b0 base' w A n c xs:=by
 rcases h with h | h
 ·exact .inl h
 exact .inr (h.base_le hb)
theorem Hld.up {s B g k:Nat}{w W0 W:World}(h:Hld s w B g k W0 W):B≤W.heap.size:=h.2.2.1
theorem gO (a b:Nat):(dg 4294967296 (a*b)).length≤(dg 4294967296 a).length+(dg 4294967296 b).length:=by
 refine aH (by omega) ?_
 rw[Nat.pow_add]
 exact Nat.mul_lt_mul_of_lt_of_lt (eS (by omega)) (eS (by omega))
structure Lv where
 A:Option Addr
 n:Nat
 c:Nat
structure Zv where
 s:Bool
 A:Option Addr
 n:Nat
 c:Nat
structure Rv where
 s:Bool
 A:Option Addr
 n:Nat
 c:Nat
 t:Bool
 B:Option Addr
 m:Nat
 d:Nat
def Rv.x (r:Rv):Zv:=⟨r.s,r.A,r.n,r.c⟩
def Rv.y (r:Rv):Zv:=⟨r.t,r.B,r.m,r.d⟩
def Lv.v (l:Lv):Value:=.slice l.A l.n l.c
def Zv.cs (z:Zv):List Value:=[.bool z.s,.slice z.A z.n z.c]
def Rv.cs (r:Rv):List Value:=[.bool r.s,.slice r.A r.n r.c,.bool r.t,.slice r.B r.m r.d]
structure LimR (W:World) (N:Nat→Prop) (A:Option Addr) (n c:Nat) (xs:List Nat):Prop where
 len:xs.length=n
 cap:n≤c
 big:c≤9223372036854775807
 lim:Lim 4294967296 xs
 cell:0<n→∃ad,A=some ad∧N ad.block∧∀k u,(cI xs)[k]? =some u→W.cell? (ad.add k)=some u
section
variable {W W':World}{N N':Nat→Prop}{A:Option Addr}{n c:Nat}{xs:List Nat}
theorem LimR.mono (h:LimR W N A n c xs) (hN:∀b,N b→N' b):LimR W N' A n c xs:=
 ⟨h.len,h.cap,h.big,h.lim,fun hn=>let ⟨ad,e,hb,hc⟩:=h.cell hn;⟨ad,e,hN _ hb,hc⟩⟩
theorem yX {ad:Addr}(h:W'.heap[ad.block]? =W.heap[ad.block]?) (k:Nat):W'.cell? (ad.add k)=W.cell? (ad.add k):=World.cell?_of_block (w:=W) (by rw[cQ];exact h)
theorem LimR.keep (h:LimR W N A n c xs) (hN:∀b,N b→W'.heap[b]? =W.heap[b]?):LimR W' N A n c xs:=
 ⟨h.len,h.cap,h.big,h.lim,fun hn=>let ⟨ad,e,hb,hc⟩:=h.cell hn;⟨ad,e,hb,fun k u hu=>(yX (hN _ hb) k).trans (hc k u hu)⟩⟩
theorem LimR.u32 {B:Nat}(h:LimR W N A n c xs) (hN:∀b,N b→b<B):U32 W B A n c xs:=
 ⟨⟨by rw[dP,h.len,Nat.mul_one],h.cap,h.big,fun hn=>let ⟨ad,e,hb,hc⟩:=h.cell hn;⟨ad,e,hN _ hb,hc⟩⟩,h.lim⟩
theorem LimR.of_own {t base:Nat}(h:Own t W base A n c xs):LimR W (· ∈(Value.slice A n c).ownBlock.toList) A n c xs:=by
 have hu:=h.u32
 refine⟨hu.len,hu.cap,hu.big,hu.lim,fun hn=>?_⟩
 obtain⟨ad,e,_,hc⟩:=hu.rd.cell hn
 exact⟨ad,e,by subst e;simp[Value.ownBlock],hc⟩
theorem LimR.nil:LimR W N none 0 0 []:=⟨rfl,Nat.le_refl _,by omega,Lim.nil,fun h=>absurd h (by omega)⟩
end
theorem Own.keep {t:TypeId}{w w':World}{base n c:Nat}{A:Option Addr}{xs:List Nat}(h:Own t w base A n c xs) (hk:∀b∈(Value.slice A n c).ownBlock.toList,w'.heap[b]? =w.heap[b]?):Own t w' base A n c xs:=by
 refine⟨⟨h.row.1,?_⟩,h.lim⟩
 rcases h.row.2 with h2 | ⟨g,cap,cur,hv,hb,hh,rest⟩
 ·exact .inl h2
 exact .inr ⟨g,cap,cur,hv,hb,(hk g (by rw[hv];simp[Value.ownBlock])).trans hh,rest⟩
theorem Own.blk {t:TypeId}{w:World}{base n c:Nat}{A:Option Addr}{xs:List Nat}(h:Own t w base A n c xs):∀b∈(Value.slice A n c).ownBlock.toList,base≤b∧b<w.heap.size:=by
 intro b hb
 rcases h.row.2 with⟨h2,_⟩ | ⟨g,cap,cur,hv,hb',hh,rest⟩
 ·rw[h2]at hb
  simp[Value.ownBlock]at hb
 rw[hv]at hb
 simp[Value.ownBlock]at hb
 subst hb
 exact⟨hb',(Array.getElem?_eq_some_iff.1 hh).1⟩
section
variable {w:World}{r r':Rv}{p q:Rat}
end
section
variable {w:World}{z z':Zv}{k k':Int}
end
theorem Sz.mono {L M:Nat}{q:Rat}(h:Sz L q) (hL:L≤M):Sz M q:=⟨Nat.le_trans h.1 hL,Nat.le_trans h.2 hL⟩
def aS (xs:List Nat):List Tr:=xs.map fun(n:Nat)=>.v (.int .u32 (n:Int))
def sU (o:Bool) (xs:List Nat):Tr:=.s o 22 1 xs.length (aS xs)
theorem kR (xs:List Nat):(aS xs).length=xs.length:=by simp[aS]
theorem iF (xs:List Nat):NoFrL (aS xs):=by
 induction xs with
 | nil=>simp[aS,NoFrL]
 | cons x xs ih=>simpa[aS,NoFrL,kK]using ih
structure Fr4 where
 s:Bool
 x:List Nat
 t:Bool
 y:List Nat
namespace Fr4
def q (a:Fr4):Rat:=Qd a.s a.x a.t a.y
def of (q:Rat):Fr4:=⟨nB q.num,dg 4294967296 q.num.natAbs,false,dg 4294967296 q.den⟩
def ok (a:Fr4):Prop:=Lim 4294967296 a.x∧Lim 4294967296 a.y∧a.x.length≤68719476736∧a.y.length≤68719476736
end Fr4
section
variable {W:World}{N:Nat→Prop}
theorem Gq {o:Bool}{xs:List Nat}{u:Value}(h:FR W N (sU o xs) u) (hl:Lim 4294967296 xs):∃A c,u=.slice A xs.length c∧LimR W N A xs.length c xs:=by
 simp only[sU,FR]at h
 obtain⟨A,c,rfl,h1,h2,h3,h4⟩:=h
 refine⟨A,c,rfl,rfl,h1,h2,hl,fun hn=>?_⟩
 rcases h4 with h4 | ⟨ad,rfl,h5,h6⟩
 ·omega
 refine⟨ad,rfl,h5,fun k u hk=>?_⟩
 simp only[cI,List.getElem?_map,Option.map_eq_some_iff]at hk
 obtain⟨m,hm,rfl⟩:=hk
 obtain⟨u,e1,e2⟩:=jH h6 (j:=k) (x:=.v (.int .u32 (m:Int))) (by simp[aS,hm])
 simp only[FR]at e2
 rw[Nat.zero_add]at e1
 rw[e1,e2]
theorem oV {t:TypeId}{base n c:Nat}{A:Option Addr}{xs:List Nat}(h:Own t W base A n c xs):∃y:VT,y.val=.slice A n c∧OR W N (.s true t 1 xs.length (aS xs)) y∧y.ok W∧y.fp=(Value.slice A n c).ownBlock.toList:=by
 have hl:=h.len
 rcases h.row.2 with⟨h2,h3⟩ | ⟨g,cap,cur,hv,_,hg,hnc,hcm,hcs,htake⟩
 ·injection h2 with e1 e2 e3
  subst e1 e3
  subst h3
  have:xs=[]:=List.eq_nil_of_length_eq_zero hl
  subst this
  exact⟨.w (.slice none 0 0),rfl,by simp[OR,aS],by simp[VT.ok],by simp[VT.fp,Value.ownBlock]⟩
 injection hv with e1 e2 e3
 subst e1 e3
 have hor:ORL W N (aS xs) ((cI xs).map VT.w):=by
  clear hl htake h
  induction xs with
  | nil=>simp[aS,cI,ORL]
  | cons x xs ih=>simpa[aS,cI,ORL,OR]using ih
 refine⟨.s g c t 1 n ((cI xs).map .w),rfl,?_,?_,by simp[VT.fp,fI,Value.ownBlock]⟩
 ·simp only[OR]
  exact⟨trivial,hl.symm,trivial,trivial,hor⟩
 simp only[VT.ok]
 refine⟨⟨cur.toList.drop (n*1),?_,?_⟩,hnc,hcm,by simp[dP,hl],kH _⟩
 ·rw[kI,←htake,List.take_append_drop]
  simpa using hg
 rw[kI,←htake,List.take_append_drop]
 simpa using hcs
end
section
variable {f:FuncId}{args:List FV}
theorem oW {N:Nat→Prop}{w:World}{cs:List Co}{us:List Value}(hL:Loc ((aA (aO []) cs).flatMap Res.S) w w (aA (aO []) cs) [(Iy [] cs args us).on N]):cs=[]∧bD w (fun b=>b<w.heap.size∧N b) [] args us:=by
 have h:=Sh.off (hL.sh 0 rfl)
 have hc:cs=[]:=List.eq_nil_of_length_eq_zero (by have:=h.1.1;simpa[aO]using this.symm)
 subst hc
 exact⟨rfl,eU (fun _ _=>rfl) (fun b hb=>⟨hb.1.1,hb.2⟩) .refl _ _ h.2⟩
theorem Ended.mk0 {fresh:Bool}{N:Nat→Prop}{M:List Nat}{w W:World}{R:List Lt→FV→Prop}{v:Value}{r:FV}{y:List VT}(hR:R [] r) (hb:Below w.heap.size w W) (hok:VT.okL W y) (hnd:(VT.fpL y).Nodup) (hfp:∀b∈VT.fpL y,w.heap.size≤b∧b<W.heap.size)
  (hro:RO W (fun b=>fresh=false∧(b<W.heap.size∧b∉VT.fpL y)∧(N b∨w.heap.size≤b)) [] r v y):Ended fresh N M w [] [] R (.returned v) W:=by
 refine⟨v,[],[],r,y,rfl,hR,rfl,fun _ _ _ h=>by simp at h,rfl,.refl,?_⟩
 refine⟨⟨hb.os,hb.tape,hb.output,hb.size,fun k hk _=>hb.block k hk⟩,fun q hq=>?_,fun b hb=>?_,by simpa[aO,aA,dR]using hnd,fun q hq=>?_⟩
 ·simp[aO,aA]at hq
  subst hq
  exact hok
 ·have:=hfp b (by simpa[aO,aA,dR]using hb)
  exact⟨.inr this.1,this.2⟩
 simp at hq
 subst hq
 refine⟨⟨rfl,fun k o hk=>by simp[aO]at hk⟩,jK (fun _ _=>rfl) (fun b hb=>⟨hb.1,⟨⟨hb.2.1.1,?_⟩,hb.2.2.elim .inl fun h=>.inr (.inr h)⟩⟩) .refl hro⟩
 simpa[aO,aA,dR]using hb.2.1.2
theorem Dl {v:Value}(h:∀(N:Nat→Prop) (w:World) us,bD w N [] args us→(∀b,N b→b<w.heap.size)→Calls Tryz.prog f us.toArray w (fun e w'=>e=.returned v∧Below w.heap.size w w')):aQ true Tryz.prog f [] args (bG (.one (tv v))):=by
 intro N w cs us hL
 obtain⟨rfl,hf⟩:=oW hL
 refine(h _ w us hf (fun b hb=>hb.1)).mono ?_
 rintro e W ⟨rfl,hb⟩
 refine .mk0 (y:=[.w v]) rfl hb (by simp[VT.okL,VT.ok]) (by simp[VT.fpL,VT.fp]) (by simp[VT.fpL,VT.fp]) ⟨.w v,rfl,rfl,?_⟩
 simp[CR,tv,OR]
end
theorem qK {W:World}{N:Nat→Prop}{a b:FV}{us:List Value}(h:bD W N [] [a,b] us):∃u v,us=[u,v]∧aN W N [] a u∧aN W N [] b v:=by
 match us,h with
 | [u,v],h=>
  simp only[bD]at h
  exact⟨u,v,rfl,h.1,h.2.1⟩
 | [],h=>simp only[bD]at h
 | [_],h=>simp only[bD]at h;exact h.2.elim
 | _::_::_::_,h=>simp only[bD]at h;exact absurd h.2.2 (by simp)
theorem Kl {W:World}{N:Nat→Prop}{a:FV}{us:List Value}(h:bD W N [] [a] us):∃u,us=[u]∧aN W N [] a u:=by
 match us,h with
 | [u],h=>
  simp only[bD]at h
  exact⟨u,rfl,h.1⟩
 | [],h=>simp only[bD]at h
 | _::_::_,h=>simp only[bD]at h;exact absurd h.2 (by simp)
section
variable {a b:Fr4}
end
theorem oX (xs:List Nat){k:Nat}(h:k<xs.length):((aS xs).drop (k*1)).take [Tr.v (.int .u32 ((nth xs k:Nat):Int))].length=[Tr.v (.int .u32 ((nth xs k:Nat):Int))]:=by
 rw[Nat.mul_one]
 have:(aS xs)[k]? =some (Tr.v (.int .u32 ((nth xs k:Nat):Int))):=by simp[aS,aU h,h]
 rw[List.length_singleton,List.take_one]
 simp[this]
theorem bH {x:Cx}{g:Nat→FV}{ob:List (Option Ob)}(h0:x.c0.length=0) (τ:List Nat) (live:List (Nat×FV)) (os:List Ob) (hn:τ.Nodup) (h1:lN τ g live) (h2:dB τ ob τ os):Sub x g ob (bV live) (os.map some):=
 su τ (fun k hk=>by rw[h0]at hk;cases hk) live os hn h1 h2
theorem Dm {xs ys:List Nat}{k:Nat}(h:xs.take k=ys.take k) (h1:k<xs.length) (h2:k<ys.length) (he:nth xs k=nth ys k):xs.take (k+1)=ys.take (k+1):=by
 rw[List.take_add_one,List.take_add_one,h]
 rw[aU h1,aU h2]at he
 simp[List.getElem?_eq_getElem h1,List.getElem?_eq_getElem h2,he]
theorem mC (xs:List Nat):((aS xs).map AV.t).take (xs.length*1)=(aS xs).map .t:=by rw[Nat.mul_one,List.take_of_length_le (by simp[kR])]
theorem dW (xs:List Nat):(aS xs).length=xs.length*1:=by simp[kR]
theorem Km {a b:Fr4}:a=b↔(a.s=b.s∧a.t=b.t)∧a.x=b.x∧a.y=b.y:=by
 obtain⟨s,x,t,y⟩:=a
 obtain⟨s',x',t',y'⟩:=b
 simp only[Fr4.mk.injEq]
 constructor
 ·rintro⟨h1,h2,h3,h4⟩
  exact⟨⟨h1,h3⟩,h2,h4⟩
 rintro⟨⟨h1,h3⟩,h2,h4⟩
 exact⟨h1,h2,h3,h4⟩
instance:DecidableEq Fr4:=fun a b=>decidable_of_iff _ Km.symm
def Fr4.len (a:Fr4) (m:Nat):Prop:=a.x.length≤m∧a.y.length≤m
def hv:List Nat→List Nat
 | []=>[]
 | x::xs=>x%65536::x/65536::hv xs
def lb:List Nat→List Nat
 | []=>[]
 | [a]=>[a]
 | a::b::l=>(a+65536*b)::lb l
theorem Dn (xs ys:List Nat):(aS xs).map AV.t++(aS ys).map .t=(aS (xs++ys)).map .t:=by simp[aS]
theorem gT (a b:Nat):Int.tmod (a:Int) (b:Int)=((a%b:Nat):Int):=by
 rw[Int.tmod_eq_emod_of_nonneg (by omega)]
 rfl
theorem gU (a b:Nat):Int.tdiv (a:Int) (b:Int)=((a/b:Nat):Int):=by
 rw[Int.tdiv_eq_ediv_of_nonneg (by omega)]
 rfl
theorem mD {k:IntKind}{a:Nat}(b:Nat) (hb:b≠0) (h:fG k (a:Int)):(b:Int)≠0∧fG k (Int.tdiv (a:Int) (b:Int)):=by
 refine⟨by omega,?_⟩
 rw[gU]
 have:=Nat.div_le_self a b
 generalize a/b=c at this⊢
 cases k <;> simp only[fG]at h⊢ <;> omega
section
variable {x:Cx}{g:Nat→FV}{ob:List (Option Ob)}
theorem Bi {i k n:Nat}{zs zs':List Nat}(hi:Nat.blt i x.n=true) (hg:g i=.one (.sl k 0 n)) (ho:bB ob k=some ⟨22,1,(aS zs).map .t⟩) (hn:n=zs.length) (he:zs=zs'):Sub x g ob (aK g i (.one (.t (sU false zs')))) (ob.set k none):=by
 subst he
 have:=fz hi hg ho (by rw[kR,hn,Nat.mul_one])
 rw[hn]at this
 exact this
end
section
variable {l:List Nat}{k N:Nat}{z:Int}{xs:List Nat}{neg:Bool}
theorem rM {a b:Nat}(h:a≤b):(dg 4294967296 a).length≤(dg 4294967296 b).length:=cD (by omega) h
end
theorem Bj (xs:List Nat){k:Nat}(h:k<xs.length):((aS xs).map AV.t)[0+k*1]? =some (tv (.int .u32 ((nth xs k:Nat):Int))):=by simp[aS,aU h,h,tv]
theorem wX (xs:List Nat){k v:Nat}(h:k<xs.length):bP ((aS xs).map AV.t) (0+k*1) [tv (.int .u32 (v:Int))]=(aS (xs.set k v)).map .t:=by
 rw[Nat.zero_add,Nat.mul_one,List.set_eq_take_append_cons_drop,if_pos h]
 simp[bP,aS,tv,List.map_take,List.map_drop]
theorem Bk (xs:List Nat){k:Nat}{a:AV}(h:k<xs.length):0+k*1+[a].length≤((aS xs).map AV.t).length:=by simp[aS];omega
structure Zi where
 s:Bool
 x:List Nat
def Zi.of (k:Int):Zi:=⟨nB k,dg 4294967296 k.natAbs⟩
def Zn (a:Zi) (k:Int):Prop:=Lim 4294967296 a.x∧a.x.length≤137438953472∧gD a.s a.x=k
theorem Zn.of {k:Int}(h:(dg 4294967296 k.natAbs).length≤137438953472):Zn (.of k) k:=⟨bF (by omega) _,h,Bh k⟩
theorem Zn.len {a:Zi}{k:Int}(h:Zn a k):(dg 4294967296 k.natAbs).length≤137438953472:=by
 obtain⟨h1,h2,rfl⟩:=h
 exact Nat.le_trans (wW h1) h2
theorem Zn.right {a:Zi}{k:Int}(h:Zn a k) (hr:dK a.s a.x=true):nB k=a.s∧dg 4294967296 k.natAbs=a.x:=by
 obtain⟨h1,h2,rfl⟩:=h
 exact⟨Gp h1 hr,qJ h1 hr⟩
theorem Mz:CallOk Tryz.prog 105:=.mk Tryz.func105 (by decide) rfl
def aT (l:List Nat):Nat:=l.foldl (fun n c=>n*10+(c-48)) 0
theorem Do {l:List Nat}{k:Nat}(h:k<l.length):aT (l.take k)*10+(nth l k-48)=aT (l.take (k+1)):=by
 have e:l[k]? =some (nth l k):=by rw[aU h];simp[h]
 rw[List.take_add_one,e]
 simp[aT]
theorem oY:∀{l:List Nat}{k:Nat},(∀c∈l,48≤c∧c≤57)→k≤l.length→aT (l.take k)<10^k
 | l,0,_,_=>by simp[aT]
 | l,k+1,h,hk=>by
  have ih:=oY (k:=k) h (by omega)
  have h2:=h (nth l k) (by rw[aU (by omega)];exact List.getElem_mem _)
  rw[←Do (by omega),Nat.pow_succ]
  omega
theorem uI {l:List Nat}{k:Nat}(h:∀c∈l,48≤c∧c≤57) (hk:k<l.length):48≤nth l k∧nth l k≤57:=h _ (by rw[aU hk];exact List.getElem_mem hk)
theorem Gr {l:List Nat}(h:∀c∈l,48≤c∧c≤57):Lim 256 l:=fun c hc=>by have:=h c hc;omega
theorem Na {k:Nat}(h:k≤17):10^k≤100000000000000000:=Nat.le_trans (Nat.pow_le_pow_right (by omega) h) (by decide)
theorem Gs {l:List Nat}(hd:∀c∈l,48≤c∧c≤57) (h0l:0<l.length) (h18:l.length≤18):aQ true Tryz.prog 105 [] [.one (tv (.string (aJ l)))] (bG (.tup [.one (tv (.int .i64 ((aT l:Nat):Int))),.one (tv .nilIface)])):=by
 refine dN Tryz.func105 rfl Tryz.ntmps105 rfl aX rfl fun N9 w9 c0 h0=>?_
 have hd0:=uI hd h0l
 refine sq ?_;refine rl ?_;refine o1 ?_;refine o1 ?_;refine nl ?_;refine sq ?_;refine rl ?_;refine o1 ?_;refine o1 ?_
 refine WL.cast (t:=12) (u':=.int .i64 ((l.length:Nat):Int)) rfl (congrArg (fun n:Nat=>Value.int .i64 (n:Int)) (aP _)) ?_
 refine o1 ?_;refine nl ?_;refine sq ?_;refine sq ?_;refine rl ?_;refine o1 ?_;(iterate 6 refine eE ?_);(iterate 6 refine o1 ?_);refine WL.split (t:=25) rfl (fun h1=>?_) (fun h1=>?_)
 ·(iterate 5 refine o1 ?_);refine nl ?_;refine bM rfl (fun h2=>?_) (fun h2=>?_)
  ·refine sq ?_;refine rl ?_;refine o1 ?_;refine o1 ?_;refine nl ?_;refine sq ?_;refine sq ?_;refine rl ?_;refine o1 ?_;refine o1 ?_ (hC:=(by rw[aP];show 0<l.length;omega))
   refine WL.cast (t:=33) (u':=.int .u8 (((nth l 0):Nat):Int)) rfl (congrArg (fun n:Nat=>Value.int .u8 (n:Int)) (fX (i:=0) (by omega) (by omega))) ?_
   refine o1 ?_;refine o1 ?_;refine WL.split (t:=35) rfl (fun h3=>?_) (fun h3=>?_)
   ·omega
   refine o1 ?_;refine o1 ?_ (hC:=(by rw[aP];show 0<l.length;omega))
   refine WL.cast (t:=37) (u':=.int .u8 (((nth l 0):Nat):Int)) rfl (congrArg (fun n:Nat=>Value.int .u8 (n:Int)) (fX (i:=0) (by omega) (by omega))) ?_
   refine o1 ?_;refine o1 ?_;refine nl ?_;refine bM rfl (fun h4=>?_) (fun h4=>?_)
   ·omega
   refine sk ?_;refine sq ?_;refine rl ?_;refine o1 ?_;refine nl ?_;refine sq ?_;refine sq ?_;refine rl ?_;refine o1 ?_;refine Qb (Gr hd) (by omega) ?_
   refine o1 ?_;refine o1 ?_;refine nl ?_;refine bl ?_
   refine lp (γ:=Nat) (fun k=>bV [(5,.one (tv (.string (aJ l)))),(6,.one (tv (.int .i64 ((aT (l.take k):Nat):Int)))),(47,.one (.t (.s false 5 1 l.length (aV l)))),(48,.one (tv (.int .i64 ((l.length:Nat):Int)))),(49,.one (tv (.int .i64 ((k:Nat):Int))))]) (fun _=>([]:List Ob).map some) (fun k=>k≤l.length) (fun k=>l.length-k) 0 (Nat.zero_le _) (bH h0 [] _ _ (by decide) ⟨rfl,rfl,rfl,rfl,rfl,trivial⟩ rfl) fun k hk=>?_
   refine sq ?_;refine rl ?_;refine o1 ?_;refine nl ?_;refine sq ?_;refine bM rfl (fun h5=>?_) (fun h5=>?_)
   ·refine sk ?_;refine sq ?_;refine bl ?_;refine sq ?_;have hdk:=uI hd (k:=k) (by omega)
    have hvk:=Nat.lt_of_lt_of_le (oY (k:=k) hd hk) (Na (by omega))
    refine rl ?_;refine o1 ?_;refine rE ([.v (.int .u8 ((nth l (k):Nat):Int))]) (fJ l (k:=k) (by omega)) ?_
    refine o1 ?_;refine nl ?_;refine sq ?_;refine rl ?_;refine o1 ?_;refine o1 ?_;refine WL.cast (t:=54) (u':=.int .u8 (((nth l k-48):Nat):Int)) rfl (aG (by omega)) ?_
    refine o1 ?_;refine nl ?_;refine sq ?_;refine sq ?_;refine rl ?_;refine o1 ?_;refine o1 ?_;refine nl ?_;refine bM rfl (fun h6=>?_) (fun h6=>?_)
    ·omega
    refine sk ?_;refine rl ?_;refine o1 ?_;refine o1 ?_;refine WL.cast (t:=59) (u':=.int .i64 (((aT (l.take k)*10):Nat):Int)) rfl (aG (by omega)) ?_
    refine o1 ?_;refine o1 ?_;refine WL.cast (t:=61) (u':=.int .i64 (((nth l k-48):Nat):Int)) rfl (aG (by omega)) ?_
    refine o1 ?_;refine WL.cast (t:=62) (u':=.int .i64 (((aT (l.take k)*10+(nth l k-48)):Nat):Int)) rfl (aG (by omega)) ?_
    refine WL.cast (t:=62) (u':=.int .i64 (((aT (l.take k)*10)+(nth l k-48):Nat):Int)) rfl (aG (by omega)) ?_
    refine o1 ?_;refine nl ?_;refine rl ?_;refine o1 ?_;refine WL.cast (t:=63) (u':=.int .i64 ((k+1:Nat):Int)) rfl (aG (by omega)) ?_
    refine o1 ?_;refine nl ?_
    exact⟨k+1,by omega,by omega,bH h0 [] _ _ (by decide) ⟨rfl,mB (congrArg (fun n:Nat=>(n:Int)) (Do (by omega)).symm),rfl,rfl,rfl,trivial⟩ rfl⟩
   refine ex ?_;refine sq ?_;refine sq ?_;refine rl ?_;refine o1 ?_;refine o1 ?_ (hC:=(by rw[aP];show 0<l.length;omega))
   refine WL.cast (t:=65) (u':=.int .u8 (((nth l 0):Nat):Int)) rfl (congrArg (fun n:Nat=>Value.int .u8 (n:Int)) (fX (i:=0) (by omega) (by omega))) ?_
   refine o1 ?_;refine nl ?_;refine bM rfl (fun h7=>?_) (fun h7=>?_)
   ·omega
   refine sk ?_;refine sq ?_;refine rl ?_;(iterate 3 refine o1 ?_);refine nl ?_;refine rt ?_;have hk9:k=l.length:=by omega
   exact en (.inl rfl) rfl (eN (.cons (cN _) (.cons (cN _) .nil))) (by decide) (fun _=>⟨trivial,trivial,trivial⟩) (by rw[hk9,List.take_of_length_le (Nat.le_refl _)];rfl)
  omega
 omega
theorem oZ {l:List Nat}(hd:∀c∈l,48≤c∧c≤57) (h0l:0<l.length) (h18:l.length≤18):aQ true Tryz.prog 49 [] [.one (tv (.string (aJ l)))] (bG (.tup [.one (tv (.int .i64 ((aT l:Nat):Int))),.one (tv .nilIface)])):=by
 refine dN Tryz.func49 rfl Tryz.ntmps49 rfl aX rfl fun N9 w9 c0 h0=>?_
 refine sq ?_;refine rl ?_;refine o1 ?_;refine o1 ?_;refine nl ?_;refine sq ?_;refine rl ?_;refine o1 ?_
 refine ca (Gs hd h0l h18) Mz ⟨a1 rfl,rfl⟩ (.tup [.one (tv (.int .i64 ((aT l:Nat):Int))),.one (tv .nilIface)]) ?_;(iterate 5 refine o1 ?_);refine nl ?_;refine sq ?_;refine sq ?_
 refine rl ?_;refine o1 ?_;refine Qc ?_ (by kernel_rfl)
 refine nl ?_;refine zT rfl ?_;refine sk ?_;refine sq ?_;refine rl ?_;(iterate 3 refine o1 ?_);refine nl ?_;refine rt ?_
 exact en (.inl rfl) rfl (eN (.cons (cN _) (.cons (cN _) .nil))) (by decide) (fun _=>⟨trivial,trivial,trivial⟩) rfl
end Go.Proofs.YteggpgndiajdpaaGreatDoor
namespace Go.Proofs.YteggpgndiajdpaaGreatDoor
open Go Go.Shelf
def lays160_ren:Go.Shelf.Ren:=⟨fun | 160=>48 | 232=>99 | 231=>98 | 227=>100 | 234=>102 | 233=>101 | 236=>104 | 235=>103 | 228=>134 | 271=>137 | 151=>136 | 197=>135 | 120=>153 | 152=>152 | 260=>151 | 137=>159 | 119=>160 | 224=>161 | 225=>162 | 217=>166 | 266=>168 | n=>n,fun | 9=>9 | 4=>4 | 3=>3 | 5=>5 | 117=>127 | 116=>126 | 0=>0 | 124=>130 | 21=>21 | 105=>151 | 46=>85 | 119=>175 | 139=>178 | 138=>177 | n=>n,fun | 3=>3 | 4=>4 | n=>n⟩
theorem Gt:Go.Proofs.Lays.n160 Tryz.prog lays160_ren:={
 mixed:=by kernel_rfl
 f119:=Tryz.func160.trans (congrArg some (by kernel_rfl))
 f120:=Tryz.func153.trans (congrArg some (by kernel_rfl))
 f137:=Tryz.func159.trans (congrArg some (by kernel_rfl))
 f151:=Tryz.func136.trans (congrArg some (by kernel_rfl))
 f152:=Tryz.func152.trans (congrArg some (by kernel_rfl))
 f160:=Tryz.func48.trans (congrArg some (by kernel_rfl))
 f197:=Tryz.func135.trans (congrArg some (by kernel_rfl))
 f217:=Tryz.func166.trans (congrArg some (by kernel_rfl))
 f224:=Tryz.func161.trans (congrArg some (by kernel_rfl))
 f225:=Tryz.func162.trans (congrArg some (by kernel_rfl))
 f227:=Tryz.func100.trans (congrArg some (by kernel_rfl))
 f228:=Tryz.func134.trans (congrArg some (by kernel_rfl))
 f231:=Tryz.func98.trans (congrArg some (by kernel_rfl))
 f232:=Tryz.func99.trans (congrArg some (by kernel_rfl))
 f233:=Tryz.func101.trans (congrArg some (by kernel_rfl))
 f234:=Tryz.func102.trans (congrArg some (by kernel_rfl))
 f235:=Tryz.func103.trans (congrArg some (by kernel_rfl))
 f236:=Tryz.func104.trans (congrArg some (by kernel_rfl))
 f260:=Tryz.func151.trans (congrArg some (by kernel_rfl))
 f266:=Tryz.func168.trans (congrArg some (by kernel_rfl))
 f271:=Tryz.func137.trans (congrArg some (by kernel_rfl))
 t0:=Tryz.underlying0
 a0:=Tryz.isAgg0
 z0:=Tryz.sizeOf0
 v0:=Tryz.zeroValue0
 t3:=Tryz.underlying3
 a3:=Tryz.isAgg3
 z3:=Tryz.sizeOf3
 v3:=Tryz.zeroValue3
 t4:=Tryz.underlying4
 a4:=Tryz.isAgg4
 z4:=Tryz.sizeOf4
 v4:=Tryz.zeroValue4
 t5:=Tryz.underlying5
 a5:=Tryz.isAgg5
 z5:=Tryz.sizeOf5
 v5:=Tryz.zeroValue5
 t9:=Tryz.underlying9
 a9:=Tryz.isAgg9
 z9:=Tryz.sizeOf9
 v9:=Tryz.zeroValue9
 t21:=Tryz.underlying21
 a21:=Tryz.isAgg21
 z21:=Tryz.sizeOf21
 v21:=Tryz.zeroValue21
 t46:=Tryz.underlying85
 a46:=Tryz.isAgg85
 z46:=Tryz.sizeOf85
 v46:=Tryz.zeroValue85
 t105:=Tryz.underlying151
 a105:=Tryz.isAgg151
 z105:=Tryz.sizeOf151
 v105:=Tryz.zeroValue151
 t116:=Tryz.underlying126
 a116:=Tryz.isAgg126
 z116:=Tryz.sizeOf126
 t117:=Tryz.underlying127
 a117:=Tryz.isAgg127
 z117:=Tryz.sizeOf127
 v117:=Tryz.zeroValue127
 t119:=Tryz.underlying175
 a119:=Tryz.isAgg175
 z119:=Tryz.sizeOf175
 t124:=Tryz.underlying130
 a124:=Tryz.isAgg130
 z124:=Tryz.sizeOf130
 v124:=Tryz.zeroValue130
 t138:=Tryz.underlying177
 a138:=Tryz.isAgg177
 z138:=Tryz.sizeOf177
 v138:=Tryz.zeroValue177
 t139:=Tryz.underlying178
 a139:=Tryz.isAgg178
 z139:=Tryz.sizeOf178
 v139:=Tryz.zeroValue178
 g3:=by kernel_rfl
 g4:=by kernel_rfl}
end Go.Proofs.YteggpgndiajdpaaGreatDoor
namespace Go.Proofs.YteggpgndiajdpaaGreatDoor
open Go Go.RowKit
section
variable {f:FuncId}{args:List FV}
theorem gE {xs:List Nat}(h:∀(N:Nat→Prop) (w:World) us,bD w N [] args us→(∀b,N b→b<w.heap.size)→Calls Tryz.prog f us.toArray w (fY xs w)):aQ true Tryz.prog f [] args (bG (.one (.t (sU true xs)))):=by
 intro N w cs us hL
 obtain⟨rfl,hf⟩:=oW hL
 refine(h _ w us hf (fun b hb=>hb.1)).mono ?_
 rintro e W ⟨A,n,c,rfl,ho,hb⟩
 obtain⟨y1,a1,a2,a3,a4⟩:=oV (N:=fun b=>true=false∧(b<W.heap.size∧b∉VT.fpL [])∧(N b∨w.heap.size≤b)) ho
 refine .mk0 (y:=[y1]) rfl hb (by simp only[VT.okL];exact⟨a3,trivial⟩) ?_ (fun b hb'=>?_) ?_
 ·simp only[VT.fpL,a4,List.append_nil]
  cases A <;> simp[Value.ownBlock]
 ·simp only[VT.fpL,a4,List.append_nil]at hb'
  exact ho.blk b hb'
 exact⟨y1,rfl,a1.symm,eZ (fun _ _=>rfl) (fun b hb=>absurd hb.1 (by simp)) _ _ a2⟩
variable {xs ys:List Nat}
theorem eR {W:World}{N:Nat→Prop}{v:Value}(h:aN W N [] (.one (.t (sU false xs))) v) (hl:Lim 4294967296 xs) (hN:∀b,N b→b<W.heap.size):∃A c,v=.slice A xs.length c∧U32 W W.heap.size A xs.length c xs:=by
 simp only[aN,AR]at h
 obtain⟨A,c,rfl,l⟩:=Gq h hl
 exact⟨A,c,rfl,l.u32 hN⟩
theorem Kn (hx:Lim 4294967296 xs) (h:xs.length≤1099511627776):aQ true Tryz.prog 56 [] [.one (.t (sU false xs))] (bG (.one (.t (sU true (trim xs))))):=gE fun N w us hf hN=>by
 obtain⟨u,rfl,h1⟩:=Kl hf
 obtain⟨A,c,rfl,u1⟩:=eR h1 hx hN
 exact cR A _ c xs w u1 h
theorem Gu (hx:Lim 4294967296 xs) (h:xs.length≤1099511627776):aQ true Tryz.prog 79 [] [.one (.t (sU false xs))] (bG (.one (.t (sU true xs)))):=gE fun N w us hf hN=>by
 obtain⟨u,rfl,h1⟩:=Kl hf
 obtain⟨A,c,rfl,u1⟩:=eR h1 hx hN
 exact mQ A _ c xs w u1 h
theorem Nb (hx:Lim 4294967296 xs) (hy:Lim 4294967296 ys) (h:xs.length≤1099511627776) (h':ys.length≤1099511627776):aQ true Tryz.prog 50 [] [.one (.t (sU false xs)),.one (.t (sU false ys))] (bG (.one (.t (sU true (dg 4294967296 (vl 4294967296 xs+vl 4294967296 ys)))))):=gE fun N w us hf hN=>by
 obtain⟨u,v,rfl,h1,h2⟩:=qK hf
 obtain⟨A,c,rfl,u1⟩:=eR h1 hx hN
 obtain⟨B,d,rfl,u2⟩:=eR h2 hy hN
 exact Dg A B _ _ c d xs ys w u1 u2 h h'
theorem Nc (hx:Lim 4294967296 xs) (hy:Lim 4294967296 ys) (h:xs.length≤549755813888) (h':ys.length≤549755813888):aQ true Tryz.prog 44 [] [.one (.t (sU false xs)),.one (.t (sU false ys))] (bG (.one (.t (sU true (dg 4294967296 (vl 4294967296 xs*vl 4294967296 ys)))))):=gE fun N w us hf hN=>by
 obtain⟨u,v,rfl,h1,h2⟩:=qK hf
 obtain⟨A,c,rfl,u1⟩:=eR h1 hx hN
 obtain⟨B,d,rfl,u2⟩:=eR h2 hy hN
 exact Gg A B _ _ c d xs ys w u1 u2 h h'
theorem uJ (A:Option Addr) (n c:Nat):((Value.slice A n c).ownBlock.toList).Nodup:=by cases A <;> simp[Value.ownBlock]
theorem Dp (hx:Lim 4294967296 xs) (hy:Lim 4294967296 ys) (h:xs.length≤549755813888) (h':ys.length≤549755813888) (h0:vl 4294967296 ys≠0):aQ true Tryz.prog 45 [] [.one (.t (sU false xs)),.one (.t (sU false ys))] (bG (.tup [.one (.t (sU true (dg 4294967296 (vl 4294967296 xs/vl 4294967296 ys)))),.one (.t (sU true (dg 4294967296 (vl 4294967296 xs%vl 4294967296 ys)))),.one (tv (.int .i64 0))])):=by
 intro N w cs us hL
 obtain⟨rfl,hf⟩:=oW hL
 obtain⟨u,v,rfl,h1,h2⟩:=qK hf
 obtain⟨A,c,rfl,u1⟩:=eR h1 hx fun b hb=>hb.1
 obtain⟨B,d,rfl,u2⟩:=eR h2 hy fun b hb=>hb.1
 refine(yV A B _ _ c d xs ys w u1 u2 h h' h0).mono ?_
 rintro e W ⟨A1,n1,c1,A2,n2,c2,rfl,ho,ho2,hap,hb⟩
 obtain⟨y1,a1,a2,a3,a4⟩:=oV (N:=fun b=>true=false∧(b<W.heap.size∧b∉VT.fpL [])∧(N b∨w.heap.size≤b)) ho
 obtain⟨y2,b1,b2,b3,b4⟩:=oV (N:=fun b=>true=false∧(b<W.heap.size∧b∉VT.fpL [])∧(N b∨w.heap.size≤b)) ho2
 refine .mk0 (y:=[y1,y2,.w (.int .i64 0)]) rfl hb (by simp only[VT.okL,VT.ok];exact⟨a3,b3,trivial,trivial⟩) ?_ (fun b hb'=>?_) ?_
 ·simp only[VT.fpL,VT.fp,a4,b4,List.append_nil]
  rw[List.nodup_append]
  refine⟨uJ ..,uJ ..,fun x hx y hy e=>?_⟩
  subst e
  rcases A1 with _ | a
  ·simp[Value.ownBlock]at hx
  rcases A2 with _ | b
  ·simp[Value.ownBlock]at hy
  simp[Value.ownBlock]at hx hy
  exact hap a b rfl rfl (by rw[←hx,←hy])
 ·simp only[VT.fpL,VT.fp,a4,b4,List.append_nil]at hb'
  rcases List.mem_append.1 hb' with hb' | hb'
  ·exact ho.blk b hb'
  exact ho2.blk b hb'
 refine⟨[_,_,_],rfl,?_⟩
 exact⟨_,_,[y1],[y2,.w (.int .i64 0)],rfl,rfl,⟨y1,rfl,a1.symm,eZ (fun _ _=>rfl) (fun b hb=>absurd hb.1 (by simp)) _ _ a2⟩,_,_,[y2],[.w (.int .i64 0)],rfl,rfl,⟨y2,rfl,b1.symm,eZ (fun _ _=>rfl) (fun b hb=>absurd hb.1 (by simp)) _ _ b2⟩,_,_,[.w (.int .i64 0)],[],rfl,rfl,⟨_,rfl,rfl,by simp[CR,tv,OR]⟩,rfl,rfl⟩
end
section
variable {xs:List Nat}
theorem yY {d:Nat}(hx:Lim 4294967296 xs) (h:xs.length≤1099511627776) (hd0:0<d) (hd:d<4294967296):aQ true Tryz.prog 57 [] [.one (.t (sU false xs)),.one (tv (.int .u32 (d:Int)))] (bG (.tup [.one (.t (sU true (dg 4294967296 (vl 4294967296 xs/d)))),.one (tv (.int .u32 ((vl 4294967296 xs%d:Nat):Int))),.one (tv (.int .i64 0))])):=by
 intro N w cs us hL
 obtain⟨rfl,hf⟩:=oW hL
 obtain⟨u,v,rfl,h1,h2⟩:=qK hf
 obtain⟨A,c,rfl,u1⟩:=eR h1 hx fun b hb=>hb.1
 obtain rfl:=aC (fA h2)
 refine(gJ A _ c d xs w u1 h hd0 hd).mono ?_
 rintro e W ⟨A,n,c,rfl,ho,hb⟩
 obtain⟨y1,a1,a2,a3,a4⟩:=oV (N:=fun b=>true=false∧(b<W.heap.size∧b∉VT.fpL [])∧(N b∨w.heap.size≤b)) ho
 refine .mk0 (y:=[y1,.w (.int .u32 ((vl 4294967296 xs%d:Nat):Int)),.w (.int .i64 0)]) rfl hb (by simp only[VT.okL,VT.ok];exact⟨a3,trivial,trivial,trivial⟩) ?_ (fun b hb'=>?_) ?_
 ·simp only[VT.fpL,VT.fp,a4,List.append_nil]
  exact uJ A n c
 ·simp only[VT.fpL,VT.fp,a4,List.append_nil]at hb'
  exact ho.blk b hb'
 refine⟨[_,_,_],rfl,?_⟩
 exact⟨_,_,[y1],[.w _,.w (.int .i64 0)],rfl,rfl,⟨y1,rfl,a1.symm,eZ (fun _ _=>rfl) (fun b hb=>absurd hb.1 (by simp)) _ _ a2⟩,_,_,[.w _],[.w (.int .i64 0)],rfl,rfl,⟨_,rfl,rfl,by simp[CR,tv,OR]⟩,_,_,[.w (.int .i64 0)],[],rfl,rfl,⟨_,rfl,rfl,by simp[CR,tv,OR]⟩,rfl,rfl⟩
theorem wY {v:Nat}(hx:Lim 4294967296 xs) (h:xs.length≤1099511627776) (hv:vl 4294967296 xs=v):aQ true Tryz.prog 56 [] [.one (.t (sU false xs))] (bG (.one (.t (sU true (dg 4294967296 v))))):=by
 have e:=cZ (B:=4294967296) (by omega) hx
 rw[←hv,e]
 exact Kn hx h
theorem Ko {u d:Nat}(h:(dg 4294967296 u).length≤1099511627776) (hd0:0<d) (hd:d<4294967296):aQ true Tryz.prog 57 [] [.one (.t (sU false (dg 4294967296 u))),.one (tv (.int .u32 (d:Int)))] (bG (.tup [.one (.t (sU true (dg 4294967296 (u/d)))),.one (tv (.int .u32 ((u%d:Nat):Int))),.one (tv (.int .i64 0))])):=by
 have e:=bL (B:=4294967296) (by omega) u
 have h2:=yY (xs:=dg 4294967296 u) (d:=d) (bF (by omega) _) h hd0 hd
 rw[e]at h2
 exact h2
end
theorem uK {l:List Nat}(hn:l.length≤9223372036854775807):aQ true Tryz.prog 48 [] [.one (tv (.string (aJ l))),.one (tv (.string ⟨#[48,49,50,51,52,53,54,55,56,57]⟩))] (bG (.one (tv (.string ⟨(Lib.trimS (aJ l).data.toList [48,49,50,51,52,53,54,55,56,57]).toArray⟩)))):=Dl fun N w us hf hN=>by
 obtain⟨u,v,rfl,h1,h2⟩:=qK hf
 obtain rfl:=aC (fA h1)
 obtain rfl:=aC (fA h2)
 exact Go.Proofs.Any.strings_Trim_laid Gt (by kernel_rfl) (aJ l) ⟨#[48,49,50,51,52,53,54,55,56,57]⟩ w (by rw[aP];omega) (by decide) (fun j b h=>(by decide:∀b∈([48,49,50,51,52,53,54,55,56,57]:List UInt8),b.toNat<128) b (List.mem_of_getElem? h))
theorem uL {α:Type}{p:α→Bool}:∀{l:List α},l.dropWhile p=[]↔∀x∈l,p x=true
 | []=>by simp
 | x::l=>by
  rw[List.dropWhile_cons]
  by_cases h:p x=true
  ·rw[if_pos h,uL];simp[h]
  rw[if_neg h];simp[h]
theorem Bl {l cs:List UInt8}:Lib.trimS l cs=[]↔∀x∈l,cs.contains x=true:=by
 unfold Lib.trimS Lib.trimLeftS Lib.trimRightS
 rw[uL]
 refine⟨fun h=>?_,fun h x hx=>h x (by simpa using(List.dropWhile_sublist _).subset (List.mem_reverse.1 hx))⟩
 cases hq:l.reverse.dropWhile (cs.contains ·)with
 | nil=>exact fun x hx=>uL.1 hq x (List.mem_reverse.2 hx)
 | cons y ys=>
  have h1:=h y (by rw[hq];simp)
  have h2:=List.head?_dropWhile_not (cs.contains ·) l.reverse
  rw[hq]at h2
  simp at h2
  exact absurd (by simpa using h1) h2
theorem pA {xs:List Nat}{m:Nat}(hx:Lim 4294967296 xs) (h:xs.length≤1099511627776) (hm:m<4294967296):aQ true Tryz.prog 51 [] [.one (.t (sU false xs)),.one (tv (.int .u32 (m:Int)))] (bG (.one (.t (sU true (dg 4294967296 (vl 4294967296 xs*m)))))):=gE fun N w us hf hN=>by
 obtain⟨u,v,rfl,h1,h2⟩:=qK hf
 obtain⟨A,c,rfl,u1⟩:=eR h1 hx hN
 obtain rfl:=aC (fA h2)
 exact lC A _ c m xs w u1 h hm
def Zg (a:Zi) (k:Int):Prop:=Lim 4294967296 a.x∧a.x.length≤300000000000∧gD a.s a.x=k
theorem Zn.g {a:Zi}{k:Int}(h:Zn a k):Zg a k:=⟨h.1,Nat.le_trans h.2.1 (by omega),h.2.2⟩
theorem Zg.of {k:Int}(h:(dg 4294967296 k.natAbs).length≤300000000000):Zg (.of k) k:=⟨bF (by omega) _,h,Bh k⟩
theorem Zg.len {a:Zi}{k:Int}(h:Zg a k):(dg 4294967296 k.natAbs).length≤300000000000:=by
 obtain⟨h1,h2,rfl⟩:=h
 exact Nat.le_trans (wW h1) h2
theorem iG (xs:List Nat):((aS xs).map AV.t).take (aS xs).length=(aS xs).map .t:=List.take_of_length_le (by simp)
section
variable {α:Type}{f:α→List Tr}{z:Nat}{xs:List α}{k o:Nat}{x x' y:α}{us:List Tr}
end
def zv (a:Zi):Int:=gD a.s a.x
def ZL (L:Nat) (a:Zi):Prop:=Lim 4294967296 a.x∧a.x.length≤L
theorem ZL.n {L:Nat}{a:Zi}(h:ZL L a) (hL:L≤137438953472):Zn a (zv a):=⟨h.1,Nat.le_trans h.2 hL,rfl⟩
theorem uM {α:Type}{l:List α}{k:Nat}(h:l.length≤k):l.take k=l:=List.take_of_length_le h
def iH (l:List Nat):Bool:=l.all fun c=>decide (48≤c∧c≤57)
theorem wZ {l:List Nat}(h:iH l=true):∀c∈l,48≤c∧c≤57:=by simpa[iH]using h
theorem Kq {l:List Nat}(h:∀c∈l,48≤c∧c≤57):iH l=true:=by simpa[iH]using h
theorem Bm:∀c<256,([48,49,50,51,52,53,54,55,56,57]:List UInt8).contains (UInt8.ofNat c)=decide (48≤c∧c≤57):=by decide+kernel
theorem xA {l:List Nat}(h:Lim 256 l):((⟨(Lib.trimS (aJ l).data.toList [48,49,50,51,52,53,54,55,56,57]).toArray⟩:ByteArray).toList==(⟨#[]⟩:ByteArray).toList)=iH l:=by
 rw[ByteArray.toList_eq,ByteArray.toList_eq,Bool.eq_iff_iff,beq_iff_eq]
 show Lib.trimS _ _=[]↔_
 rw[Bl,fB]
 unfold iH
 rw[List.all_eq_true]
 refine⟨fun g c hc=>?_,fun g x hx=>?_⟩
 ·rw[←Bm c (h c hc)]
  exact g _ (List.mem_map.2 ⟨c,hc,rfl⟩)
 obtain⟨c,hc,rfl⟩:=List.mem_map.1 hx
 rw[Bm c (h c hc)]
 exact g c hc
def eB (l:List Nat):Bool:=decide (l=[])||(!decide (l=[48])&&decide (nth l 0=48))|| !iH l
def eG (l:List Nat):Int:=if eB l then 60 else if 4096<l.length then 3 else 0
def eH (l:List Nat):Nat:=if eG l=0 then aT l else 0
theorem yZ {l:List Nat}(h:decide (l=[])=true):eB l=true:=by simp[eB,h]
theorem zA {l:List Nat}(h:decide (l=[48])=false) (h2:nth l 0=48):eB l=true:=by simp[eB,h,h2]
theorem pB {l:List Nat}(h:iH l=false):eB l=true:=by simp[eB,h]
theorem uN {l:List Nat}(h0:decide (l=[])=false) (h:decide (l=[48])=true∨¬nth l 0=48) (h2:iH l=true):eB l=false:=by
 rcases h with h | h <;> simp[eB,h0,h,h2]
theorem iT {l:List Nat}(h:eB l=true):eG l=60:=by simp[eG,h]
theorem Dq {l:List Nat}(h:eB l=false) (h2:4096<l.length):eG l=3:=by simp[eG,h,h2]
theorem Dr {l:List Nat}(h:eB l=false) (h2:¬4096<l.length):eG l=0:=by simp[eG,h,h2]
theorem sD {l:List Nat}(h:eG l=0):eH l=aT l:=if_pos h
theorem eT {l:List Nat}(h:¬eG l=0):eH l=0:=if_neg h
theorem pC {l:List Nat}(h:eB l=false):∀c∈l,48≤c∧c≤57:=by
 refine wZ ?_
 cases hq:iH l with
 | true=>rfl
 | false=>rw[pB hq]at h;cases h
theorem Ds (m:List Nat):∀n:Nat,m.foldl (fun n c=>n*10+(c-48)) n=n*10^m.length+aT m:=by
 induction m with
 | nil=>intro n;simp[aT]
 | cons c m ih=>
  intro n
  have e:aT (c::m)=(0*10+(c-48))*10^m.length+aT m:=ih _
  rw[List.foldl_cons,ih,e,List.length_cons,Nat.pow_succ,Nat.zero_mul,Nat.zero_add,Nat.add_mul,Nat.mul_assoc,Nat.mul_comm 10,Nat.add_assoc]
theorem xB (l m:List Nat):aT (l++m)=aT l*10^m.length+aT m:=by
 show(l++m).foldl _ 0=_
 rw[List.foldl_append,Ds]
 rfl
theorem iU {l:List Nat}{j f:Nat}(h:j+f≤l.length) (hf:j=0∨f=9):aT (l.take j)*1000000000+aT ((l.drop j).take f)=aT (l.take (j+f)):=by
 rw[List.take_add,xB,List.length_take,List.length_drop,Nat.min_eq_left (by omega)]
 rcases hf with rfl | rfl
 ·simp[aT]
 rfl
theorem Gv {l:List Nat}(h:∀c∈l,48≤c∧c≤57){j:Nat}(hj:j≤l.length):aT (l.take j)<4294967296^j:=Nat.lt_of_lt_of_le (oY h hj) (Nat.pow_le_pow_left (by omega) j)
theorem jT {l:List Nat}(h:∀c∈l,48≤c∧c≤57){j:Nat}(hj:j≤l.length):(dg 4294967296 (aT (l.take j))).length≤j:=aH (by omega) (Gv h hj)
theorem kS {l:List Nat}(h:∀c∈l,48≤c∧c≤57) (j f:Nat):∀c∈(l.drop j).take f,48≤c∧c≤57:=fun c hc=>h c (List.mem_of_mem_drop (List.mem_of_mem_take hc))
theorem kT {l:List Nat}(h:∀c∈l,48≤c∧c≤57){j f:Nat}(hj:j+f≤l.length) (hf:f≤9):aT ((l.drop j).take f)<1000000000:=
 Nat.lt_of_lt_of_le (oY (l:=l.drop j) (k:=f) (fun c hc=>h c (List.mem_of_mem_drop hc)) (by rw[List.length_drop];omega)) (Nat.le_trans (Nat.pow_le_pow_right (by omega) hf) (by decide))
theorem Nd {l:List Nat}{k:Nat}(h:k<l.length):aT (l.take k)*10+(nth l k-48)=aT (l.take (k+1)):=Do h
theorem Gw (ds:List Nat):aT (bN ds).reverse=vl 10 ds:=by
 induction ds with
 | nil=>rfl
 | cons d ds ih=>
  have e:(bN (d::ds)).reverse=(bN ds).reverse++[48+d]:=by simp[bN]
  rw[e,xB,ih]
  simp[aT,vl]
  omega
def iI (l:List Nat):Bool:=decide (l=[])||(decide (nth l 0=48)&&decide (1<l.length))
theorem Kr {l:List Nat}(h:decide (l=[])=true):true=iI l:=by simp[iI,h]
theorem Ks {l:List Nat}(h:iI l=true):eB l=true:=by
 unfold iI at h
 simp only[Bool.or_eq_true,Bool.and_eq_true,decide_eq_true_eq]at h
 rcases h with h | ⟨h1,h2⟩
 ·exact yZ (decide_eq_true h)
 refine zA (decide_eq_false fun e=>?_) h1
 rw[e]at h2
 simp at h2
theorem Kt {l:List Nat}(h:iI l=false) (h2:iH l=true):eB l=false:=by
 unfold iI at h
 simp only[Bool.or_eq_false_iff,Bool.and_eq_false_iff,decide_eq_false_iff_not]at h
 refine uN (decide_eq_false h.1) ?_ h2
 rcases h.2 with h3 | h3
 ·exact .inr h3
 by_cases h4:nth l 0=48
 ·left
  match l,h.1,h3,h4 with
  | [c],_,_,h4=>have h5:c=48:=h4;subst h5;rfl
  | _::_::_,_,h3,_=>simp at h3
 exact .inr h4
theorem Ku {l:List Nat}{k:Nat}(h:k<l.length) (h2:nth l k<48∨57<nth l k):iH l=false:=by
 cases hq:iH l with
 | false=>rfl
 | true=>have:=wZ hq (nth l k) (by rw[aU h];exact List.getElem_mem h);omega
theorem Nf {l:List Nat}{k:Nat}(h:k<l.length) (h1:∀c∈l.take k,48≤c∧c≤57) (h2:48≤nth l k∧nth l k≤57):∀c∈l.take (k+1),48≤c∧c≤57:=by
 have e:l[k]? =some (nth l k):=by rw[aU h];simp[h]
 intro c hc
 rw[List.take_add_one,e]at hc
 simp at hc
 rcases hc with hc | rfl
 ·exact h1 c hc
 exact h2
theorem pD {u m:Nat}(h:(dg 4294967296 u).length≤1099511627776) (hm:m<4294967296):aQ true Tryz.prog 51 [] [.one (.t (sU false (dg 4294967296 u))),.one (tv (.int .u32 (m:Int)))] (bG (.one (.t (sU true (dg 4294967296 (u*m)))))):=by
 have h1:=pA (bF (by omega) u) h hm
 rwa[bL (by omega)]at h1
theorem pE {u x:Nat}(h:(dg 4294967296 u).length≤1099511627776) (hx:x<4294967296):aQ true Tryz.prog 50 [] [.one (.t (sU false (dg 4294967296 u))),.one (.t (sU false [x]))] (bG (.one (.t (sU true (dg 4294967296 (u+x)))))):=by
 have h1:=Nb (bF (by omega) u) (Lim.cons hx Lim.nil) h (by simp)
 rw[bL (by omega)]at h1
 have e:vl 4294967296 [x]=x:=by simp[vl]
 rwa[e]at h1
theorem Gx {l:List Nat}(h:decide (l=[])=false):0<l.length:=by
 cases l with
 | nil=>simp at h
 | cons _ _=>simp
theorem xC {l:List Nat}{j:Nat}(h:(!decide (l.drop j=[]))=true):j<l.length:=by
 rcases Nat.lt_or_ge j l.length with h1 | h1
 ·exact h1
 rw[List.drop_of_length_le h1]at h;simp at h
theorem xD {l:List Nat}{j:Nat}(h:(!decide (l.drop j=[]))=false):l.length≤j:=by
 rcases Nat.lt_or_ge j l.length with h1 | h1
 ·have h2:=of_decide_eq_true (wM h)
  have h3:=congrArg List.length h2
  rw[List.length_drop,List.length_nil]at h3
  omega
 exact h1
theorem jU {l:List Nat}(hl:Lim 256 l) (hn:l.length≤9223372036854775807):aQ true Tryz.prog 9 [] [.one (tv (.string (aJ l)))] (bG (.tup [.one (.t (sU true (dg 4294967296 (eH l)))),.one (tv (.int .i64 (eG l)))])):=by
 refine dN Tryz.func9 rfl Tryz.ntmps9 rfl aX rfl fun N9 w9 c0 h0=>?_
 refine sq ?_;refine rl ?_;refine o1 ?_;refine o1 ?_;refine nl ?_;refine sq ?_;refine bl ?_;refine sq ?_;refine sq ?_;refine rl ?_;refine o1 ?_;refine o1 ?_
 refine WL.cast (t:=10) (u':=.bool (decide (l=[]))) rfl (congrArg Value.bool (iB hl)) ?_;refine o1 ?_;refine nl ?_;refine lL rfl (fun h1=>?_) (fun h1=>?_)
 ·refine sk ?_;refine oH (congrArg (fun b=>FV.one (tv (.bool b))) h1) ?_
  refine sq ?_;refine rl ?_;refine o1 ?_;refine o1 ?_;refine nl ?_;refine rt ?_;have he:=iT (yZ h1)
  exact en (.inl rfl) rfl (eN (.cons (.one (.nil (t:=22) (z:=1))) (.cons (cN _) .nil))) (by decide) (fun _=>⟨.inl ⟨rfl,trivial⟩,trivial,trivial⟩) (by rw[he,eT (by rw[he];decide)];rfl)
 refine sq ?_;have hp9:=Gx h1
 refine rl ?_;refine o1 ?_;refine o1 ?_
 refine WL.cast (t:=12) (u':=.bool (!decide (l=[48]))) rfl (congrArg Value.bool (congrArg not (yJ (l':=[48]) hl (Lim.cons (by omega) Lim.nil)))) ?_
 refine o1 ?_;refine WL.splitb (t:=13) rfl (fun h2=>?_) (fun h2=>?_)
 ·refine o1 ?_;refine o1 ?_ (hC:=(by rw[aP];show 0<l.length;omega))
  refine WL.cast (t:=15) (u':=.int .u8 (((nth l 0):Nat):Int)) rfl (congrArg (fun n:Nat=>Value.int .u8 (n:Int)) (fX (i:=0) (by omega) (gQ hl (by omega)))) ?_
  (iterate 3 refine o1 ?_);refine nl ?_;refine bM rfl (fun h3=>?_) (fun h3=>?_)
  ·refine sk ?_;refine bM rfl (fun h4=>?_) (fun h4=>?_)
   ·refine sq ?_;refine rl ?_;refine o1 ?_;refine o1 ?_;refine nl ?_;refine rt ?_;have he:=iT (zA (Es h2) (by omega))
    exact en (.inl rfl) rfl (eN (.cons (.one (.nil (t:=22) (z:=1))) (.cons (cN _) .nil))) (by decide) (fun _=>⟨.inl ⟨rfl,trivial⟩,trivial,trivial⟩) (by rw[he,eT (by rw[he];decide)];rfl)
   omega
  refine rl ?_;refine o1 ?_;refine ca (uK hn) Jg ⟨a1 rfl,a1 rfl,rfl⟩ (.one (tv (.string ⟨(Lib.trimS (aJ l).data.toList [48,49,50,51,52,53,54,55,56,57]).toArray⟩))) ?_
  refine o1 ?_;refine WL.cast (t:=20) (u':=.bool (!iH l)) rfl (congrArg Value.bool (congrArg not (xA hl))) ?_;refine o1 ?_;refine nl ?_;refine lL rfl (fun h5=>?_) (fun h5=>?_)
  ·refine sq ?_;refine rl ?_;refine o1 ?_;refine o1 ?_;refine nl ?_;refine rt ?_;have he:=iT (pB (Es h5))
   exact en (.inl rfl) rfl (eN (.cons (.one (.nil (t:=22) (z:=1))) (.cons (cN _) .nil))) (by decide) (fun _=>⟨.inl ⟨rfl,trivial⟩,trivial,trivial⟩) (by rw[he,eT (by rw[he];decide)];rfl)
  refine sq ?_;have hg:=uN h1 (.inr (by omega)) (wM h5)
  have hdg:=pC hg
  refine rl ?_;refine o1 ?_;refine o1 ?_;refine WL.cast (t:=23) (u':=.int .i64 ((l.length:Nat):Int)) rfl (congrArg (fun n:Nat=>Value.int .i64 (n:Int)) (aP _)) ?_
  refine o1 ?_;refine o1 ?_;refine nl ?_;refine bM rfl (fun h6=>?_) (fun h6=>?_)
  ·refine sq ?_;refine rl ?_;refine o1 ?_;refine o1 ?_;refine nl ?_;refine rt ?_;have he:=Dq hg (by omega)
   exact en (.inl rfl) rfl (eN (.cons (.one (.nil (t:=22) (z:=1))) (.cons (cN _) .nil))) (by decide) (fun _=>⟨.inl ⟨rfl,trivial⟩,trivial,trivial⟩) (by rw[he,eT (by rw[he];decide)];rfl)
  refine sk ?_;refine sq ?_;refine rl ?_;refine o1 ?_;refine nl ?_;refine sq ?_;refine sq ?_;refine rl ?_;refine o1 ?_;refine o1 ?_
  refine WL.cast (t:=26) (u':=.int .i64 ((l.length:Nat):Int)) rfl (congrArg (fun n:Nat=>Value.int .i64 (n:Int)) (aP _)) ?_
  refine o1 ?_;refine WL.cast (t:=27) (u':=.int .i64 ((l.length%9:Nat):Int)) rfl (aG (gT _ 9)) ?_;refine o1 ?_;refine nl ?_;refine bl ?_
  refine lp (γ:=Nat×Nat) (fun s=>bV [(0,.one (tv (.string (aJ (l.drop s.1))))),(4,.one (.sl 0 0 ((dg 4294967296 (aT (l.take s.1))).length))),(5,.one (tv (.int .i64 ((s.2:Nat):Int))))]) (fun s=>[(⟨22,1,(aS (dg 4294967296 (aT (l.take s.1)))).map .t⟩:Ob)].map some) (fun s=>s.1≤l.length∧(s.1=0∧s.2=l.length%9∨0<s.1∧s.2=9∧(l.length-s.1)%9=0)) (fun s=>l.length-s.1) (0,l.length%9) ⟨Nat.zero_le _,.inl ⟨rfl,rfl⟩⟩ ((nr (i:=4) 0 22 1 rfl rfl rfl rfl).trans (bH h0 [0] _ _ (by decide) ⟨rfl,rfl,rfl,trivial⟩ ⟨cL (l:=[]) rfl,rfl⟩)) ?_
  rintro⟨j,f⟩ ⟨hj,hf⟩;dsimp only at hj hf⊢;refine sq ?_;refine sq ?_;refine rl ?_;refine o1 ?_;refine o1 ?_
  refine WL.cast (t:=29) (u':=.bool (!decide (l.drop j=[]))) rfl (congrArg Value.bool (congrArg not (iB (nT hl j)))) ?_;refine nl ?_
  refine lL rfl (fun h7=>?_) (fun h7=>?_)
  ·refine sk ?_;refine sq ?_;refine bl ?_;refine sq ?_;refine sq ?_;have hjl:=xC h7
   refine rl ?_;refine o1 ?_;refine o1 ?_;refine nl ?_;refine bM rfl (fun h8=>?_) (fun h8=>?_)
   ·refine rl ?_;refine o1 ?_;refine nl ?_;refine sq ?_;refine rl ?_;refine o1 ?_;refine o1 ?_;refine o1 ?_ (hC:=(by rw[aP,List.length_drop];show 9≤l.length-j;omega))
    refine WL.cast (t:=35) (u':=.string (aJ ((l.drop j).take 9))) rfl (congrArg Value.string ((jN _ 0 _).trans rfl)) ?_
    refine ca (oZ (l:=((l.drop j).take 9)) (kS hdg j 9) (by rw[List.length_take,List.length_drop];omega) (by rw[List.length_take];omega)) yF ⟨a1 rfl,rfl⟩ (.tup [.one (tv (.int .i64 ((aT ((l.drop j).take 9):Nat):Int))),.one (tv .nilIface)]) ?_
    (iterate 5 refine o1 ?_);refine nl ?_;refine sq ?_;have hpl:=kT hdg (j:=j) (f:=9) (by omega) (by omega)
    have hpc:=iU (l:=l) (j:=j) (f:=9) (by omega) (by omega)
    have hl1:=jT hdg hj
    have hl2:=gO (aT (l.take j)) 1000000000
    have hl3:(dg 4294967296 1000000000).length≤1:=aH (by omega) (by decide)
    refine rl ?_;refine o1 ?_
    refine ca (pD (u:=aT (l.take j)) (m:=1000000000) (by omega) (by omega)) tR ⟨eD rfl (.sl rfl rfl (iG _) (dW _)),a1 rfl,rfl⟩ (.one (.t (sU false (dg 4294967296 (aT (l.take j)*1000000000))))) ?_
    refine o1 ?_;refine o1 ?_;refine WL.cast (t:=42) (u':=.int .u32 ((aT ((l.drop j).take 9):Nat):Int)) rfl (aG (by omega)) ?_
    refine bs 1 ?_
    refine tT 2 (pE (u:=aT (l.take j)*1000000000) (x:=aT ((l.drop j).take 9)) (by omega) (by omega)) yG ⟨a1 rfl,eD rfl (.sl (trs:=aS [aT ((l.drop j).take 9)]) rfl rfl rfl rfl),rfl⟩ ?_
    refine o1 ?_;refine nl ?_;refine rl ?_;refine o1 ?_;refine o1 ?_;refine o1 ?_ (hC:=(by rw[aP,List.length_drop];show 9≤l.length-j;omega))
    refine WL.cast (t:=47) (u':=.string (aJ ((l.drop j).drop 9))) rfl (congrArg Value.string (jP _ _)) ?_;refine o1 ?_;refine nl ?_;refine rl ?_;refine o1 ?_;refine nl ?_
    exact⟨(j+9,9),by dsimp only;omega,⟨by dsimp only;omega,.inr ⟨by dsimp only;omega,rfl,by dsimp only;omega⟩⟩,bH h0 [2] _ _ (by decide) ⟨(congrArg (fun l:List Nat=>some (FV.one (tv (.string (aJ l))))) (by rw[List.drop_drop])),(congrArg (fun z:Nat=>some (FV.one (.sl 2 0 (dg 4294967296 z).length))) hpc.symm),rfl,trivial⟩ ⟨cL (congrArg (fun z:Nat=>some (⟨22,1,(aS (dg 4294967296 z)).map .t⟩:Ob)) hpc),rfl⟩⟩
   refine sk ?_;refine sq ?_;refine rl ?_;refine o1 ?_;refine o1 ?_;refine o1 ?_ (hC:=(by rw[aP,List.length_drop];show f≤l.length-j;omega))
   refine WL.cast (t:=35) (u':=.string (aJ ((l.drop j).take f))) rfl (congrArg Value.string ((jN _ 0 _).trans rfl)) ?_
   refine ca (oZ (l:=((l.drop j).take f)) (kS hdg j f) (by rw[List.length_take,List.length_drop];omega) (by rw[List.length_take];omega)) yF ⟨a1 rfl,rfl⟩ (.tup [.one (tv (.int .i64 ((aT ((l.drop j).take f):Nat):Int))),.one (tv .nilIface)]) ?_
   (iterate 5 refine o1 ?_);refine nl ?_;refine sq ?_;have hpl:=kT hdg (j:=j) (f:=f) (by omega) (by omega)
   have hpc:=iU (l:=l) (j:=j) (f:=f) (by omega) (by omega)
   have hl1:=jT hdg hj
   have hl2:=gO (aT (l.take j)) 1000000000
   have hl3:(dg 4294967296 1000000000).length≤1:=aH (by omega) (by decide)
   refine rl ?_;refine o1 ?_
   refine ca (pD (u:=aT (l.take j)) (m:=1000000000) (by omega) (by omega)) tR ⟨eD rfl (.sl rfl rfl (iG _) (dW _)),a1 rfl,rfl⟩ (.one (.t (sU false (dg 4294967296 (aT (l.take j)*1000000000))))) ?_
   refine o1 ?_;refine o1 ?_;refine WL.cast (t:=42) (u':=.int .u32 ((aT ((l.drop j).take f):Nat):Int)) rfl (aG (by omega)) ?_
   refine bs 1 ?_
   refine tT 2 (pE (u:=aT (l.take j)*1000000000) (x:=aT ((l.drop j).take f)) (by omega) (by omega)) yG ⟨a1 rfl,eD rfl (.sl (trs:=aS [aT ((l.drop j).take f)]) rfl rfl rfl rfl),rfl⟩ ?_
   refine o1 ?_;refine nl ?_;refine rl ?_;refine o1 ?_;refine o1 ?_;refine o1 ?_ (hC:=(by rw[aP,List.length_drop];show f≤l.length-j;omega))
   refine WL.cast (t:=47) (u':=.string (aJ ((l.drop j).drop f))) rfl (congrArg Value.string (jP _ _)) ?_;refine o1 ?_;refine nl ?_;refine rl ?_;refine o1 ?_;refine nl ?_
   exact⟨(j+f,9),by dsimp only;omega,⟨by dsimp only;omega,.inr ⟨by dsimp only;omega,rfl,by dsimp only;omega⟩⟩,bH h0 [2] _ _ (by decide) ⟨(congrArg (fun l:List Nat=>some (FV.one (tv (.string (aJ l))))) (by rw[List.drop_drop])),(congrArg (fun z:Nat=>some (FV.one (.sl 2 0 (dg 4294967296 z).length))) hpc.symm),rfl,trivial⟩ ⟨cL (congrArg (fun z:Nat=>some (⟨22,1,(aS (dg 4294967296 z)).map .t⟩:Ob)) hpc),rfl⟩⟩
  refine ex ?_;refine sq ?_;refine rl ?_;(iterate 3 refine o1 ?_);refine nl ?_;refine rt ?_;have hjl:=xD h7
  have he:=Dr hg (by omega)
  exact en (.inl rfl) rfl (eN (.cons (.one (.sl (trs:=aS (dg 4294967296 (aT (l.take j)))) rfl rfl (mC _) (dW _))) (.cons (cN _) .nil))) (by decide) (fun _=>⟨.inl ⟨rfl,iF _⟩,trivial,trivial⟩) (by rw[he,sD he,List.take_of_length_le hjl];rfl)
 (iterate 3 refine eE ?_);refine o1 ?_;refine o1 ?_;refine nl ?_;refine zT rfl ?_;refine rl ?_;refine o1 ?_
 refine ca (uK hn) Jg ⟨a1 rfl,a1 rfl,rfl⟩ (.one (tv (.string ⟨(Lib.trimS (aJ l).data.toList [48,49,50,51,52,53,54,55,56,57]).toArray⟩))) ?_;refine o1 ?_
 refine WL.cast (t:=20) (u':=.bool (!iH l)) rfl (congrArg Value.bool (congrArg not (xA hl))) ?_;refine o1 ?_;refine nl ?_;refine lL rfl (fun h9=>?_) (fun h9=>?_)
 ·refine sq ?_;refine rl ?_;refine o1 ?_;refine o1 ?_;refine nl ?_;refine rt ?_;have he:=iT (pB (Es h9))
  exact en (.inl rfl) rfl (eN (.cons (.one (.nil (t:=22) (z:=1))) (.cons (cN _) .nil))) (by decide) (fun _=>⟨.inl ⟨rfl,trivial⟩,trivial,trivial⟩) (by rw[he,eT (by rw[he];decide)];rfl)
 refine sq ?_;have hg:=uN h1 (.inl (wM h2)) (wM h9)
 have hdg:=pC hg
 refine rl ?_;refine o1 ?_;refine o1 ?_;refine WL.cast (t:=23) (u':=.int .i64 ((l.length:Nat):Int)) rfl (congrArg (fun n:Nat=>Value.int .i64 (n:Int)) (aP _)) ?_
 refine o1 ?_;refine o1 ?_;refine nl ?_;refine bM rfl (fun h10=>?_) (fun h10=>?_)
 ·refine sq ?_;refine rl ?_;refine o1 ?_;refine o1 ?_;refine nl ?_;refine rt ?_;have he:=Dq hg (by omega)
  exact en (.inl rfl) rfl (eN (.cons (.one (.nil (t:=22) (z:=1))) (.cons (cN _) .nil))) (by decide) (fun _=>⟨.inl ⟨rfl,trivial⟩,trivial,trivial⟩) (by rw[he,eT (by rw[he];decide)];rfl)
 refine sk ?_;refine sq ?_;refine rl ?_;refine o1 ?_;refine nl ?_;refine sq ?_;refine sq ?_;refine rl ?_;refine o1 ?_;refine o1 ?_
 refine WL.cast (t:=26) (u':=.int .i64 ((l.length:Nat):Int)) rfl (congrArg (fun n:Nat=>Value.int .i64 (n:Int)) (aP _)) ?_
 refine o1 ?_;refine WL.cast (t:=27) (u':=.int .i64 ((l.length%9:Nat):Int)) rfl (aG (gT _ 9)) ?_;refine o1 ?_;refine nl ?_;refine bl ?_
 refine lp (γ:=Nat×Nat) (fun s=>bV [(0,.one (tv (.string (aJ (l.drop s.1))))),(4,.one (.sl 0 0 ((dg 4294967296 (aT (l.take s.1))).length))),(5,.one (tv (.int .i64 ((s.2:Nat):Int))))]) (fun s=>[(⟨22,1,(aS (dg 4294967296 (aT (l.take s.1)))).map .t⟩:Ob)].map some) (fun s=>s.1≤l.length∧(s.1=0∧s.2=l.length%9∨0<s.1∧s.2=9∧(l.length-s.1)%9=0)) (fun s=>l.length-s.1) (0,l.length%9) ⟨Nat.zero_le _,.inl ⟨rfl,rfl⟩⟩ ((nr (i:=4) 0 22 1 rfl rfl rfl rfl).trans (bH h0 [0] _ _ (by decide) ⟨rfl,rfl,rfl,trivial⟩ ⟨cL (l:=[]) rfl,rfl⟩)) ?_
 rintro⟨j,f⟩ ⟨hj,hf⟩;dsimp only at hj hf⊢;refine sq ?_;refine sq ?_;refine rl ?_;refine o1 ?_;refine o1 ?_
 refine WL.cast (t:=29) (u':=.bool (!decide (l.drop j=[]))) rfl (congrArg Value.bool (congrArg not (iB (nT hl j)))) ?_;refine nl ?_
 refine lL rfl (fun h11=>?_) (fun h11=>?_)
 ·refine sk ?_;refine sq ?_;refine bl ?_;refine sq ?_;refine sq ?_;have hjl:=xC h11
  refine rl ?_;refine o1 ?_;refine o1 ?_;refine nl ?_;refine bM rfl (fun h12=>?_) (fun h12=>?_)
  ·refine rl ?_;refine o1 ?_;refine nl ?_;refine sq ?_;refine rl ?_;refine o1 ?_;refine o1 ?_;refine o1 ?_ (hC:=(by rw[aP,List.length_drop];show 9≤l.length-j;omega))
   refine WL.cast (t:=35) (u':=.string (aJ ((l.drop j).take 9))) rfl (congrArg Value.string ((jN _ 0 _).trans rfl)) ?_
   refine ca (oZ (l:=((l.drop j).take 9)) (kS hdg j 9) (by rw[List.length_take,List.length_drop];omega) (by rw[List.length_take];omega)) yF ⟨a1 rfl,rfl⟩ (.tup [.one (tv (.int .i64 ((aT ((l.drop j).take 9):Nat):Int))),.one (tv .nilIface)]) ?_
   (iterate 5 refine o1 ?_);refine nl ?_;refine sq ?_;have hpl:=kT hdg (j:=j) (f:=9) (by omega) (by omega)
   have hpc:=iU (l:=l) (j:=j) (f:=9) (by omega) (by omega)
   have hl1:=jT hdg hj
   have hl2:=gO (aT (l.take j)) 1000000000
   have hl3:(dg 4294967296 1000000000).length≤1:=aH (by omega) (by decide)
   refine rl ?_;refine o1 ?_
   refine ca (pD (u:=aT (l.take j)) (m:=1000000000) (by omega) (by omega)) tR ⟨eD rfl (.sl rfl rfl (iG _) (dW _)),a1 rfl,rfl⟩ (.one (.t (sU false (dg 4294967296 (aT (l.take j)*1000000000))))) ?_
   refine o1 ?_;refine o1 ?_;refine WL.cast (t:=42) (u':=.int .u32 ((aT ((l.drop j).take 9):Nat):Int)) rfl (aG (by omega)) ?_
   refine bs 1 ?_
   refine tT 2 (pE (u:=aT (l.take j)*1000000000) (x:=aT ((l.drop j).take 9)) (by omega) (by omega)) yG ⟨a1 rfl,eD rfl (.sl (trs:=aS [aT ((l.drop j).take 9)]) rfl rfl rfl rfl),rfl⟩ ?_
   refine o1 ?_;refine nl ?_;refine rl ?_;refine o1 ?_;refine o1 ?_;refine o1 ?_ (hC:=(by rw[aP,List.length_drop];show 9≤l.length-j;omega))
   refine WL.cast (t:=47) (u':=.string (aJ ((l.drop j).drop 9))) rfl (congrArg Value.string (jP _ _)) ?_;refine o1 ?_;refine nl ?_;refine rl ?_;refine o1 ?_;refine nl ?_
   exact⟨(j+9,9),by dsimp only;omega,⟨by dsimp only;omega,.inr ⟨by dsimp only;omega,rfl,by dsimp only;omega⟩⟩,bH h0 [2] _ _ (by decide) ⟨(congrArg (fun l:List Nat=>some (FV.one (tv (.string (aJ l))))) (by rw[List.drop_drop])),(congrArg (fun z:Nat=>some (FV.one (.sl 2 0 (dg 4294967296 z).length))) hpc.symm),rfl,trivial⟩ ⟨cL (congrArg (fun z:Nat=>some (⟨22,1,(aS (dg 4294967296 z)).map .t⟩:Ob)) hpc),rfl⟩⟩
  refine sk ?_;refine sq ?_;refine rl ?_;refine o1 ?_;refine o1 ?_;refine o1 ?_ (hC:=(by rw[aP,List.length_drop];show f≤l.length-j;omega))
  refine WL.cast (t:=35) (u':=.string (aJ ((l.drop j).take f))) rfl (congrArg Value.string ((jN _ 0 _).trans rfl)) ?_
  refine ca (oZ (l:=((l.drop j).take f)) (kS hdg j f) (by rw[List.length_take,List.length_drop];omega) (by rw[List.length_take];omega)) yF ⟨a1 rfl,rfl⟩ (.tup [.one (tv (.int .i64 ((aT ((l.drop j).take f):Nat):Int))),.one (tv .nilIface)]) ?_
  (iterate 5 refine o1 ?_);refine nl ?_;refine sq ?_;have hpl:=kT hdg (j:=j) (f:=f) (by omega) (by omega)
  have hpc:=iU (l:=l) (j:=j) (f:=f) (by omega) (by omega)
  have hl1:=jT hdg hj
  have hl2:=gO (aT (l.take j)) 1000000000
  have hl3:(dg 4294967296 1000000000).length≤1:=aH (by omega) (by decide)
  refine rl ?_;refine o1 ?_
  refine ca (pD (u:=aT (l.take j)) (m:=1000000000) (by omega) (by omega)) tR ⟨eD rfl (.sl rfl rfl (iG _) (dW _)),a1 rfl,rfl⟩ (.one (.t (sU false (dg 4294967296 (aT (l.take j)*1000000000))))) ?_
  refine o1 ?_;refine o1 ?_;refine WL.cast (t:=42) (u':=.int .u32 ((aT ((l.drop j).take f):Nat):Int)) rfl (aG (by omega)) ?_
  refine bs 1 ?_
  refine tT 2 (pE (u:=aT (l.take j)*1000000000) (x:=aT ((l.drop j).take f)) (by omega) (by omega)) yG ⟨a1 rfl,eD rfl (.sl (trs:=aS [aT ((l.drop j).take f)]) rfl rfl rfl rfl),rfl⟩ ?_
  refine o1 ?_;refine nl ?_;refine rl ?_;refine o1 ?_;refine o1 ?_;refine o1 ?_ (hC:=(by rw[aP,List.length_drop];show f≤l.length-j;omega))
  refine WL.cast (t:=47) (u':=.string (aJ ((l.drop j).drop f))) rfl (congrArg Value.string (jP _ _)) ?_;refine o1 ?_;refine nl ?_;refine rl ?_;refine o1 ?_;refine nl ?_
  exact⟨(j+f,9),by dsimp only;omega,⟨by dsimp only;omega,.inr ⟨by dsimp only;omega,rfl,by dsimp only;omega⟩⟩,bH h0 [2] _ _ (by decide) ⟨(congrArg (fun l:List Nat=>some (FV.one (tv (.string (aJ l))))) (by rw[List.drop_drop])),(congrArg (fun z:Nat=>some (FV.one (.sl 2 0 (dg 4294967296 z).length))) hpc.symm),rfl,trivial⟩ ⟨cL (congrArg (fun z:Nat=>some (⟨22,1,(aS (dg 4294967296 z)).map .t⟩:Ob)) hpc),rfl⟩⟩
 refine ex ?_;refine sq ?_;refine rl ?_;(iterate 3 refine o1 ?_);refine nl ?_;refine rt ?_;have hjl:=xD h11
 have he:=Dr hg (by omega)
 exact en (.inl rfl) rfl (eN (.cons (.one (.sl (trs:=aS (dg 4294967296 (aT (l.take j)))) rfl rfl (mC _) (dW _))) (.cons (cN _) .nil))) (by decide) (fun _=>⟨.inl ⟨rfl,iF _⟩,trivial,trivial⟩) (by rw[he,sD he,List.take_of_length_le hjl];rfl)
end Go.Proofs.YteggpgndiajdpaaGreatDoor
