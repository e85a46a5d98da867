/- Part 7 of a proof: Frame2 to A2. -/
import Derived.Test.YteggpgndiajdpaaGreatDoorM6
import Derived.Test.YteggpgndiajdpaaGreatDoorM1
import Derived.KernelRfl
import Derived.Test.YteggpgndiajdpaaGreatDoorProg
import Derived.Test.YteggpgndiajdpaaGreatDoorM4
import Derived.Test.YteggpgndiajdpaaGreatDoorM5
import Derived.Shelf.Strings.Trim
import Derived.Shelf.Strings.SlTrimAscii
set_option maxRecDepth 100000
set_option linter.unusedVariables false
set_option linter.unusedSimpArgs false
namespace Go.Proofs.YteggpgndiajdpaaGreatDoor
open Go Go.RowKit
abbrev Hld2 (s:Nat) (w:World) (B g g' k:Nat) (W0 w':World):Prop:=
 Below s w w'∧(g<w'.heap.size∧g'<w'.heap.size∧s≤g')∧B≤w'.heap.size∧s≤g∧s≤B∧(∀b o,b<B→b≠g→b≠g'→w'.cell? ⟨b,o,none⟩=W0.cell? ⟨b,o,none⟩)∧(∀o,o<k→(w'.cell? ⟨g,o,none⟩).isSome=true∧w'.frozen? ⟨g,o,none⟩=false)∧
  (∀o,o<k→(w'.cell? ⟨g',o,none⟩).isSome=true∧w'.frozen? ⟨g',o,none⟩=false)
theorem Hld2.call {s B g g' k:Nat}{w W0 W w1:World}(h:Hld2 s w B g g' k W0 W) (hb:Below W.heap.size W w1):Hld2 s w B g g' k W0 w1:=by
 obtain⟨h1,⟨h2,h2'',h2b⟩,h2',h3,h4,h5,h6,h7⟩:=h
 refine⟨h1.trans (hb.mono (by omega)),⟨Nat.lt_of_lt_of_le h2 hb.size,Nat.lt_of_lt_of_le h2'' hb.size,h2b⟩,Nat.le_trans h2' hb.size,h3,h4,fun b o hlt hne hne'=>?_,fun o ho=>?_,fun o ho=>?_⟩
 ·rw[hb.cell (p:=⟨b,o,none⟩) (show b<W.heap.size by omega)]
  exact h5 b o hlt hne hne'
 ·rw[hb.cell (p:=⟨g,o,none⟩) h2,hb.frozen (p:=⟨g,o,none⟩) h2]
  exact h6 o ho
 rw[hb.cell (p:=⟨g',o,none⟩) h2'',hb.frozen (p:=⟨g',o,none⟩) h2'']
 exact h7 o ho
theorem Hld2.alloc {s B g g' k:Nat}{w W0 W:World}(h:Hld2 s w B g g' k W0 W) (o:Obj):Hld2 s w B g g' k W0 (W.alloc o):=Hld2.call h (iK W o)
theorem Hld2.drew {s B g g' k:Nat}{w W0 W:World}(h:Hld2 s w B g g' k W0 W):Hld2 s w B g g' k W0 W.drew:=⟨h.1.drew,h.2⟩
theorem Hld2.setCell {s B g g' k:Nat}{w W0 W:World}(h:Hld2 s w B g g' k W0 W){p:Addr}(hp:p.block=g∨p.block=g'∨B≤p.block) (v:Value):Hld2 s w B g g' k W0 (W.setCell p v):=by
 obtain⟨h1,⟨h2,h2'',h2b⟩,h2',h3,h4,h5,h6,h7⟩:=h
 refine⟨h1.setCell (by omega) v,⟨by simpa using h2,by simpa using h2'',h2b⟩,by simpa using h2',h3,h4,fun b o hlt hne hne'=>?_,fun o ho=>⟨?_,?_⟩,fun o ho=>⟨?_,?_⟩⟩
 ·rw[World.cell?_setCell_far _ _ _ _ (by show p.block≠b;omega)]
  exact h5 b o hlt hne hne'
 ·obtain⟨v',hv'⟩:=Option.isSome_iff_exists.1 (h6 o ho).1
  obtain⟨v'',hv''⟩:=cell?_setCell_some (p:=p) (x:=v) hv'
  rw[hv''];rfl
 ·rw[kZ];exact(h6 o ho).2
 ·obtain⟨v',hv'⟩:=Option.isSome_iff_exists.1 (h7 o ho).1
  obtain⟨v'',hv''⟩:=cell?_setCell_some (p:=p) (x:=v) hv'
  rw[hv''];rfl
 rw[kZ];exact(h7 o ho).2
theorem Hld2.from {P:Program}{f:FuncId}{args:Array Value}{s B g g' k:Nat}{w W0 W:World}{R:Ending→World→Prop}(hS:Hld2 s w B g g' k W0 W) (h:Hld2 s w B g g' k W0 W→Calls P f args W R):Calls P f args W R:=h hS
theorem Hld2.bel {s B g g' k:Nat}{w W0 W:World}(h:Hld2 s w B g g' k W0 W):Below s w W:=h.1
theorem Hld2.res {s B g g' k:Nat}{w W0 W:World}(h:Hld2 s w B g g' k W0 W) (o:Nat) (ho:o<k):∃v,W.cell? ⟨g,o,none⟩=some v:=Option.isSome_iff_exists.1 (h.2.2.2.2.2.2.1 o ho).1
theorem Hld2.fro {s B g g' k:Nat}{w W0 W:World}(h:Hld2 s w B g g' k W0 W) (o:Nat) (ho:o<k):W.frozen? ⟨g,o,none⟩=false:=(h.2.2.2.2.2.2.1 o ho).2
theorem Hld2.base {s B g g' k:Nat}{w W0 W:World}(h:Hld2 s w B g g' k W0 W):g+1≤W.heap.size:=h.2.1.1
theorem Hld2.base' {s B g g' k:Nat}{w W0 W:World}(h:Hld2 s w B g g' k W0 W):g'+1≤W.heap.size:=h.2.1.2.1
abbrev Hld0 (s:Nat) (w:World) (B:Nat) (W0 w':World):Prop:=
 Below s w w'∧B≤w'.heap.size∧s≤B∧(∀b o,b<B→w'.cell? ⟨b,o,none⟩=W0.cell? ⟨b,o,none⟩)
theorem Hld0.call {s B:Nat}{w W0 W w1:World}(h:Hld0 s w B W0 W) (hb:Below W.heap.size W w1):Hld0 s w B W0 w1:=by
 obtain⟨h1,h2,h4,h5⟩:=h
 refine⟨h1.trans (hb.mono (by omega)),Nat.le_trans h2 hb.size,h4,fun b o hlt=>?_⟩
 rw[hb.cell (p:=⟨b,o,none⟩) (show b<W.heap.size by omega)]
 exact h5 b o hlt
theorem Hld0.alloc {s B:Nat}{w W0 W:World}(h:Hld0 s w B W0 W) (o:Obj):Hld0 s w B W0 (W.alloc o):=Hld0.call h (iK W o)
theorem Hld0.drew {s B:Nat}{w W0 W:World}(h:Hld0 s w B W0 W):Hld0 s w B W0 W.drew:=⟨h.1.drew,h.2⟩
theorem Hld0.setCell {s B:Nat}{w W0 W:World}(h:Hld0 s w B W0 W){p:Addr}(hp:B≤p.block) (v:Value):Hld0 s w B W0 (W.setCell p v):=by
 obtain⟨h1,h2,h4,h5⟩:=h
 refine⟨h1.setCell (by omega) v,by simpa using h2,h4,fun b o hlt=>?_⟩
 rw[World.cell?_setCell_far _ _ _ _ (by show p.block≠b;omega)]
 exact h5 b o hlt
theorem Hld0.bel {s B:Nat}{w W0 W:World}(h:Hld0 s w B W0 W):Below s w W:=h.1
theorem Hld0.base {s B:Nat}{w W0 W:World}(h:Hld0 s w B W0 W):B≤W.heap.size:=h.2.1
theorem Hld0.from {P:Program}{f:FuncId}{args:Array Value}{s B:Nat}{w W0 W:World}{R:Ending→World→Prop}(hS:Hld0 s w B W0 W) (h:Hld0 s w B W0 W→Calls P f args W R):Calls P f args W R:=h hS
theorem yF {a b q r:Int}(h0:b≠0) (h:r+b*q=a) (hp:0<b→0≤r∧r<b) (hn:b<0→b<r∧r≤0):a.fdiv b=q∧a.fmod b=r:=by
 by_cases hb:0<b
 ·exact(Int.fdiv_fmod_unique hb).2 ⟨h,hp hb⟩
 exact(Int.fdiv_fmod_unique' (by omega)).2 ⟨h,hn (by omega)⟩
theorem Sk {a b:Int}(h0:b≠0) (hs:aC a=aC b):a.fdiv b=bH false (a.natAbs/b.natAbs)∧a.fmod b=bH (aC b) (a.natAbs%b.natAbs):=by
 have e:=Nat.div_add_mod a.natAbs b.natAbs
 have l:=Nat.mod_lt a.natAbs (show 0<b.natAbs by omega)
 generalize a.natAbs/b.natAbs=q at*
 generalize a.natAbs%b.natAbs=r at*
 have e2:(b.natAbs:Int)*q+r=a.natAbs:=by exact_mod_cast e
 by_cases hb:b<0
 ·have ha:a<0:=by simpa[aC,hb]using hs
  rw[show(b.natAbs:Int)=-b by omega,show(a.natAbs:Int)=-a by omega,Int.neg_mul]at e2
  apply yF h0 <;> simp[bH,aC,hb] <;> omega
 have ha:¬a<0:=by simpa[aC,hb]using hs
 rw[show(b.natAbs:Int)=b by omega,show(a.natAbs:Int)=a by omega]at e2
 apply yF h0 <;> simp[bH,aC,hb] <;> omega
theorem Sl {a b:Int}(h0:b≠0) (hs:aC a≠aC b) (hr:a.natAbs%b.natAbs=0):a.fdiv b=bH true (a.natAbs/b.natAbs)∧a.fmod b=bH (aC b) (a.natAbs%b.natAbs):=by
 have e:=Nat.div_add_mod a.natAbs b.natAbs
 rw[hr]at e⊢
 generalize a.natAbs/b.natAbs=q at*
 have e2:(b.natAbs:Int)*q=a.natAbs:=by exact_mod_cast e
 by_cases hb:b<0
 ·have ha:¬a<0:=by simpa[aC,hb]using hs
  rw[show(b.natAbs:Int)=-b by omega,show(a.natAbs:Int)=a by omega,Int.neg_mul]at e2
  apply yF h0 <;> simp[bH,aC,hb,Int.mul_neg] <;> omega
 have ha:a<0:=by simpa[aC,hb]using hs
 rw[show(b.natAbs:Int)=b by omega,show(a.natAbs:Int)=-a by omega]at e2
 apply yF h0 <;> simp[bH,aC,hb,Int.mul_neg] <;> omega
theorem Sm {a b:Int}(h0:b≠0) (hs:aC a≠aC b) (hr:a.natAbs%b.natAbs≠0):a.fdiv b=bH true (a.natAbs/b.natAbs+1)∧a.fmod b=bH (aC b) (b.natAbs-a.natAbs%b.natAbs):=by
 have e:=Nat.div_add_mod a.natAbs b.natAbs
 have l:=Nat.mod_lt a.natAbs (show 0<b.natAbs by omega)
 generalize a.natAbs/b.natAbs=q at*
 generalize a.natAbs%b.natAbs=r at*
 have e2:(b.natAbs:Int)*q+r=a.natAbs:=by exact_mod_cast e
 by_cases hb:b<0
 ·have ha:¬a<0:=by simpa[aC,hb]using hs
  rw[show(b.natAbs:Int)=-b by omega,show(a.natAbs:Int)=a by omega,Int.neg_mul]at e2
  apply yF h0 <;> simp[bH,aC,hb,Int.mul_neg,Int.mul_add] <;> omega
 have ha:a<0:=by simpa[aC,hb]using hs
 rw[show(b.natAbs:Int)=b by omega,show(a.natAbs:Int)=-a by omega]at e2
 apply yF h0 <;> simp[bH,aC,hb,Int.mul_neg,Int.mul_add] <;> omega
theorem La {u:Nat}(h:u<18446744073709551616):dg 4294967296 u=trim [u%4294967296,u/4294967296]:=by
 have e:vl 4294967296 [u%4294967296,u/4294967296]=u:=by
  simp only[vl]
  omega
 have hl:Lim 4294967296 [u%4294967296,u/4294967296]:=by
  intro x hx
  simp at hx
  omega
 rw[←dK (by omega) hl,e]
theorem Bq (w:World) (x y:Nat) (hx:x<4294967296) (hy:y<4294967296) (e:TypeId):U32 (w.alloc (.cells #[.int .u32 (x:Int),.int .u32 (y:Int)] e)) (w.alloc (.cells #[.int .u32 (x:Int),.int .u32 (y:Int)] e)).heap.size (some ⟨w.heap.size,0,none⟩) 2 2 [x,y]:=by
 refine⟨⟨rfl,Nat.le_refl _,by omega,fun _=>⟨⟨w.heap.size,0,none⟩,rfl,by simp,fun k u hk=>?_⟩⟩,fun z hz=>by simp at hz;omega⟩
 match k with
 | 0=>
  have e1:(⟨w.heap.size,0,none⟩:Addr).add 0=⟨w.heap.size,0,none⟩:=rfl
  rw[e1,kP _ _ _ 0 rfl]
  simpa[dZ]using hk
 | 1=>
  have e1:(⟨w.heap.size,0,none⟩:Addr).add 1=⟨w.heap.size,1,none⟩:=rfl
  rw[e1,kP _ _ _ 1 rfl]
  simpa[dZ]using hk
 | k+2=>simp[dZ]at hk
set_option maxHeartbeats 2000000 in
theorem Xo (z:Int) (w:World) (h1:-9223372036854775808≤z) (h2:z≤9223372036854775807):
  Calls Tryz.prog 27 #[.int .i64 z] w (Xn z w):=by
 by_cases hz:z<0
 ·have e0:IntKind.u64.wrap (-IntKind.u64.wrap z)=(z.natAbs:Int):=by
   rw[IntKind.wrap_u64,IntKind.wrap_u64]
   omega
  have e1:IntKind.u64.wrap (-IntKind.u64.wrap z)%4294967296=((z.natAbs%4294967296:Nat):Int):=by rw[e0];omega
  have e2:IntKind.u64.wrap (-IntKind.u64.wrap z)/4294967296%4294967296=((z.natAbs/4294967296:Nat):Int):=by rw[e0];omega
  have E1:=Lib.hid e1
  have E2:=Lib.hid e2
  clear e0 e1 e2
  go_enter Tryz.func27,Tryz.ntmps27
  go_upto_region 1 with fail
  refine Qe (fun W0=>Hld w.heap.size w w.heap.size w.heap.size 2 W0 W0) ?_ ?_
  ·refine⟨by(repeat (first | exact Below.refl _ _ | assumption | refine Below.drew ?_ | refine Below.setCell ?_ (by first | exact Nat.le_refl _ | (simp;done) | (simp;omega) | omega) _ | refine Below.alloc ?_ (by first | exact Nat.le_refl _ | exact Below.size (by assumption) | (simp;done) | (simp;omega) | omega) _)),by simp,by simp,by omega,by omega,fun _ _ _ _=>rfl,fun o ho=>?_⟩
   match o,ho with
   | 0,_=>constructor <;> go_simp
   | 1,_=>constructor <;> go_simp
  intro W0 hH0
  go_wp2_with fail
  rw[E1.out,E2.out]
  refine(dN _ 2 2 [z.natAbs%4294967296,z.natAbs/4294967296] _ (Bq W0 _ _ (by omega) (by omega) _) (by omega)).mono ?_
  rintro e w1 ⟨A1,n1,c1,rfl,h3,hb1⟩
  rw[←La (by omega)]at h3
  have hH1:=(hH0.alloc _).call hb1
  have h3:=h3.base_le (hH0.alloc _).base
  have hl3:=h3.len
  have hcap3:=h3.u32.cap
  have hbig3:=h3.u32.big
  have HL3:=Lib.hid hl3
  clear hl3
  go_wp2_with fail
  refine(vS _ A1 n1 c1 (by omega) _).mono ?_
  rintro e w2 ⟨rfl,hb2⟩
  rw[vR HL3.out,show bH true z.natAbs=z by unfold bH;simp;omega]
  have h3:=h3.over hb2
  have hH2:=hH1.call hb2
  obtain⟨v0,hv0⟩:=hH2.res 0 (by omega)
  obtain⟨v1,hv1⟩:=hH2.res 1 (by omega)
  have hf0:=hH2.fro 0 (by omega)
  have hf1:=hH2.fro 1 (by omega)
  go_wp2_with fail
  refine bodyPost_ret (v:=.agg #[.bool (aC z),.slice A1 n1 c1]) (by simp[results,Tryz.results27,go_sem,World.cell?_setCell_other,hv0,hv1]) rfl ⟨A1,n1,c1,rfl,?_,?_⟩
  ·refine Own.base_le (((h3.setLow ?_ _).setLow ?_ _)) (by omega) <;> simp
  (have hb:=hH2.bel;(repeat (first | exact Below.refl _ _ | assumption | refine Below.drew ?_ | refine Below.setCell ?_ (by first | exact Nat.le_refl _ | (simp;done) | (simp;omega) | omega) _ | refine Below.alloc ?_ (by first | exact Nat.le_refl _ | exact Below.size (by assumption) | (simp;done) | (simp;omega) | omega) _)))
 have e1:z%4294967296=((z.natAbs%4294967296:Nat):Int):=by omega
 have e2:z/4294967296=((z.natAbs/4294967296:Nat):Int):=by omega
 have E1:=Lib.hid e1
 have E2:=Lib.hid e2
 clear e1 e2
 go_enter Tryz.func27,Tryz.ntmps27
 go_upto_region 1 with fail
 refine Qe (fun W0=>Hld w.heap.size w w.heap.size w.heap.size 2 W0 W0) ?_ ?_
 ·refine⟨by(repeat (first | exact Below.refl _ _ | assumption | refine Below.drew ?_ | refine Below.setCell ?_ (by first | exact Nat.le_refl _ | (simp;done) | (simp;omega) | omega) _ | refine Below.alloc ?_ (by first | exact Nat.le_refl _ | exact Below.size (by assumption) | (simp;done) | (simp;omega) | omega) _)),by simp,by simp,by omega,by omega,fun _ _ _ _=>rfl,fun o ho=>?_⟩
  match o,ho with
  | 0,_=>constructor <;> go_simp
  | 1,_=>constructor <;> go_simp
 intro W0 hH0
 go_wp2_with fail
 rw[E1.out,E2.out]
 refine(dN _ 2 2 [z.natAbs%4294967296,z.natAbs/4294967296] _ (Bq W0 _ _ (by omega) (by omega) _) (by omega)).mono ?_
 rintro e w1 ⟨A1,n1,c1,rfl,h3,hb1⟩
 rw[←La (by omega)]at h3
 have hH1:=(hH0.alloc _).call hb1
 have h3:=h3.base_le (hH0.alloc _).base
 have hl3:=h3.len
 have hcap3:=h3.u32.cap
 have hbig3:=h3.u32.big
 have HL3:=Lib.hid hl3
 clear hl3
 go_wp2_with fail
 refine(vS _ A1 n1 c1 (by omega) _).mono ?_
 rintro e w2 ⟨rfl,hb2⟩
 rw[vR HL3.out,show bH false z.natAbs=z by unfold bH;simp;omega]
 have h3:=h3.over hb2
 have hH2:=hH1.call hb2
 obtain⟨v0,hv0⟩:=hH2.res 0 (by omega)
 obtain⟨v1,hv1⟩:=hH2.res 1 (by omega)
 have hf0:=hH2.fro 0 (by omega)
 have hf1:=hH2.fro 1 (by omega)
 go_wp2_with fail
 refine bodyPost_ret (v:=.agg #[.bool (aC z),.slice A1 n1 c1]) (by simp[results,Tryz.results27,go_sem,World.cell?_setCell_other,hv0,hv1]) rfl ⟨A1,n1,c1,rfl,?_,?_⟩
 ·refine Own.base_le (((h3.setLow ?_ _).setLow ?_ _)) (by omega) <;> simp
 (have hb:=hH2.bel;(repeat (first | exact Below.refl _ _ | assumption | refine Below.drew ?_ | refine Below.setCell ?_ (by first | exact Nat.le_refl _ | (simp;done) | (simp;omega) | omega) _ | refine Below.alloc ?_ (by first | exact Nat.le_refl _ | exact Below.size (by assumption) | (simp;done) | (simp;omega) | omega) _)))
def Xp (na:Bool) (xs:List Nat) (nb:Bool) (ys:List Nat):Bool:=cK na xs&&cK nb ys&&decide (0<kK nb ys)&&(Int.gcd (kK na xs) (kK nb ys)==1)
theorem xE {xs:List Nat}(hl:Lim 4294967296 xs){neg:Bool}:(dg 4294967296 (kK neg xs).natAbs).length≤xs.length:=by
 cases h:cK neg xs
 ·rw[Kx h,show dg 4294967296 (Int.natAbs 0)=[] from(dH (by omega)).2 rfl]
  simp
 rw[oJ hl h]
 exact Nat.le_refl _
def DV (na:Bool) (xs:List Nat) (nb:Bool) (ys:List Nat):Rat:=if Xp na xs nb ys then Rat.divInt (kK na xs) (kK nb ys)else 0
def Sz (L:Nat) (q:Rat):Prop:=(dg 4294967296 q.num.natAbs).length≤L∧(dg 4294967296 q.den).length≤L
def Src (b0 base:Nat) (w:World) (A:Option Addr) (n c:Nat) (xs:List Nat):Prop:=U32 w b0 A n c xs∨Own 22 w base A n c xs
theorem Src.below {b0 base n c:Nat}{w w':World}{A:Option Addr}{xs:List Nat}(h:Src b0 base w A n c xs) (h0:b0≤w.heap.size) (hb:Below w.heap.size w w'):Src b0 base w' A n c xs:=by
 rcases h with h | h
 ·exact .inl (h.below (hb.mono h0))
 exact .inr (h.below hb)
theorem Src.u32 {b0 base n c:Nat}{w:World}{A:Option Addr}{xs:List Nat}(h:Src b0 base w A n c xs) (h0:b0≤w.heap.size):U32 w w.heap.size A n c xs:=by
 rcases h with h | h
 ·exact h.more h0
 exact h.u32
theorem Src.setCell {b0 base n c:Nat}{w:World}{A:Option Addr}{xs:List Nat}(h:Src b0 base w A n c xs){p:Addr}(h0:b0≤p.block) (h1:p.block<base) (v:Value):Src b0 base (w.setCell p v) A n c xs:=by
 rcases h with h | h
 ·refine .inl (h.keep fun q hq=>World.cell?_setCell_far _ _ _ _ ?_)
  omega
 exact .inr (h.setLow h1 v)
theorem Src.drew {b0 base n c:Nat}{w:World}{A:Option Addr}{xs:List Nat}(h:Src b0 base w A n c xs):Src b0 base w.drew A n c xs:=by
 rcases h with h | h
 ·exact .inl ⟨⟨h.rd.len,h.rd.cap,h.rd.big,h.rd.cell⟩,h.lim⟩
 exact .inr ⟨h.row,h.lim⟩
theorem Src.base_le {b0 base base' n c:Nat}{w:World}{A:Option Addr}{xs:List Nat}(h:Src b0 base w A n c xs) (hb:base'≤base):Src b0 base' w A n c xs:=by
 rcases h with h | h
 ·exact .inl h
 exact .inr (h.base_le hb)
theorem Hld.up {s B g k:Nat}{w W0 W:World}(h:Hld s w B g k W0 W):B≤W.heap.size:=h.2.2.1
theorem gV (a b:Nat):(dg 4294967296 (a*b)).length≤(dg 4294967296 a).length+(dg 4294967296 b).length:=by
 refine bC (by omega) ?_
 rw[Nat.pow_add]
 exact Nat.mul_lt_mul_of_lt_of_lt (iM (by omega)) (iM (by omega))
theorem Cm (a b:Int):(dg 4294967296 (a*b).natAbs).length≤(dg 4294967296 a.natAbs).length+(dg 4294967296 b.natAbs).length:=by
 rw[Int.natAbs_mul]
 exact gV _ _
theorem Cl (a b:Int){L:Nat}(ha:(dg 4294967296 a.natAbs).length≤L) (hb:(dg 4294967296 b.natAbs).length≤L):(dg 4294967296 (a+b).natAbs).length≤L+1:=by
 refine bC (by omega) ?_
 have h1:a.natAbs<4294967296^L:=Nat.lt_of_lt_of_le (iM (by omega)) (Nat.pow_le_pow_right (by omega) ha)
 have h2:b.natAbs<4294967296^L:=Nat.lt_of_lt_of_le (iM (by omega)) (Nat.pow_le_pow_right (by omega) hb)
 rw[Nat.pow_succ]
 generalize 4294967296^L=p at*
 omega
structure Lv where
 A:Option Addr
 n:Nat
 c:Nat
structure Zv where
 s:Bool
 A:Option Addr
 n:Nat
 c:Nat
structure Rv where
 s:Bool
 A:Option Addr
 n:Nat
 c:Nat
 t:Bool
 B:Option Addr
 m:Nat
 d:Nat
def Rv.x (r:Rv):Zv:=⟨r.s,r.A,r.n,r.c⟩
def Rv.y (r:Rv):Zv:=⟨r.t,r.B,r.m,r.d⟩
def Lv.v (l:Lv):Value:=.slice l.A l.n l.c
def Zv.cs (z:Zv):List Value:=[.bool z.s,.slice z.A z.n z.c]
def Rv.cs (r:Rv):List Value:=[.bool r.s,.slice r.A r.n r.c,.bool r.t,.slice r.B r.m r.d]
structure LimR (W:World) (N:Nat→Prop) (A:Option Addr) (n c:Nat) (xs:List Nat):Prop where
 len:xs.length=n
 cap:n≤c
 big:c≤9223372036854775807
 lim:Lim 4294967296 xs
 cell:0<n→∃ad,A=some ad∧N ad.block∧∀k u,(dZ xs)[k]? =some u→W.cell? (ad.add k)=some u
section
variable {W W':World}{N N':Nat→Prop}{A:Option Addr}{n c:Nat}{xs:List Nat}
theorem LimR.mono (h:LimR W N A n c xs) (hN:∀b,N b→N' b):LimR W N' A n c xs:=
 ⟨h.len,h.cap,h.big,h.lim,fun hn=>let ⟨ad,e,hb,hc⟩:=h.cell hn;⟨ad,e,hN _ hb,hc⟩⟩
theorem Ho {ad:Addr}(h:W'.heap[ad.block]? =W.heap[ad.block]?) (k:Nat):W'.cell? (ad.add k)=W.cell? (ad.add k):=World.cell?_of_block (w:=W) (by rw[gQ];exact h)
theorem LimR.keep (h:LimR W N A n c xs) (hN:∀b,N b→W'.heap[b]? =W.heap[b]?):LimR W' N A n c xs:=
 ⟨h.len,h.cap,h.big,h.lim,fun hn=>let ⟨ad,e,hb,hc⟩:=h.cell hn;⟨ad,e,hb,fun k u hu=>(Ho (hN _ hb) k).trans (hc k u hu)⟩⟩
theorem LimR.u32 {B:Nat}(h:LimR W N A n c xs) (hN:∀b,N b→b<B):U32 W B A n c xs:=
 ⟨⟨by rw[gT,h.len,Nat.mul_one],h.cap,h.big,fun hn=>let ⟨ad,e,hb,hc⟩:=h.cell hn;⟨ad,e,hN _ hb,hc⟩⟩,h.lim⟩
theorem LimR.of_own {t base:Nat}(h:Own t W base A n c xs):LimR W (· ∈(Value.slice A n c).ownBlock.toList) A n c xs:=by
 have hu:=h.u32
 refine⟨hu.len,hu.cap,hu.big,hu.lim,fun hn=>?_⟩
 obtain⟨ad,e,_,hc⟩:=hu.rd.cell hn
 exact⟨ad,e,by subst e;simp[Value.ownBlock],hc⟩
theorem LimR.nil:LimR W N none 0 0 []:=⟨rfl,Nat.le_refl _,by omega,Lim.nil,fun h=>absurd h (by omega)⟩
end
theorem Own.keep {t:TypeId}{w w':World}{base n c:Nat}{A:Option Addr}{xs:List Nat}(h:Own t w base A n c xs) (hk:∀b∈(Value.slice A n c).ownBlock.toList,w'.heap[b]? =w.heap[b]?):Own t w' base A n c xs:=by
 refine⟨⟨h.row.1,?_⟩,h.lim⟩
 rcases h.row.2 with h2 | ⟨g,cap,cur,hv,hb,hh,rest⟩
 ·exact .inl h2
 exact .inr ⟨g,cap,cur,hv,hb,(hk g (by rw[hv];simp[Value.ownBlock])).trans hh,rest⟩
theorem Own.blk {t:TypeId}{w:World}{base n c:Nat}{A:Option Addr}{xs:List Nat}(h:Own t w base A n c xs):∀b∈(Value.slice A n c).ownBlock.toList,base≤b∧b<w.heap.size:=by
 intro b hb
 rcases h.row.2 with⟨h2,_⟩ | ⟨g,cap,cur,hv,hb',hh,rest⟩
 ·rw[h2]at hb
  simp[Value.ownBlock]at hb
 rw[hv]at hb
 simp[Value.ownBlock]at hb
 subst hb
 exact⟨hb',(Array.getElem?_eq_some_iff.1 hh).1⟩
section
variable {w:World}{r r':Rv}{p q:Rat}
end
section
variable {w:World}{z z':Zv}{k k':Int}
end
theorem Sz.mono {L M:Nat}{q:Rat}(h:Sz L q) (hL:L≤M):Sz M q:=⟨Nat.le_trans h.1 hL,Nat.le_trans h.2 hL⟩
def aM (xs:List Nat):List Tr:=xs.map fun(n:Nat)=>.v (.int .u32 (n:Int))
def sU (o:Bool) (xs:List Nat):Tr:=.s o 22 1 xs.length (aM xs)
theorem hG (xs:List Nat):(aM xs).length=xs.length:=by simp[aM]
theorem Xq (xs:List Nat):fD ((aM xs).map .t)=true:=by
 induction xs with
 | nil=>rfl
 | cons x xs ih=>simpa[aM,fD,lM]using ih
theorem Ok (xs:List Nat):dL ((aM xs).map .t)=true:=by
 induction xs with
 | nil=>rfl
 | cons x xs ih=>simpa[aM,dL,lone]using ih
theorem eX (xs:List Nat):NoFrL (aM xs):=by
 induction xs with
 | nil=>simp[aM,NoFrL]
 | cons x xs ih=>simpa[aM,NoFrL,mZ]using ih
structure Fr4 where
 s:Bool
 x:List Nat
 t:Bool
 y:List Nat
namespace Fr4
def q (a:Fr4):Rat:=DV a.s a.x a.t a.y
def of (q:Rat):Fr4:=⟨aC q.num,dg 4294967296 q.num.natAbs,false,dg 4294967296 q.den⟩
def ok (a:Fr4):Prop:=Lim 4294967296 a.x∧Lim 4294967296 a.y∧a.x.length≤68719476736∧a.y.length≤68719476736
end Fr4
section
variable {W:World}{N:Nat→Prop}
theorem xF {o:Bool}{xs:List Nat}{u:Value}(h:FR W N (sU o xs) u) (hl:Lim 4294967296 xs):∃A c,u=.slice A xs.length c∧LimR W N A xs.length c xs:=by
 simp only[sU,FR]at h
 obtain⟨A,c,rfl,h1,h2,h3,h4⟩:=h
 refine⟨A,c,rfl,rfl,h1,h2,hl,fun hn=>?_⟩
 rcases h4 with h4 | ⟨ad,rfl,h5,h6⟩
 ·omega
 refine⟨ad,rfl,h5,fun k u hk=>?_⟩
 simp only[dZ,List.getElem?_map,Option.map_eq_some_iff]at hk
 obtain⟨m,hm,rfl⟩:=hk
 obtain⟨u,e1,e2⟩:=kQ h6 (j:=k) (x:=.v (.int .u32 (m:Int))) (by simp[aM,hm])
 simp only[FR]at e2
 rw[Nat.zero_add]at e1
 rw[e1,e2]
theorem lJ {t:TypeId}{base n c:Nat}{A:Option Addr}{xs:List Nat}(h:Own t W base A n c xs):∃y:VT,y.val=.slice A n c∧OR W N (.s true t 1 xs.length (aM xs)) y∧y.ok W∧y.fp=(Value.slice A n c).ownBlock.toList:=by
 have hl:=h.len
 rcases h.row.2 with⟨h2,h3⟩ | ⟨g,cap,cur,hv,_,hg,hnc,hcm,hcs,htake⟩
 ·injection h2 with e1 e2 e3
  subst e1 e3
  subst h3
  have:xs=[]:=List.eq_nil_of_length_eq_zero hl
  subst this
  exact⟨.w (.slice none 0 0),rfl,by simp[OR,aM],by simp[VT.ok],by simp[VT.fp,Value.ownBlock]⟩
 injection hv with e1 e2 e3
 subst e1 e3
 have hor:ORL W N (aM xs) ((dZ xs).map VT.w):=by
  clear hl htake h
  induction xs with
  | nil=>simp[aM,dZ,ORL]
  | cons x xs ih=>simpa[aM,dZ,ORL,OR]using ih
 refine⟨.s g c t 1 n ((dZ xs).map .w),rfl,?_,?_,by simp[VT.fp,jZ,Value.ownBlock]⟩
 ·simp only[OR]
  exact⟨trivial,hl.symm,trivial,trivial,hor⟩
 simp only[VT.ok]
 refine⟨⟨cur.toList.drop (n*1),?_,?_⟩,hnc,hcm,by simp[gT,hl],pL _⟩
 ·rw[pN,←htake,List.take_append_drop]
  simpa using hg
 rw[pN,←htake,List.take_append_drop]
 simpa using hcs
end
section
variable {f:FuncId}{args:List FV}
theorem mS {N:Nat→Prop}{w:World}{cs:List Co}{us:List Value}(hL:Loc ((aE (aV []) cs).flatMap Res.S) w w (aE (aV []) cs) [(Jm [] cs args us).on N]):cs=[]∧cM w (fun b=>b<w.heap.size∧N b) [] args us:=by
 have h:=Sh.off (hL.sh 0 rfl)
 have hc:cs=[]:=List.eq_nil_of_length_eq_zero (by have:=h.1.1;simpa[aV]using this.symm)
 subst hc
 exact⟨rfl,jF (fun _ _=>rfl) (fun b hb=>⟨hb.1.1,hb.2⟩) .refl _ _ h.2⟩
theorem Ended.mk0 {fresh:Bool}{N:Nat→Prop}{M:List Nat}{w W:World}{R:List Lt→FV→Prop}{v:Value}{r:FV}{y:List VT}(hR:R [] r) (hb:Below w.heap.size w W) (hok:VT.okL W y) (hnd:(VT.fpL y).Nodup) (hfp:∀b∈VT.fpL y,w.heap.size≤b∧b<W.heap.size)
  (hro:RO W (fun b=>fresh=false∧(b<W.heap.size∧b∉VT.fpL y)∧(N b∨w.heap.size≤b)) [] r v y):Ended fresh N M w [] [] R (.returned v) W:=by
 refine⟨v,[],[],r,y,rfl,hR,rfl,fun _ _ _ h=>by simp at h,rfl,.refl,?_⟩
 refine⟨⟨hb.os,hb.tape,hb.output,hb.size,fun k hk _=>hb.block k hk⟩,fun q hq=>?_,fun b hb=>?_,by simpa[aV,aE,dY]using hnd,fun q hq=>?_⟩
 ·simp[aV,aE]at hq
  subst hq
  exact hok
 ·have:=hfp b (by simpa[aV,aE,dY]using hb)
  exact⟨.inr this.1,this.2⟩
 simp at hq
 subst hq
 refine⟨⟨rfl,fun k o hk=>by simp[aV]at hk⟩,mH (fun _ _=>rfl) (fun b hb=>⟨hb.1,⟨⟨hb.2.1.1,?_⟩,hb.2.2.elim .inl fun h=>.inr (.inr h)⟩⟩) .refl hro⟩
 simpa[aV,aE,dY]using hb.2.1.2
theorem Br {v:Value}(h:∀(N:Nat→Prop) (w:World) us,cM w N [] args us→(∀b,N b→b<w.heap.size)→Calls Tryz.prog f us.toArray w (fun e w'=>e=.returned v∧Below w.heap.size w w')):aL true Tryz.prog f [] args (aU (.one (tv v))):=by
 intro N w cs us hL
 obtain⟨rfl,hf⟩:=mS hL
 refine(h _ w us hf (fun b hb=>hb.1)).mono ?_
 rintro e W ⟨rfl,hb⟩
 refine .mk0 (y:=[.w v]) rfl hb (by simp[VT.okL,VT.ok]) (by simp[VT.fpL,VT.fp]) (by simp[VT.fpL,VT.fp]) ⟨.w v,rfl,rfl,?_⟩
 simp[CR,tv,OR]
end
theorem pE {W:World}{N:Nat→Prop}{a b:FV}{us:List Value}(h:cM W N [] [a,b] us):∃u v,us=[u,v]∧bR W N [] a u∧bR W N [] b v:=by
 match us,h with
 | [u,v],h=>
  simp only[cM]at h
  exact⟨u,v,rfl,h.1,h.2.1⟩
 | [],h=>simp only[cM]at h
 | [_],h=>simp only[cM]at h;exact h.2.elim
 | _::_::_::_,h=>simp only[cM]at h;exact absurd h.2.2 (by simp)
theorem Hp {W:World}{N:Nat→Prop}{a:FV}{us:List Value}(h:cM W N [] [a] us):∃u,us=[u]∧bR W N [] a u:=by
 match us,h with
 | [u],h=>
  simp only[cM]at h
  exact⟨u,rfl,h.1⟩
 | [],h=>simp only[cM]at h
 | _::_::_,h=>simp only[cM]at h;exact absurd h.2 (by simp)
section
variable {a b:Fr4}
end
theorem iD (xs:List Nat){k:Nat}(h:k<xs.length):((aM xs).drop (k*1)).take [Tr.v (.int .u32 ((nth xs k:Nat):Int))].length=[Tr.v (.int .u32 ((nth xs k:Nat):Int))]:=by
 rw[Nat.mul_one]
 have:(aM xs)[k]? =some (Tr.v (.int .u32 ((nth xs k:Nat):Int))):=by simp[aM,bV h,h]
 rw[List.length_singleton,List.take_one]
 simp[this]
theorem aJ {x:Cx}{g:Nat→FV}{ob:List (Option Ob)}(h0:x.c0.length=0) (τ:List Nat) (live:List (Nat×FV)) (os:List Ob) (hn:τ.Nodup) (h1:qV τ g live) (h2:gE τ ob τ os):Sub x g ob (cJ live) (os.map some):=
 su τ (fun k hk=>by rw[h0]at hk;cases hk) live os hn h1 h2
theorem Ol {xs ys:List Nat}{k:Nat}(h:xs.take k=ys.take k) (h1:k<xs.length) (h2:k<ys.length) (he:nth xs k=nth ys k):xs.take (k+1)=ys.take (k+1):=by
 rw[List.take_add_one,List.take_add_one,h]
 rw[bV h1,bV h2]at he
 simp[List.getElem?_eq_getElem h1,List.getElem?_eq_getElem h2,he]
theorem bP (xs:List Nat):((aM xs).map AV.t).take (xs.length*1)=(aM xs).map .t:=by rw[Nat.mul_one,List.take_of_length_le (by simp[hG])]
theorem bK (xs:List Nat):(aM xs).length=xs.length*1:=by simp[hG]
theorem Xr {a b:Fr4}:a=b↔(a.s=b.s∧a.t=b.t)∧a.x=b.x∧a.y=b.y:=by
 obtain⟨s,x,t,y⟩:=a
 obtain⟨s',x',t',y'⟩:=b
 simp only[Fr4.mk.injEq]
 constructor
 ·rintro⟨h1,h2,h3,h4⟩
  exact⟨⟨h1,h3⟩,h2,h4⟩
 rintro⟨⟨h1,h3⟩,h2,h4⟩
 exact⟨h1,h2,h3,h4⟩
instance:DecidableEq Fr4:=fun a b=>decidable_of_iff _ Xr.symm
def Fr4.len (a:Fr4) (m:Nat):Prop:=a.x.length≤m∧a.y.length≤m
def hv:List Nat→List Nat
 | []=>[]
 | x::xs=>x%65536::x/65536::hv xs
def lb:List Nat→List Nat
 | []=>[]
 | [a]=>[a]
 | a::b::l=>(a+65536*b)::lb l
theorem yG:∀(a b:List Nat),hv (a++b)=hv a++hv b
 | [],_=>rfl
 | x::xs,b=>by simp only[List.cons_append,hv,yG xs b]
theorem nE:∀(a:List Nat),(hv a).length=2*a.length
 | []=>rfl
 | x::xs=>by simp only[hv,List.length_cons,nE xs];omega
theorem Lb:∀{a:List Nat},Lim 4294967296 a→Lim 65536 (hv a)
 | [],_=>Lim.nil
 | x::xs,h=>Lim.cons (Nat.mod_lt _ (by omega)) (Lim.cons (by have:=h.head;omega) (Lb h.tail))
theorem Qf:∀(a:List Nat),vl 65536 (hv a)=vl 4294967296 a
 | []=>rfl
 | x::xs=>by
  simp only[hv,eE,Qf xs]
  have:=Nat.mod_add_div x 65536
  omega
theorem Qg {a:List Nat}(h:Lim 4294967296 a):trim (hv a)=dg 65536 (vl 4294967296 a):=by rw[←Qf,dK (by omega) (Lb h)]
theorem Fa {a:List Nat}{k:Nat}(h:k<a.length):hv (a.take (k+1))=hv (a.take k)++[nth a k%65536,nth a k/65536]:=by
 rw[lQ h,yG]
 rfl
theorem Qh:∀(a:List Nat),vl 4294967296 (lb a)=vl 65536 a
 | []=>rfl
 | [a]=>by simp[lb,oC]
 | a::b::l=>by
  simp only[lb,eE,Qh l]
  omega
theorem Lc:∀{a:List Nat},Lim 65536 a→Lim 4294967296 (lb a)
 | [],_=>Lim.nil
 | [a],h=>Lim.cons (by have:=h.head;omega) Lim.nil
 | a::b::l,h=>Lim.cons (by have:=h.head;have:=h.tail.head;omega) (Lc h.tail.tail)
theorem gG:∀(a:List Nat),(lb a).length=(a.length+1)/2
 | []=>rfl
 | [a]=>by simp[lb]
 | a::b::l=>by simp only[lb,List.length_cons,gG l];omega
theorem Xs {a:List Nat}(h:lb a=[]):a=[]:=by
 rcases a with _ | ⟨x,_ | ⟨y,l⟩⟩
 ·rfl
 ·simp[lb]at h
 simp[lb]at h
theorem Fb:∀{a:List Nat},trim a=a→trim (lb a)=lb a
 | [],_=>rfl
 | [a],h=>h
 | a::b::l,h=>by
  have hl:trim l=l:=by
   rw[dG]at h
   split at h
   ·cases h
   injection h with _ h
   rw[dG]at h
   split at h
   ·cases h
   injection h
  have ih:=Fb hl
  simp only[lb]
  rw[dG,ih]
  split
  ·rename_i hc
   have h0:=Xs hc.1
   subst h0
   rw[dG,dG,Mf]at h
   have hb:b=0:=by omega
   have ha:a=0:=by omega
   subst hb ha
   simp at h
  rfl
theorem sL (v:Nat):lb (dg 65536 v)=dg 4294967296 v:=by
 have h:=Fb (oE (B:=65536) (by omega) v)
 rw[←h,←dK (B:=4294967296) (by omega) (Lc (aF (by omega) v)),Qh,aZ (by omega)]
theorem sM:∀{l:List Nat}{k:Nat},2*k<l.length→lb (l.take (2*(k+1)))=lb (l.take (2*k))++[nth l (2*k)+65536*nth l (2*k+1)]
 | [],_,h=>by simp at h
 | [a],0,_=>by simp[lb,nth]
 | [a],k+1,h=>by simp at h
 | a::b::l,0,_=>by simp[lb,nth]
 | a::b::l,k+1,h=>by
  have ih:=sM (l:=l) (k:=k) (by simp at h;omega)
  have e1:2*(k+1+1)=2*(k+1)+1+1:=by omega
  have e2:2*(k+1)=2*k+1+1:=by omega
  rw[e1,List.take_succ_cons,List.take_succ_cons]
  simp only[lb]
  rw[ih,e2,List.take_succ_cons,List.take_succ_cons]
  simp only[lb,List.cons_append]
  simp[nth]
theorem cU {v L:Nat}(h:(dg 4294967296 v).length≤L):(dg 65536 v).length≤2*L:=by
 have h1:=iM (B:=4294967296) (by omega) (n:=v)
 refine bC (by omega) (Nat.lt_of_lt_of_le h1 ?_)
 rw[Nat.pow_mul]
 exact Nat.pow_le_pow_right (by omega) h
theorem Bs {X Y os:List Nat}{k cr:Nat}(hl:os.length=k) (h:vl 65536 os+65536^k*cr=vl 65536 (X.take k)+vl 65536 (Y.take k)):
  vl 65536 (os++[(nth X k+nth Y k+cr)%65536])+65536^(k+1)*((nth X k+nth Y k+cr)/65536)=vl 65536 (X.take (k+1))+vl 65536 (Y.take (k+1)):=by
 rw[iA,aT,aT,hl,Nat.pow_succ,Nat.mul_assoc]
 have h2:=Nat.mod_add_div (nth X k+nth Y k+cr) 65536
 have h3:65536^k*(nth X k+nth Y k+cr)=65536^k*((nth X k+nth Y k+cr)%65536)+65536^k*(65536*((nth X k+nth Y k+cr)/65536)):=by rw[←Nat.mul_add,h2]
 rw[Nat.mul_add,Nat.mul_add]at h3
 omega
theorem Bt {X Y os:List Nat}{k br br' d:Nat}(hl:os.length=k) (h:vl 65536 os+vl 65536 (Y.take k)=vl 65536 (X.take k)+65536^k*br) (hd:d+nth Y k+br=nth X k+65536*br'):
  vl 65536 (os++[d])+vl 65536 (Y.take (k+1))=vl 65536 (X.take (k+1))+65536^(k+1)*br':=by
 rw[iA,aT,aT,hl,Nat.pow_succ,Nat.mul_assoc]
 have h3:65536^k*(d+nth Y k+br)=65536^k*(nth X k+65536*br'):=by rw[hd]
 rw[Nat.mul_add,Nat.mul_add,Nat.mul_add]at h3
 omega
theorem Xt {a b:Nat}(h:¬((a:Int)-(b:Int)).sign<0):b≤a:=by
 rcases Nat.lt_or_ge a b with h1 | h1
 ·exact absurd (by rw[Int.sign_eq_neg_one_of_neg (by omega)];omega) h
 exact h1
theorem Xu {a b:Nat}(h:((a:Int)-(b:Int)).sign<0):a<b:=by
 rcases Nat.lt_or_ge a b with h1 | h1
 ·exact h1
 exact absurd (Int.sign_neg_iff.1 h) (by omega)
theorem yW {X Y:List Nat}{k:Nat}(hX:Lim 65536 X) (hk:∀j,k+1≤j→nth X j=nth Y j) (h:nth X k<nth Y k):vl 65536 X<vl 65536 Y:=by
 have hS:∀m,vl 65536 (X.take (k+1+m))+vl 65536 (Y.take (k+1))=vl 65536 (Y.take (k+1+m))+vl 65536 (X.take (k+1)):=by
  intro m
  induction m with
  | zero=>exact Nat.add_comm _ _
  | succ m ih=>
   rw[←Nat.add_assoc,aT 65536 X (k+1+m),aT 65536 Y (k+1+m),hk (k+1+m) (by omega)]
   omega
 have h1:=hS (X.length+Y.length)
 rw[bE 65536 (l:=X) (k:=k+1+(X.length+Y.length)) (by omega),bE 65536 (l:=Y) (k:=k+1+(X.length+Y.length)) (by omega)]at h1
 have h2:vl 65536 (X.take (k+1))<vl 65536 (Y.take (k+1)):=by
  rw[aT,aT]
  have h3:=dS (hX.take k)
  have h4:65536^(X.take k).length≤65536^k:=Nat.pow_le_pow_right (by omega) (by rw[List.length_take];omega)
  have h5:65536^k*(nth X k+1)≤65536^k*nth Y k:=Nat.mul_le_mul_left _ h
  rw[Nat.mul_add]at h5
  omega
 omega
theorem Ld {X Y:List Nat}(h:∀j,nth X j=nth Y j):vl 65536 X=vl 65536 Y:=by
 have hS:∀m,vl 65536 (X.take m)=vl 65536 (Y.take m):=by
  intro m
  induction m with
  | zero=>rfl
  | succ m ih=>rw[aT,aT,ih,h]
 have h1:=hS (X.length+Y.length)
 rwa[bE 65536 (l:=X) (k:=X.length+Y.length) (by omega),bE 65536 (l:=Y) (k:=X.length+Y.length) (by omega)]at h1
def cV (xs:List Nat):List Tr:=xs.map fun(n:Nat)=>.v (.int .i64 (n:Int))
def sI (o:Bool) (xs:List Nat):Tr:=.s o 3 1 xs.length (cV xs)
theorem eL (xs:List Nat):(cV xs).length=xs.length:=by simp[cV]
theorem dR (xs:List Nat){k:Nat}(h:k<xs.length):((cV xs).drop (k*1)).take [Tr.v (.int .i64 ((nth xs k:Nat):Int))].length=[Tr.v (.int .i64 ((nth xs k:Nat):Int))]:=by
 rw[Nat.mul_one]
 have:(cV xs)[k]? =some (Tr.v (.int .i64 ((nth xs k:Nat):Int))):=by simp[cV,bV h,h]
 rw[List.length_singleton,List.take_one]
 simp[this]
theorem eM (xs ys:List Nat):(cV xs).map AV.t++(cV ys).map .t=(cV (xs++ys)).map .t:=by simp[cV]
theorem Bu (xs ys:List Nat):(aM xs).map AV.t++(aM ys).map .t=(aM (xs++ys)).map .t:=by simp[aM]
theorem Le (xs:List Nat) (k:Nat):(cV xs).take (k*1)=cV (xs.take k):=by simp[cV,List.map_take]
theorem Lg {xs:List Nat}{m:Nat}(h:m≤xs.length):FV.one (.t (.s false 3 1 m ((cV xs).take (m*1))))=.one (.t (sI false (xs.take m))):=by
 rw[Le]
 unfold sI
 rw[List.length_take,Nat.min_eq_left h]
theorem Xv (xs:List Nat):fD ((cV xs).map .t)=true:=by
 induction xs with
 | nil=>rfl
 | cons x xs ih=>simpa[cV,fD,lM]using ih
theorem Om (xs:List Nat):dL ((cV xs).map .t)=true:=by
 induction xs with
 | nil=>rfl
 | cons x xs ih=>simpa[cV,dL,lone]using ih
theorem eK (a b:Nat):Int.tmod (a:Int) (b:Int)=((a%b:Nat):Int):=by
 rw[Int.tmod_eq_emod_of_nonneg (by omega)]
 rfl
theorem dM (a b:Nat):Int.tdiv (a:Int) (b:Int)=((a/b:Nat):Int):=by
 rw[Int.tdiv_eq_ediv_of_nonneg (by omega)]
 rfl
theorem eA {k:IntKind}{a:Nat}(b:Nat) (hb:b≠0) (h:eQ k (a:Int)):(b:Int)≠0∧eQ k (Int.tdiv (a:Int) (b:Int)):=by
 refine⟨by omega,?_⟩
 rw[dM]
 have:=Nat.div_le_self a b
 generalize a/b=c at this⊢
 cases k <;> simp only[eQ]at h⊢ <;> omega
section
variable {x:Cx}{g:Nat→FV}{ob:List (Option Ob)}
theorem qC {i k n:Nat}{zs zs':List Nat}(hi:Nat.blt i x.n=true) (hg:g i=.one (.sl k 0 n)) (ho:bT ob k=some ⟨3,1,(cV zs).map .t⟩) (hn:n=zs.length) (he:zs=zs'):Sub x g ob (aR g i (.one (.t (sI false zs')))) (ob.set k none):=by
 subst he
 have:=fz hi hg ho (by rw[eL,hn,Nat.mul_one])
 rw[hn]at this
 exact this
theorem Ir {i k n:Nat}{zs zs':List Nat}(hi:Nat.blt i x.n=true) (hg:g i=.one (.sl k 0 n)) (ho:bT ob k=some ⟨22,1,(aM zs).map .t⟩) (hn:n=zs.length) (he:zs=zs'):Sub x g ob (aR g i (.one (.t (sU false zs')))) (ob.set k none):=by
 subst he
 have:=fz hi hg ho (by rw[hG,hn,Nat.mul_one])
 rw[hn]at this
 exact this
theorem iY {τ:List Nat}{a:Option Ob}{xs ys:List Nat}{l:List AV}(h1:a=some ⟨3,1,l⟩) (h:l=(cV ys).map .t) (he:ys=xs):xS τ a ⟨3,1,(cV xs).map .t⟩:=cD (by rw[h1,h,he])
theorem Lh {τ:List Nat}{a:Option Ob}{xs ys:List Nat}{l:List AV}(h1:a=some ⟨22,1,l⟩) (h:l=(aM ys).map .t) (he:ys=xs):xS τ a ⟨22,1,(aM xs).map .t⟩:=cD (by rw[h1,h,he])
end
section
variable {l:List Nat}{k N:Nat}{z:Int}{xs:List Nat}{neg:Bool}
theorem vT (hr:cK neg xs=false):kK neg xs=0:=by simp[kK,hr]
theorem kL (h:xs.length=0):cK neg xs= !neg:=by
 rw[List.length_eq_zero_iff]at h
 subst h
 simp[cK]
theorem pV {n:Nat}(hn:xs.length=n) (h:0<n):cK neg xs=decide (((nth xs (n-1):Nat):Int)≠0):=by
 subst hn
 rcases xs with _ | ⟨x,l⟩
 ·simp at h
 simp only[cK,List.isEmpty_cons,Bool.false_and,Bool.not_false,Bool.true_and,Bool.false_or]
 by_cases h0:nth (x::l) ((x::l).length-1)=0
 ·rw[h0];rfl
 rw[bne_iff_ne.2 h0,decide_eq_true (by omega)]
theorem Fc (k:Int):bH (!(aC k)) k.natAbs=-k:=by
 unfold bH aC
 by_cases h:k<0 <;> simp[h] <;> omega
theorem Fd {xs ys:List Nat}(hx:Lim 4294967296 xs) (hy:Lim 4294967296 ys):(dg 4294967296 (vl 4294967296 xs+vl 4294967296 ys)).length≤xs.length+ys.length+1:=by
 refine bC (by omega) ?_
 have h1:=dS hx
 have h2:=dS hy
 have h3:4294967296^xs.length≤4294967296^(xs.length+ys.length):=Nat.pow_le_pow_right (by omega) (by omega)
 have h4:4294967296^ys.length≤4294967296^(xs.length+ys.length):=Nat.pow_le_pow_right (by omega) (by omega)
 rw[Nat.pow_succ]
 omega
theorem Fe {xs ys:List Nat}(hx:Lim 4294967296 xs):(dg 4294967296 (vl 4294967296 xs-vl 4294967296 ys)).length≤xs.length:=bC (by omega) (Nat.lt_of_le_of_lt (Nat.sub_le _ _) (dS hx))
theorem bI (k:Int):vl 4294967296 (dg 4294967296 k.natAbs)=k.natAbs:=aZ (by omega) _
theorem iE {a b:Nat}(h:a≤b):(dg 4294967296 a).length≤(dg 4294967296 b).length:=cQ (by omega) h
theorem pW (k:Int):(dg 4294967296 (-(k)).natAbs).length=(dg 4294967296 k.natAbs).length:=by rw[Int.natAbs_neg]
theorem On {n:Int}(h1:-9223372036854775808≤n) (h2:n≤9223372036854775807):-4294967295≤Int.tmod n 4294967296∧Int.tmod n 4294967296≤4294967295∧-2147483648≤Int.tdiv n 4294967296∧Int.tdiv n 4294967296≤2147483648∧(Int.tmod n 4294967296).natAbs+4294967296*(Int.tdiv n 4294967296).natAbs=n.natAbs∧True:=by
 obtain⟨m,hm⟩:∃m:Nat,n.natAbs=m:=⟨_,rfl⟩
 rw[hm]
 rcases(show n=m∨n=-(m:Int) by omega)with h | h
 ·subst h
  have e1:Int.tmod (m:Int) 4294967296=((m%4294967296:Nat):Int):=by rw[Int.tmod_eq_emod_of_nonneg (by omega)];omega
  have e2:Int.tdiv (m:Int) 4294967296=((m/4294967296:Nat):Int):=by rw[Int.tdiv_eq_ediv_of_nonneg (by omega)];omega
  rw[e1,e2]
  exact⟨by omega,by omega,by omega,by omega,by rw[Int.natAbs_natCast,Int.natAbs_natCast];omega,trivial⟩
 subst h
 have e1:Int.tmod (-(m:Int)) 4294967296=-((m%4294967296:Nat):Int):=by rw[Int.neg_tmod,Int.tmod_eq_emod_of_nonneg (by omega)];omega
 have e2:Int.tdiv (-(m:Int)) 4294967296=-((m/4294967296:Nat):Int):=by rw[Int.neg_tdiv,Int.tdiv_eq_ediv_of_nonneg (by omega)];omega
 rw[e1,e2]
 exact⟨by omega,by omega,by omega,by omega,by rw[Int.natAbs_neg,Int.natAbs_neg,Int.natAbs_natCast,Int.natAbs_natCast];omega,trivial⟩
theorem Xw {n:Int}{a b:Nat}(h:a+4294967296*b=n.natAbs):bH (decide (n<0)) (vl 4294967296 [a,b])=n:=by
 have e:vl 4294967296 [a,b]=n.natAbs:=by simp[vl];omega
 rw[e]
 exact Bp n
theorem yH {k k':Int}{s:Bool}(h:s=aC k) (h':aC k=aC k'):bH s (k.natAbs+k'.natAbs)=k+k':=by
 subst h
 unfold aC at*
 unfold bH
 by_cases h1:k<0 <;> by_cases h2:k'<0 <;> simp[h1,h2]at h'⊢ <;> omega
theorem Ff {k k':Int}{s:Bool}(h:s=aC k) (h':aC k≠aC k') (hl:¬k.natAbs<k'.natAbs):bH s (k.natAbs-k'.natAbs)=k+k':=by
 subst h
 unfold aC at*
 unfold bH
 by_cases h1:k<0 <;> by_cases h2:k'<0 <;> simp[h1,h2]at h'⊢ <;> omega
theorem Fg {k k':Int}{s:Bool}(h:s=aC k') (h':aC k≠aC k') (hl:k.natAbs<k'.natAbs):bH s (k'.natAbs-k.natAbs)=k+k':=by
 subst h
 unfold aC at*
 unfold bH
 by_cases h1:k<0 <;> by_cases h2:k'<0 <;> simp[h1,h2]at h'⊢ <;> omega
theorem Hq {X os:List Nat}{k q:Nat}{a:Nat}(hk:0<k) (hkx:k≤X.length) (hos:os.length=X.length){v r:Nat}(h:vl 65536 (X.drop k)=v*vl 65536 (os.drop k)+r) (ha:a=nth X (k-1)) (hq:q=(a+65536*r)/v):
  vl 65536 (X.drop (k-1))=v*vl 65536 ((os.set (k-1) q).drop (k-1))+(a+65536*r-q*v):=by
 obtain⟨j,rfl⟩:∃j,k=j+1:=⟨k-1,by omega⟩
 simp only[Nat.add_sub_cancel]at*
 have e1:X.drop j=nth X j::X.drop (j+1):=by rw[List.drop_eq_getElem_cons (by omega),bV (by omega)]
 have e2:(os.set j q).drop j=q::os.drop (j+1):=by
  rw[List.drop_eq_getElem_cons (by rw[List.length_set];omega),List.getElem_set_self,List.drop_set_of_lt (by omega)]
 have h2:q*v≤a+65536*r:=by rw[hq];exact Nat.div_mul_le_self _ _
 rw[e1,e2,eE,eE,h,Nat.mul_add,Nat.mul_add,Nat.mul_comm v q,Nat.mul_left_comm v 65536,←ha]
 omega
theorem rJ {xs ys:List Nat}(hx:Lim 65536 xs) (hy:Lim 65536 ys):(dg 65536 (vl 65536 xs*vl 65536 ys)).length≤xs.length+ys.length:=by
 refine bC (by omega) ?_
 rw[Nat.pow_add]
 exact Nat.mul_lt_mul'' (dS hx) (dS hy)
theorem Oo {u v n m:Nat}(hn:(dg 65536 u).length=n) (hm:(dg 65536 v).length=m) (h:n≠m):decide ((n:Int)<(m:Int))=decide (u<v):=by
 have e1:=aZ (B:=65536) (by omega) u
 have e2:=aZ (B:=65536) (by omega) v
 rcases Nat.lt_or_gt_of_ne h with h1 | h1
 ·have h2:=gA (B:=65536) (a:=dg 65536 u) (b:=dg 65536 v) (by omega) (aF (by omega) u) (oE (by omega) v) (by omega)
  rw[decide_eq_true (by omega),decide_eq_true (by omega)]
 have h2:=gA (B:=65536) (a:=dg 65536 v) (b:=dg 65536 u) (by omega) (aF (by omega) v) (oE (by omega) u) (by omega)
 rw[decide_eq_false (by omega),decide_eq_false (by omega)]
theorem Sn {u v k:Nat}(hag:∀j,k+1≤j→nth (dg 65536 u) j=nth (dg 65536 v) j) (h:nth (dg 65536 u) k≠nth (dg 65536 v) k):decide (((nth (dg 65536 u) k:Nat):Int)<((nth (dg 65536 v) k:Nat):Int))=decide (u<v):=by
 have e1:=aZ (B:=65536) (by omega) u
 have e2:=aZ (B:=65536) (by omega) v
 rcases Nat.lt_or_gt_of_ne h with h1 | h1
 ·have h2:=yW (aF (by omega) u) hag h1
  rw[decide_eq_true (by omega),decide_eq_true (by omega)]
 have h2:=yW (aF (by omega) v) (fun j hj=>(hag j hj).symm) h1
 rw[decide_eq_false (by omega),decide_eq_false (by omega)]
theorem nQ {X Y os:List Nat}{n k br br' d:Nat}(hl:os.length=k) (h:vl 65536 os+n*vl 65536 (Y.take k)=vl 65536 (X.take k)+65536^k*br) (hd:d+n*nth Y k+br=nth X k+65536*br'):
  vl 65536 (os++[d])+n*vl 65536 (Y.take (k+1))=vl 65536 (X.take (k+1))+65536^(k+1)*br':=by
 rw[iA,aT,aT,hl,Nat.pow_succ,Nat.mul_assoc,Nat.mul_add,Nat.mul_left_comm n]
 have h3:65536^k*(d+n*nth Y k+br)=65536^k*(nth X k+65536*br'):=by rw[hd]
 rw[Nat.mul_add,Nat.mul_add,Nat.mul_add]at h3
 omega
theorem Oq {u v n k br ln:Nat}{os:List Nat}(hx:(dg 65536 u).length=ln) (hk:os.length=ln) (hol:Lim 65536 os) (h:vl 65536 os+n*vl 65536 ((dg 65536 v).take k)=vl 65536 ((dg 65536 u).take k)+65536^k*br) (hnv:n*v≤u) (hkk:k=ln:=by omega):vl 65536 os=u-n*v:=by
 have h1:=dS hol
 rw[bE 65536 (l:=dg 65536 u) (by omega),aZ (by omega)]at h
 have h2:n*vl 65536 ((dg 65536 v).take k)=n*v:=by
  rcases Nat.eq_zero_or_pos n with h0 | h0
  ·rw[h0,Nat.zero_mul,Nat.zero_mul]
  have h3:v≤u:=Nat.le_trans (Nat.le_mul_of_pos_left v h0) hnv
  have h4:=cQ (B:=65536) (by omega) h3
  rw[bE 65536 (l:=dg 65536 v) (by omega),aZ (by omega)]
 rw[h2]at h
 rcases Nat.eq_zero_or_pos br with h0 | h0
 ·rw[h0,Nat.mul_zero]at h
  omega
 have h5:65536^k*1≤65536^k*br:=Nat.mul_le_mul_left _ h0
 rw[hk,←hkk]at h1
 omega
theorem Li {u v lo hi:Nat}(h1:lo*v≤u) (h2:u<hi*v) (h:hi=lo+1):u/v=lo:=by
 subst h
 have hv:0<v:=by
  rcases Nat.eq_zero_or_pos v with h0 | h0
  ·subst h0;simp at h2
  exact h0
 exact(Nat.div_eq_iff hv).2 (by rw[Nat.add_mul]at h2;omega)
theorem rK {a r:Nat}(ha:a<65536):trim ([a]++dg 65536 r)=dg 65536 (a+65536*r):=
 rL (by omega) (Lim.cons ha (aF (by omega) r)) (by show a+65536*vl 65536 (dg 65536 r)=_;rw[aZ (by omega)])
theorem Ot {a r v:Nat}(ha:a<65536) (hr:r<v):(dg 65536 (a+65536*r)).length≤(dg 65536 v).length+1:=by
 rw[←rK ha]
 refine Nat.le_trans (bY _) ?_
 have:=cQ (B:=65536) (by omega) (Nat.le_of_lt hr)
 simp only[List.length_append,List.length_cons,List.length_nil]
 omega
theorem Bv {l:List Nat}{j v:Nat}(h:j<l.length):nth (l.set j v) j=v:=by simp[nth,h]
theorem Lj {u v r q:Nat}(h:u=v*q+r) (hr:r<v):q=u/v∧r=u%v:=by
 subst h
 rw[Nat.mul_add_div (by omega),Nat.div_eq_of_lt hr,Nat.mul_add_mod,Nat.mod_eq_of_lt hr]
 exact⟨rfl,rfl⟩
theorem So {x y:Int}(hx:x.sign≠0) (h:x.sign≠y.sign) (hy:y≠0):(x<0∧0<y)∨(0<x∧y<0):=by
 rcases Int.lt_trichotomy x 0 with h1 | h1 | h1
 ·rcases Int.lt_trichotomy y 0 with h2 | h2 | h2
  ·rw[Int.sign_eq_neg_one_of_neg h1,Int.sign_eq_neg_one_of_neg h2]at h;exact absurd rfl h
  ·exact absurd h2 hy
  exact .inl ⟨h1,h2⟩
 ·rw[h1]at hx;exact absurd rfl hx
 rcases Int.lt_trichotomy y 0 with h2 | h2 | h2
 ·exact .inr ⟨h1,h2⟩
 ·exact absurd h2 hy
 rw[Int.sign_eq_one_of_pos h1,Int.sign_eq_one_of_pos h2]at h;exact absurd rfl h
theorem Sp {x y:Int}(h:x.sign=0∨x.sign=y.sign) (hy:y≠0):x=0∨(x<0∧y<0)∨(0<x∧0<y):=by
 rcases Int.lt_trichotomy x 0 with h1 | h1 | h1
 ·rw[Int.sign_eq_neg_one_of_neg h1]at h
  rcases Int.lt_trichotomy y 0 with h2 | h2 | h2
  ·exact .inr (.inl ⟨h1,h2⟩)
  ·exact absurd h2 hy
  rw[Int.sign_eq_one_of_pos h2]at h;omega
 ·exact .inl h1
 rw[Int.sign_eq_one_of_pos h1]at h
 rcases Int.lt_trichotomy y 0 with h2 | h2 | h2
 ·rw[Int.sign_eq_neg_one_of_neg h2]at h;omega
 ·exact absurd h2 hy
 exact .inr (.inr ⟨h1,h2⟩)
theorem Qi {a b:Int}(h0:b≠0):bH (aC a) (a.natAbs%b.natAbs)+b*bH (aC a != aC b) (a.natAbs/b.natAbs)=a∧(bH (aC a) (a.natAbs%b.natAbs)).natAbs<b.natAbs:=by
 have e:=Nat.div_add_mod a.natAbs b.natAbs
 have l:=Nat.mod_lt a.natAbs (show 0<b.natAbs by omega)
 refine⟨?_,by rw[gN];exact l⟩
 generalize a.natAbs/b.natAbs=q at*
 generalize a.natAbs%b.natAbs=r at*
 have e2:(b.natAbs:Int)*q+r=a.natAbs:=by exact_mod_cast e
 by_cases hb:b<0 <;> by_cases ha:a<0
 ·rw[show(b.natAbs:Int)=-b by omega,show(a.natAbs:Int)=-a by omega,Int.neg_mul]at e2
  simp[bH,aC,hb,ha];omega
 ·rw[show(b.natAbs:Int)=-b by omega,show(a.natAbs:Int)=a by omega,Int.neg_mul]at e2
  simp[bH,aC,hb,ha,Int.mul_neg];omega
 ·rw[show(b.natAbs:Int)=b by omega,show(a.natAbs:Int)=-a by omega]at e2
  simp[bH,aC,hb,ha,Int.mul_neg];omega
 rw[show(b.natAbs:Int)=b by omega,show(a.natAbs:Int)=a by omega]at e2
 simp[bH,aC,hb,ha];omega
theorem Sq {a b r q:Int}(h0:b≠0) (hr:r=bH (aC a) (a.natAbs%b.natAbs)) (hq:q=bH (aC a != aC b) (a.natAbs/b.natAbs)) (h1:r.sign≠0) (h2:r.sign≠b.sign):q-1=a.fdiv b∧r+b=a.fmod b:=by
 obtain⟨h3,h4⟩:=Qi (a:=a) h0
 rw[←hr]at h3 h4
 rw[←hq]at h3
 have h5:=So h1 h2 h0
 have h6:=yF (a:=a) (b:=b) (q:=q-1) (r:=r+b) h0 (by rw[Int.mul_sub,Int.mul_one];omega) (by omega) (by omega)
 exact⟨h6.1.symm,h6.2.symm⟩
theorem Fh {a b r q:Int}(h0:b≠0) (hr:r=bH (aC a) (a.natAbs%b.natAbs)) (hq:q=bH (aC a != aC b) (a.natAbs/b.natAbs)) (h:r.sign=0∨r.sign=b.sign):q=a.fdiv b∧r=a.fmod b:=by
 obtain⟨h3,h4⟩:=Qi (a:=a) h0
 rw[←hr]at h3 h4
 rw[←hq]at h3
 have h5:=Sp h h0
 have h6:=yF (a:=a) (b:=b) (q:=q) (r:=r) h0 h3 (by omega) (by omega)
 exact⟨h6.1.symm,h6.2.symm⟩
theorem Cw {k:Int}(h:(dg 4294967296 k.natAbs).length=0):k.natAbs=0:=(dH (by omega)).1 (List.length_eq_zero_iff.1 h)
theorem Lk {k:Int}(h:(dg 4294967296 k.natAbs).length≠0):k≠0:=by
 intro h0
 subst h0
 exact h (by rw[show Int.natAbs 0=0 from rfl,fV];rfl)
def iL (l:List Nat) (k N:Nat):List Nat:=lb (l.take k)++List.replicate (N-(k+1)/2) 0
theorem Ou:iL l 0 N=List.replicate N 0:=by simp[iL,lb]
theorem Sr (hN:N=(l.length+1)/2) (h:l.length≤k):iL l k N=lb l:=by
 unfold iL
 rw[List.take_of_length_le h,show N-(k+1)/2=0 by omega]
 simp
theorem Ss (hN:N=(l.length+1)/2) (hk:k≤l.length):(iL l k N).length=N:=by
 unfold iL
 rw[List.length_append,List.length_replicate,gG,List.length_take,Nat.min_eq_left hk]
 omega
theorem sN:∀{l:List Nat}{j:Nat},2*j<l.length→lb (l.take (2*j+1))=lb (l.take (2*j))++[nth l (2*j)]
 | [],_,h=>by simp at h
 | [a],0,_=>by simp[lb,nth]
 | [a],j+1,h=>by simp at h
 | a::b::l,0,_=>by simp[lb,nth]
 | a::b::l,j+1,h=>by
  have ih:=sN (l:=l) (j:=j) (by simp at h;omega)
  have e2:2*(j+1)=2*j+1+1:=by omega
  rw[e2,List.take_succ_cons,List.take_succ_cons,List.take_succ_cons,List.take_succ_cons]
  simp only[lb,List.cons_append]
  rw[ih]
  simp[nth]
theorem Fi {α:Type}(A R:List α) (x y:α){j:Nat}(h:A.length=j):(A++x::R).set j y=A++y::R:=by
 subst h
 rw[List.set_append_right _ _ (Nat.le_refl _),Nat.sub_self]
 rfl
theorem St (A R:List Nat) (x:Nat){j:Nat}(h:A.length=j):nth (A++x::R) j=x:=by
 subst h
 simp[nth]
theorem Ov (hN:N=(l.length+1)/2) (hk:k<l.length) (he:k%2=0):(iL l k N).set (k/2) (nth l k)=iL l (k+1) N:=by
 obtain⟨j,rfl⟩:∃j,k=2*j:=⟨k/2,by omega⟩
 have hA:(lb (l.take (2*j))).length=j:=by rw[gG,List.length_take,Nat.min_eq_left (by omega)];omega
 unfold iL
 rw[show 2*j/2=j by omega,show N-(2*j+1)/2=(N-(2*j+1+1)/2)+1 by omega,List.replicate_succ,Fi _ _ _ _ hA,sN hk,List.append_assoc]
 rfl
theorem sW (hN:N=(l.length+1)/2) (hk:k<l.length) (ho:k%2=1):nth (iL l k N) (k/2)=nth l (k-1):=by
 obtain⟨j,rfl⟩:∃j,k=2*j+1:=⟨k/2,by omega⟩
 have hA:(lb (l.take (2*j))).length=j:=by rw[gG,List.length_take,Nat.min_eq_left (by omega)];omega
 unfold iL
 rw[show(2*j+1)/2=j by omega,sN (by omega),List.append_assoc]
 exact St _ _ _ hA
theorem Su (hN:N=(l.length+1)/2) (hk:k<l.length) (ho:k%2=1):(iL l k N).set (k/2) (nth (iL l k N) (k/2)+65536*nth l k)=iL l (k+1) N:=by
 rw[sW hN hk ho]
 obtain⟨j,rfl⟩:∃j,k=2*j+1:=⟨k/2,by omega⟩
 have hA:(lb (l.take (2*j))).length=j:=by rw[gG,List.length_take,Nat.min_eq_left (by omega)];omega
 unfold iL
 rw[show(2*j+1)/2=j by omega,sN (by omega),List.append_assoc,show 2*j+1+1=2*(j+1) by omega,sM (by omega),List.append_assoc,show 2*j+1-1=2*j by omega]
 rw[show N-(2*(j+1))/2=N-(2*(j+1)+1)/2 by omega]
 exact Fi _ _ _ _ hA
theorem Xx {l:List Nat}{j v:Nat}:j<l.length→vl 65536 (l.set j v)+65536^j*nth l j=vl 65536 l+65536^j*v:=by
 induction l generalizing j with
 | nil=>intro h;simp at h
 | cons x l ih=>
  intro h
  rcases j with _ | j
  ·simp[nth,eE];omega
  have:=ih (j:=j) (by simpa using h)
  simp only[List.set_cons_succ,eE]
  rw[Nat.pow_succ,show nth (x::l) (j+1)=nth l j by simp[nth],Nat.mul_comm (65536^j) 65536,Nat.mul_assoc,Nat.mul_assoc]
  omega
theorem mC {os a b:List Nat}{i k cr x:Nat}(hj:i+k<os.length) (h:vl 65536 os+65536^(i+k)*cr=vl 65536 (a.take i)*vl 65536 b+65536^i*(nth a i*vl 65536 (b.take k))) (hx:x=nth os (i+k)+cr+nth a i*nth b k):
  vl 65536 (os.set (i+k) (x%65536))+65536^(i+(k+1))*(x/65536)=vl 65536 (a.take i)*vl 65536 b+65536^i*(nth a i*vl 65536 (b.take (k+1))):=by
 have h1:=Xx (v:=x%65536) hj
 have h2:=Nat.mod_add_div x 65536
 have h3:65536^(i+k)*x=65536^(i+k)*(x%65536)+65536^(i+k)*(65536*(x/65536)):=by rw[←Nat.mul_add,h2]
 have h4:65536^(i+k)*x=65536^(i+k)*nth os (i+k)+65536^(i+k)*cr+65536^(i+k)*(nth a i*nth b k):=by rw[hx,Nat.mul_add,Nat.mul_add]
 rw[aT,Nat.mul_add,Nat.mul_add,show i+(k+1)=i+k+1 by omega,Nat.pow_succ,Nat.mul_assoc]
 have h5:65536^i*(nth a i*(65536^k*nth b k))=65536^(i+k)*(nth a i*nth b k):=by
  rw[Nat.pow_add,Nat.mul_left_comm (nth a i),Nat.mul_assoc]
 omega
theorem vU {a b:List Nat}{i k:Nat}(hk:b.length≤k):vl 65536 (a.take i)*vl 65536 b+65536^i*(nth a i*vl 65536 (b.take k))=vl 65536 (a.take (i+1))*vl 65536 b:=by
 rw[bE 65536 hk,aT,Nat.add_mul,Nat.mul_assoc]
theorem Bw {os a b:List Nat}{i k cr:Nat}(ha:Lim 65536 a) (hb:Lim 65536 b) (hi:i<a.length) (hk:k≤b.length+1) (h:vl 65536 os+65536^(i+k)*cr=vl 65536 (a.take i)*vl 65536 b+65536^i*(nth a i*vl 65536 (b.take k))) (hc:0<cr):k≤b.length:=by
 rcases Nat.lt_or_ge b.length k with h1 | h1
 ·exfalso
  rw[vU (by omega)]at h
  have h2:=dS (ha.take (i+1))
  have h3:=dS hb
  have h4:vl 65536 (a.take (i+1))*vl 65536 b<65536^(a.take (i+1)).length*65536^b.length:=Nat.mul_lt_mul'' h2 h3
  rw[←Nat.pow_add,List.length_take,Nat.min_eq_left (by omega),show i+1+b.length=i+k by omega]at h4
  have h5:65536^(i+k)*1≤65536^(i+k)*cr:=Nat.mul_le_mul_left _ hc
  omega
 exact h1
end
theorem Sv {k k':Int}(h:aC k=true) (h':aC k'=false):(-1:Int)=(k-k').sign:=by
 unfold aC at h h'
 simp at h h'
 rw[Int.sign_eq_neg_one_of_neg (by omega)]
theorem Sx {k k':Int}(h:aC k=false) (h':aC k'=true):(1:Int)=(k-k').sign:=by
 unfold aC at h h'
 simp at h h'
 rw[Int.sign_eq_one_of_pos (by omega)]
theorem Sy {k k':Int}(h:aC k=true) (h':aC k'=true):(((k'.natAbs:Nat):Int)-((k.natAbs:Nat):Int)).sign=(k-k').sign:=by
 unfold aC at h h'
 simp at h h'
 rw[show((k'.natAbs:Nat):Int)-((k.natAbs:Nat):Int)=k-k' by omega]
theorem Ta {k k':Int}(h:aC k=false) (h':aC k'=false):(((k.natAbs:Nat):Int)-((k'.natAbs:Nat):Int)).sign=(k-k').sign:=by
 unfold aC at h h'
 simp at h h'
 rw[show((k.natAbs:Nat):Int)-((k'.natAbs:Nat):Int)=k-k' by omega]
theorem kM (v:Nat):(dg 4294967296 v).length≤(dg 65536 v).length:=by
 rw[←sL,gG]
 omega
theorem Bx (xs:List Nat){k:Nat}(h:k<xs.length):((cV xs).map AV.t)[0+k*1]? =some (tv (.int .i64 ((nth xs k:Nat):Int))):=by simp[cV,bV h,h,tv]
theorem Xy (xs:List Nat){k:Nat}(h:k<xs.length):((aM xs).map AV.t)[0+k*1]? =some (tv (.int .u32 ((nth xs k:Nat):Int))):=by simp[aM,bV h,h,tv]
theorem mE (xs:List Nat){k v:Nat}(h:k<xs.length):dJ ((cV xs).map AV.t) (0+k*1) [tv (.int .i64 (v:Int))]=(cV (xs.set k v)).map .t:=by
 rw[Nat.zero_add,Nat.mul_one,List.set_eq_take_append_cons_drop,if_pos h]
 simp[dJ,cV,tv,List.map_take,List.map_drop]
theorem wG (xs:List Nat){k v:Nat}(h:k<xs.length):dJ ((aM xs).map AV.t) (0+k*1) [tv (.int .u32 (v:Int))]=(aM (xs.set k v)).map .t:=by
 rw[Nat.zero_add,Nat.mul_one,List.set_eq_take_append_cons_drop,if_pos h]
 simp[dJ,aM,tv,List.map_take,List.map_drop]
theorem oH (xs:List Nat){k:Nat}{a:AV}(h:k<xs.length):0+k*1+[a].length≤((cV xs).map AV.t).length:=by simp[cV];omega
theorem zO (xs:List Nat){k:Nat}{a:AV}(h:k<xs.length):0+k*1+[a].length≤((aM xs).map AV.t).length:=by simp[aM];omega
theorem tD (m:Nat):(List.replicate m (Value.int .i64 0)).map tv=(cV (List.replicate m 0)).map .t:=by simp[cV,tv]
theorem Ow (m:Nat):(List.replicate m (Value.int .u32 0)).map tv=(aM (List.replicate m 0)).map .t:=by simp[aM,tv]
structure Zi where
 s:Bool
 x:List Nat
def Zi.of (k:Int):Zi:=⟨aC k,dg 4294967296 k.natAbs⟩
def gF (a:Zi):FV:=.agg (([.v (.bool a.s),sU false a.x]:List Tr).map .t)
def kF (k:Int):FV:=.agg (([.v (.bool (aC k)),sU false (dg 4294967296 k.natAbs)]:List Tr).map .t)
def kO (k:Int):FV:=.agg (([.v (.bool (aC k)),sU true (dg 4294967296 k.natAbs)]:List Tr).map .t)
def Zn (a:Zi) (k:Int):Prop:=Lim 4294967296 a.x∧a.x.length≤137438953472∧kK a.s a.x=k
theorem Zn.of {k:Int}(h:(dg 4294967296 k.natAbs).length≤137438953472):Zn (.of k) k:=⟨aF (by omega) _,h,Kz k⟩
theorem DW:Zn ⟨false,[]⟩ 0:=⟨Lim.nil,by simp,rfl⟩
theorem Zn.len {a:Zi}{k:Int}(h:Zn a k):(dg 4294967296 k.natAbs).length≤137438953472:=by
 obtain⟨h1,h2,rfl⟩:=h
 exact Nat.le_trans (xE h1) h2
theorem Zn.right {a:Zi}{k:Int}(h:Zn a k) (hr:cK a.s a.x=true):aC k=a.s∧dg 4294967296 k.natAbs=a.x:=by
 obtain⟨h1,h2,rfl⟩:=h
 exact⟨wH h1 hr,oJ h1 hr⟩
theorem Zn.wrong {a:Zi}{k:Int}(h:Zn a k) (hr:cK a.s a.x=false):k=0:=by
 obtain⟨h1,h2,rfl⟩:=h
 exact vT hr
theorem Ox {a:Zi}{k:Int}(h:Zn a k) (hr:cK a.s a.x=true):gF a=kF k:=by
 obtain⟨h1,h2⟩:=h.right hr
 unfold gF kF
 rw[h1,h2]
theorem pX {b:Bool}{m:Nat}{k:Int}(h:b=aC k) (hm:m=k.natAbs):FV.agg [tv (.bool b),.t (sU true (dg 4294967296 m))]=kO k:=by subst h hm;rfl
theorem xG:FV.agg [tv (.bool false),.t (sU false [])]=kF 0:=by
 unfold kF
 rw[show Int.natAbs 0=0 from rfl,fV]
 rfl
theorem cG (k:Int):nO (kO k):=by
 simp only[nO,kO,qY,List.map_cons,List.map_nil,lN,vD,sU,mZ]
 exact⟨trivial,.inl ⟨trivial,eX _⟩,trivial⟩
theorem xH (b:Bool) (m:Nat):nO (.agg (([.v (.bool b),sU true (dg 4294967296 m)]:List Tr).map .t)):=by
 simp only[nO,qY,List.map_cons,List.map_nil,lN,vD,sU,mZ]
 exact⟨trivial,.inl ⟨trivial,eX _⟩,trivial⟩
theorem AK:CallOk Tryz.prog 105:=.mk Tryz.func105 (by decide) rfl
def bM (l:List Nat):Nat:=l.foldl (fun n c=>n*10+(c-48)) 0
theorem Oy {l:List Nat}{k:Nat}(h:k<l.length):bM (l.take k)*10+(nth l k-48)=bM (l.take (k+1)):=by
 have e:l[k]? =some (nth l k):=by rw[bV h];simp[h]
 rw[List.take_add_one,e]
 simp[bM]
theorem yX:∀{l:List Nat}{k:Nat},(∀c∈l,48≤c∧c≤57)→k≤l.length→bM (l.take k)<10^k
 | l,0,_,_=>by simp[bM]
 | l,k+1,h,hk=>by
  have ih:=yX (k:=k) h (by omega)
  have h2:=h (nth l k) (by rw[bV (by omega)];exact List.getElem_mem _)
  rw[←Oy (by omega),Nat.pow_succ]
  omega
theorem uP {l:List Nat}{k:Nat}(h:∀c∈l,48≤c∧c≤57) (hk:k<l.length):48≤nth l k∧nth l k≤57:=h _ (by rw[bV hk];exact List.getElem_mem hk)
theorem Tb {l:List Nat}(h:∀c∈l,48≤c∧c≤57):Lim 256 l:=fun c hc=>by have:=h c hc;omega
theorem AM {k:Nat}(h:k≤17):10^k≤100000000000000000:=Nat.le_trans (Nat.pow_le_pow_right (by omega) h) (by decide)
theorem Tc {l:List Nat}(hd:∀c∈l,48≤c∧c≤57) (h0l:0<l.length) (h18:l.length≤18):aL true Tryz.prog 105 [] [.one (tv (.string (aW l)))] (aU (.tup [.one (tv (.int .i64 ((bM l:Nat):Int))),.one (tv .nilIface)])):=by
 refine cF Tryz.func105 rfl Tryz.ntmps105 rfl aA rfl fun N9 w9 c0 h0=>?_
 have hd0:=uP hd h0l
 refine sq ?_;refine rl ?_;refine o1 ?_;refine o1 ?_;refine nl ?_;refine sq ?_;refine rl ?_;refine o1 ?_;refine o1 ?_
 refine WL.cast (t:=12) (u':=.int .i64 ((l.length:Nat):Int)) rfl (congrArg (fun n:Nat=>Value.int .i64 (n:Int)) (bL _)) ?_
 refine o1 ?_;refine nl ?_;refine sq ?_;refine sq ?_;refine rl ?_;refine o1 ?_;(iterate 6 refine cW ?_);(iterate 6 refine o1 ?_);refine WL.split (t:=25) rfl (fun h1=>?_) (fun h1=>?_)
 ·(iterate 5 refine o1 ?_);refine nl ?_;refine bU rfl (fun h2=>?_) (fun h2=>?_)
  ·refine sq ?_;refine rl ?_;refine o1 ?_;refine o1 ?_;refine nl ?_;refine sq ?_;refine sq ?_;refine rl ?_;refine o1 ?_;refine o1 ?_ (hC:=(by rw[bL];show 0<l.length;omega))
   refine WL.cast (t:=33) (u':=.int .u8 (((nth l 0):Nat):Int)) rfl (congrArg (fun n:Nat=>Value.int .u8 (n:Int)) (jD (i:=0) (by omega) (by omega))) ?_
   refine o1 ?_;refine o1 ?_;refine WL.split (t:=35) rfl (fun h3=>?_) (fun h3=>?_)
   ·omega
   refine o1 ?_;refine o1 ?_ (hC:=(by rw[bL];show 0<l.length;omega))
   refine WL.cast (t:=37) (u':=.int .u8 (((nth l 0):Nat):Int)) rfl (congrArg (fun n:Nat=>Value.int .u8 (n:Int)) (jD (i:=0) (by omega) (by omega))) ?_
   refine o1 ?_;refine o1 ?_;refine nl ?_;refine bU rfl (fun h4=>?_) (fun h4=>?_)
   ·omega
   refine sk ?_;refine sq ?_;refine rl ?_;refine o1 ?_;refine nl ?_;refine sq ?_;refine sq ?_;refine rl ?_;refine o1 ?_;refine DT (Tb hd) (by omega) ?_
   refine o1 ?_;refine o1 ?_;refine nl ?_;refine bl ?_
   refine lp (γ:=Nat) (fun k=>cJ [(5,.one (tv (.string (aW l)))),(6,.one (tv (.int .i64 ((bM (l.take k):Nat):Int)))),(47,.one (.t (.s false 5 1 l.length (cY l)))),(48,.one (tv (.int .i64 ((l.length:Nat):Int)))),(49,.one (tv (.int .i64 ((k:Nat):Int))))]) (fun _=>([]:List Ob).map some) (fun k=>k≤l.length) (fun k=>l.length-k) 0 (Nat.zero_le _) (aJ h0 [] _ _ (by decide) ⟨rfl,rfl,rfl,rfl,rfl,trivial⟩ rfl) fun k hk=>?_
   refine sq ?_;refine rl ?_;refine o1 ?_;refine nl ?_;refine sq ?_;refine bU rfl (fun h5=>?_) (fun h5=>?_)
   ·refine sk ?_;refine sq ?_;refine bl ?_;refine sq ?_;have hdk:=uP hd (k:=k) (by omega)
    have hvk:=Nat.lt_of_lt_of_le (yX (k:=k) hd hk) (AM (by omega))
    refine rl ?_;refine o1 ?_;refine iT ([.v (.int .u8 ((nth l (k):Nat):Int))]) (AD l (k:=k) (by omega)) ?_
    refine o1 ?_;refine nl ?_;refine sq ?_;refine rl ?_;refine o1 ?_;refine o1 ?_;refine WL.cast (t:=54) (u':=.int .u8 (((nth l k-48):Nat):Int)) rfl (aH (by omega)) ?_
    refine o1 ?_;refine nl ?_;refine sq ?_;refine sq ?_;refine rl ?_;refine o1 ?_;refine o1 ?_;refine nl ?_;refine bU rfl (fun h6=>?_) (fun h6=>?_)
    ·omega
    refine sk ?_;refine rl ?_;refine o1 ?_;refine o1 ?_;refine WL.cast (t:=59) (u':=.int .i64 (((bM (l.take k)*10):Nat):Int)) rfl (aH (by omega)) ?_
    refine o1 ?_;refine o1 ?_;refine WL.cast (t:=61) (u':=.int .i64 (((nth l k-48):Nat):Int)) rfl (aH (by omega)) ?_
    refine o1 ?_;refine WL.cast (t:=62) (u':=.int .i64 (((bM (l.take k)*10+(nth l k-48)):Nat):Int)) rfl (aH (by omega)) ?_
    refine WL.cast (t:=62) (u':=.int .i64 (((bM (l.take k)*10)+(nth l k-48):Nat):Int)) rfl (aH (by omega)) ?_
    refine o1 ?_;refine nl ?_;refine rl ?_;refine o1 ?_;refine WL.cast (t:=63) (u':=.int .i64 ((k+1:Nat):Int)) rfl (aH (by omega)) ?_
    refine o1 ?_;refine nl ?_
    exact⟨k+1,by omega,by omega,aJ h0 [] _ _ (by decide) ⟨rfl,uJ (congrArg (fun n:Nat=>(n:Int)) (Oy (by omega)).symm),rfl,rfl,rfl,trivial⟩ rfl⟩
   refine ex ?_;refine sq ?_;refine sq ?_;refine rl ?_;refine o1 ?_;refine o1 ?_ (hC:=(by rw[bL];show 0<l.length;omega))
   refine WL.cast (t:=65) (u':=.int .u8 (((nth l 0):Nat):Int)) rfl (congrArg (fun n:Nat=>Value.int .u8 (n:Int)) (jD (i:=0) (by omega) (by omega))) ?_
   refine o1 ?_;refine nl ?_;refine bU rfl (fun h7=>?_) (fun h7=>?_)
   ·omega
   refine sk ?_;refine sq ?_;refine rl ?_;(iterate 3 refine o1 ?_);refine nl ?_;refine rt ?_;have hk9:k=l.length:=by omega
   exact en (.inl rfl) rfl (eH (.cons (bQ _) (.cons (bQ _) .nil))) (by decide) (fun _=>⟨trivial,trivial,trivial⟩) (by rw[hk9,List.take_of_length_le (Nat.le_refl _)];rfl)
  omega
 omega
theorem vV {l:List Nat}(hd:∀c∈l,48≤c∧c≤57) (h0l:0<l.length) (h18:l.length≤18):aL true Tryz.prog 49 [] [.one (tv (.string (aW l)))] (aU (.tup [.one (tv (.int .i64 ((bM l:Nat):Int))),.one (tv .nilIface)])):=by
 refine cF Tryz.func49 rfl Tryz.ntmps49 rfl aA rfl fun N9 w9 c0 h0=>?_
 refine sq ?_;refine rl ?_;refine o1 ?_;refine o1 ?_;refine nl ?_;refine sq ?_;refine rl ?_;refine o1 ?_
 refine ca (Tc hd h0l h18) AK ⟨a1 rfl,rfl⟩ (.tup [.one (tv (.int .i64 ((bM l:Nat):Int))),.one (tv .nilIface)]) ?_;(iterate 5 refine o1 ?_);refine nl ?_;refine sq ?_;refine sq ?_
 refine rl ?_;refine o1 ?_;refine DU ?_ (by kernel_rfl)
 refine nl ?_;refine eR rfl ?_;refine sk ?_;refine sq ?_;refine rl ?_;(iterate 3 refine o1 ?_);refine nl ?_;refine rt ?_
 exact en (.inl rfl) rfl (eH (.cons (bQ _) (.cons (bQ _) .nil))) (by decide) (fun _=>⟨trivial,trivial,trivial⟩) rfl
end Go.Proofs.YteggpgndiajdpaaGreatDoor
namespace Go.Proofs.YteggpgndiajdpaaGreatDoor
open Go Go.Shelf
def lays160_ren:Go.Shelf.Ren:=⟨fun | 160=>48 | 232=>99 | 231=>98 | 227=>100 | 234=>102 | 233=>101 | 236=>104 | 235=>103 | 228=>134 | 271=>137 | 151=>136 | 197=>135 | 120=>153 | 152=>152 | 260=>151 | 137=>159 | 119=>160 | 224=>161 | 225=>162 | 217=>166 | 266=>168 | n=>n,fun | 9=>9 | 4=>4 | 3=>3 | 5=>5 | 117=>127 | 116=>126 | 0=>0 | 124=>130 | 21=>21 | 105=>151 | 46=>85 | 119=>175 | 139=>178 | 138=>177 | n=>n,fun | 3=>3 | 4=>4 | n=>n⟩
theorem Td:Go.Proofs.Lays.n160 Tryz.prog lays160_ren:={
 mixed:=by kernel_rfl
 f119:=Tryz.func160.trans (congrArg some (by kernel_rfl))
 f120:=Tryz.func153.trans (congrArg some (by kernel_rfl))
 f137:=Tryz.func159.trans (congrArg some (by kernel_rfl))
 f151:=Tryz.func136.trans (congrArg some (by kernel_rfl))
 f152:=Tryz.func152.trans (congrArg some (by kernel_rfl))
 f160:=Tryz.func48.trans (congrArg some (by kernel_rfl))
 f197:=Tryz.func135.trans (congrArg some (by kernel_rfl))
 f217:=Tryz.func166.trans (congrArg some (by kernel_rfl))
 f224:=Tryz.func161.trans (congrArg some (by kernel_rfl))
 f225:=Tryz.func162.trans (congrArg some (by kernel_rfl))
 f227:=Tryz.func100.trans (congrArg some (by kernel_rfl))
 f228:=Tryz.func134.trans (congrArg some (by kernel_rfl))
 f231:=Tryz.func98.trans (congrArg some (by kernel_rfl))
 f232:=Tryz.func99.trans (congrArg some (by kernel_rfl))
 f233:=Tryz.func101.trans (congrArg some (by kernel_rfl))
 f234:=Tryz.func102.trans (congrArg some (by kernel_rfl))
 f235:=Tryz.func103.trans (congrArg some (by kernel_rfl))
 f236:=Tryz.func104.trans (congrArg some (by kernel_rfl))
 f260:=Tryz.func151.trans (congrArg some (by kernel_rfl))
 f266:=Tryz.func168.trans (congrArg some (by kernel_rfl))
 f271:=Tryz.func137.trans (congrArg some (by kernel_rfl))
 t0:=Tryz.underlying0
 a0:=Tryz.isAgg0
 z0:=Tryz.sizeOf0
 v0:=Tryz.zeroValue0
 t3:=Tryz.underlying3
 a3:=Tryz.isAgg3
 z3:=Tryz.sizeOf3
 v3:=Tryz.zeroValue3
 t4:=Tryz.underlying4
 a4:=Tryz.isAgg4
 z4:=Tryz.sizeOf4
 v4:=Tryz.zeroValue4
 t5:=Tryz.underlying5
 a5:=Tryz.isAgg5
 z5:=Tryz.sizeOf5
 v5:=Tryz.zeroValue5
 t9:=Tryz.underlying9
 a9:=Tryz.isAgg9
 z9:=Tryz.sizeOf9
 v9:=Tryz.zeroValue9
 t21:=Tryz.underlying21
 a21:=Tryz.isAgg21
 z21:=Tryz.sizeOf21
 v21:=Tryz.zeroValue21
 t46:=Tryz.underlying85
 a46:=Tryz.isAgg85
 z46:=Tryz.sizeOf85
 v46:=Tryz.zeroValue85
 t105:=Tryz.underlying151
 a105:=Tryz.isAgg151
 z105:=Tryz.sizeOf151
 v105:=Tryz.zeroValue151
 t116:=Tryz.underlying126
 a116:=Tryz.isAgg126
 z116:=Tryz.sizeOf126
 t117:=Tryz.underlying127
 a117:=Tryz.isAgg127
 z117:=Tryz.sizeOf127
 v117:=Tryz.zeroValue127
 t119:=Tryz.underlying175
 a119:=Tryz.isAgg175
 z119:=Tryz.sizeOf175
 t124:=Tryz.underlying130
 a124:=Tryz.isAgg130
 z124:=Tryz.sizeOf130
 v124:=Tryz.zeroValue130
 t138:=Tryz.underlying177
 a138:=Tryz.isAgg177
 z138:=Tryz.sizeOf177
 v138:=Tryz.zeroValue177
 t139:=Tryz.underlying178
 a139:=Tryz.isAgg178
 z139:=Tryz.sizeOf178
 v139:=Tryz.zeroValue178
 g3:=by kernel_rfl
 g4:=by kernel_rfl}
end Go.Proofs.YteggpgndiajdpaaGreatDoor
namespace Go.Proofs.YteggpgndiajdpaaGreatDoor
open Go Go.RowKit
section
variable {f:FuncId}{args:List FV}
theorem jN {xs:List Nat}(h:∀(N:Nat→Prop) (w:World) us,cM w N [] args us→(∀b,N b→b<w.heap.size)→Calls Tryz.prog f us.toArray w (kH xs w)):aL true Tryz.prog f [] args (aU (.one (.t (sU true xs)))):=by
 intro N w cs us hL
 obtain⟨rfl,hf⟩:=mS hL
 refine(h _ w us hf (fun b hb=>hb.1)).mono ?_
 rintro e W ⟨A,n,c,rfl,ho,hb⟩
 obtain⟨y1,a1,a2,a3,a4⟩:=lJ (N:=fun b=>true=false∧(b<W.heap.size∧b∉VT.fpL [])∧(N b∨w.heap.size≤b)) ho
 refine .mk0 (y:=[y1]) rfl hb (by simp only[VT.okL];exact⟨a3,trivial⟩) ?_ (fun b hb'=>?_) ?_
 ·simp only[VT.fpL,a4,List.append_nil]
  cases A <;> simp[Value.ownBlock]
 ·simp only[VT.fpL,a4,List.append_nil]at hb'
  exact ho.blk b hb'
 exact⟨y1,rfl,a1.symm,fI (fun _ _=>rfl) (fun b hb=>absurd hb.1 (by simp)) _ _ a2⟩
variable {xs ys:List Nat}
theorem fB {W:World}{N:Nat→Prop}{v:Value}(h:bR W N [] (.one (.t (sU false xs))) v) (hl:Lim 4294967296 xs) (hN:∀b,N b→b<W.heap.size):∃A c,v=.slice A xs.length c∧U32 W W.heap.size A xs.length c xs:=by
 simp only[bR,AR]at h
 obtain⟨A,c,rfl,l⟩:=xF h hl
 exact⟨A,c,rfl,l.u32 hN⟩
theorem Xz (hx:Lim 4294967296 xs) (h:xs.length≤1099511627776):aL true Tryz.prog 56 [] [.one (.t (sU false xs))] (aU (.one (.t (sU true (trim xs))))):=jN fun N w us hf hN=>by
 obtain⟨u,rfl,h1⟩:=Hp hf
 obtain⟨A,c,rfl,u1⟩:=fB h1 hx hN
 exact dN A _ c xs w u1 h
theorem Fj (hx:Lim 4294967296 xs) (h:xs.length≤1099511627776):aL true Tryz.prog 79 [] [.one (.t (sU false xs))] (aU (.one (.t (sU true xs)))):=jN fun N w us hf hN=>by
 obtain⟨u,rfl,h1⟩:=Hp hf
 obtain⟨A,c,rfl,u1⟩:=fB h1 hx hN
 exact mJ A _ c xs w u1 h
theorem AN (hx:Lim 4294967296 xs) (hy:Lim 4294967296 ys):aL true Tryz.prog 67 [] [.one (.t (sU false xs)),.one (.t (sU false ys))] (aU (.one (tv (.int .i64 (kI (vl 4294967296 xs) (vl 4294967296 ys)))))):=Br fun N w us hf hN=>by
 obtain⟨u,v,rfl,h1,h2⟩:=pE hf
 obtain⟨A,c,rfl,u1⟩:=fB h1 hx hN
 obtain⟨B,d,rfl,u2⟩:=fB h2 hy hN
 exact(nC A B _ _ c d xs ys _ w u1 u2).mono fun e W ⟨he,k,hk⟩=>⟨he,hk▸eS (Below.refl _ _) k⟩
theorem Hr (hx:Lim 4294967296 xs) (hy:Lim 4294967296 ys) (h:xs.length≤1099511627776) (h':ys.length≤1099511627776):aL true Tryz.prog 50 [] [.one (.t (sU false xs)),.one (.t (sU false ys))] (aU (.one (.t (sU true (dg 4294967296 (vl 4294967296 xs+vl 4294967296 ys)))))):=jN fun N w us hf hN=>by
 obtain⟨u,v,rfl,h1,h2⟩:=pE hf
 obtain⟨A,c,rfl,u1⟩:=fB h1 hx hN
 obtain⟨B,d,rfl,u2⟩:=fB h2 hy hN
 exact Of A B _ _ c d xs ys w u1 u2 h h'
theorem AO (hx:Lim 4294967296 xs) (hy:Lim 4294967296 ys) (h:xs.length≤549755813888) (h':ys.length≤549755813888):aL true Tryz.prog 44 [] [.one (.t (sU false xs)),.one (.t (sU false ys))] (aU (.one (.t (sU true (dg 4294967296 (vl 4294967296 xs*vl 4294967296 ys)))))):=jN fun N w us hf hN=>by
 obtain⟨u,v,rfl,h1,h2⟩:=pE hf
 obtain⟨A,c,rfl,u1⟩:=fB h1 hx hN
 obtain⟨B,d,rfl,u2⟩:=fB h2 hy hN
 exact Sb A B _ _ c d xs ys w u1 u2 h h'
theorem Oz {W:World}{N:Nat→Prop}{t:Nat}{v:Value}(h:bR W N [] (.one (.t (.s false t 1 2 [sU false xs,sU false ys]))) v) (hx:Lim 4294967296 xs) (hy:Lim 4294967296 ys) (hN:∀b,N b→b<W.heap.size):∃A c,v=.slice A 2 c∧URows W W.heap.size A 2 c [xs,ys]:=by
 simp only[bR,AR,FR]at h
 obtain⟨A,c,rfl,h1,h2,_,h4⟩:=h
 rcases h4 with h4 | ⟨ad,rfl,h5,h6⟩
 ·omega
 obtain⟨u0,e0,f0⟩:=kQ h6 (j:=0) rfl
 obtain⟨u1,e1,f1⟩:=kQ h6 (j:=1) rfl
 obtain⟨A0,c0,rfl,l0⟩:=xF f0 hx
 obtain⟨A1,c1,rfl,l1⟩:=xF f1 hy
 rw[Nat.zero_add]at e0 e1
 refine⟨_,c,rfl,rfl,h1,h2,fun k hk=>?_⟩
 obtain⟨b,o,sp⟩:=ad
 match k,hk with
 | 0,_=>exact⟨b,o,sp,A0,_,c0,rfl,hN _ h5,e0,l0.u32 hN⟩
 | 1,_=>exact⟨b,o,sp,A1,_,c1,rfl,hN _ h5,e1,l1.u32 hN⟩
theorem AP {t:Nat}(hx:Lim 4294967296 xs) (hy:Lim 4294967296 ys) (h:xs.length≤549755813888) (h':ys.length≤549755813888):aL true Tryz.prog 46 [] [.one (.t (.s false t 1 2 [sU false xs,sU false ys]))] (aU (.one (.t (sU true (dg 4294967296 (nD [xs,ys])))))):=jN fun N w us hf hN=>by
 obtain⟨u,rfl,h1⟩:=Hp hf
 obtain⟨A,c,rfl,u1⟩:=Oz h1 hx hy hN
 exact Sj A 2 c [xs,ys] w u1 (by omega) (fun k hk=>by match k,hk with | 0,_=>exact h | 1,_=>exact h')
theorem mT (A:Option Addr) (n c:Nat):((Value.slice A n c).ownBlock.toList).Nodup:=by cases A <;> simp[Value.ownBlock]
theorem Ht (hx:Lim 4294967296 xs) (hy:Lim 4294967296 ys) (h:xs.length≤1099511627776) (hle:vl 4294967296 ys≤vl 4294967296 xs):aL true Tryz.prog 77 [] [.one (.t (sU false xs)),.one (.t (sU false ys))] (aU (.tup [.one (.t (sU true (dg 4294967296 (vl 4294967296 xs-vl 4294967296 ys)))),.one (tv (.int .i64 0))])):=by
 intro N w cs us hL
 obtain⟨rfl,hf⟩:=mS hL
 obtain⟨u,v,rfl,h1,h2⟩:=pE hf
 obtain⟨A,c,rfl,u1⟩:=fB h1 hx fun b hb=>hb.1
 obtain⟨B,d,rfl,u2⟩:=fB h2 hy fun b hb=>hb.1
 refine(Og A B _ _ c d xs ys w u1 u2 h hle).mono ?_
 rintro e W ⟨A,n,c,rfl,ho,hb⟩
 obtain⟨y1,a1,a2,a3,a4⟩:=lJ (N:=fun b=>true=false∧(b<W.heap.size∧b∉VT.fpL [])∧(N b∨w.heap.size≤b)) ho
 refine .mk0 (y:=[y1,.w (.int .i64 0)]) rfl hb (by simp only[VT.okL,VT.ok];exact⟨a3,trivial,trivial⟩) ?_ (fun b hb'=>?_) ?_
 ·simp only[VT.fpL,VT.fp,a4,List.append_nil]
  exact mT A n c
 ·simp only[VT.fpL,VT.fp,a4,List.append_nil]at hb'
  exact ho.blk b hb'
 refine⟨[_,_],rfl,?_⟩
 exact⟨_,_,[y1],[.w (.int .i64 0)],rfl,rfl,⟨y1,rfl,a1.symm,fI (fun _ _=>rfl) (fun b hb=>absurd hb.1 (by simp)) _ _ a2⟩,_,_,[.w (.int .i64 0)],[],rfl,rfl,⟨_,rfl,rfl,by simp[CR,tv,OR]⟩,rfl,rfl⟩
theorem Pa (hx:Lim 4294967296 xs) (hy:Lim 4294967296 ys) (h:xs.length≤549755813888) (h':ys.length≤549755813888) (h0:vl 4294967296 ys≠0):aL true Tryz.prog 45 [] [.one (.t (sU false xs)),.one (.t (sU false ys))] (aU (.tup [.one (.t (sU true (dg 4294967296 (vl 4294967296 xs/vl 4294967296 ys)))),.one (.t (sU true (dg 4294967296 (vl 4294967296 xs%vl 4294967296 ys)))),.one (tv (.int .i64 0))])):=by
 intro N w cs us hL
 obtain⟨rfl,hf⟩:=mS hL
 obtain⟨u,v,rfl,h1,h2⟩:=pE hf
 obtain⟨A,c,rfl,u1⟩:=fB h1 hx fun b hb=>hb.1
 obtain⟨B,d,rfl,u2⟩:=fB h2 hy fun b hb=>hb.1
 refine(vQ A B _ _ c d xs ys w u1 u2 h h' h0).mono ?_
 rintro e W ⟨A1,n1,c1,A2,n2,c2,rfl,ho,ho2,hap,hb⟩
 obtain⟨y1,a1,a2,a3,a4⟩:=lJ (N:=fun b=>true=false∧(b<W.heap.size∧b∉VT.fpL [])∧(N b∨w.heap.size≤b)) ho
 obtain⟨y2,b1,b2,b3,b4⟩:=lJ (N:=fun b=>true=false∧(b<W.heap.size∧b∉VT.fpL [])∧(N b∨w.heap.size≤b)) ho2
 refine .mk0 (y:=[y1,y2,.w (.int .i64 0)]) rfl hb (by simp only[VT.okL,VT.ok];exact⟨a3,b3,trivial,trivial⟩) ?_ (fun b hb'=>?_) ?_
 ·simp only[VT.fpL,VT.fp,a4,b4,List.append_nil]
  rw[List.nodup_append]
  refine⟨mT ..,mT ..,fun x hx y hy e=>?_⟩
  subst e
  rcases A1 with _ | a
  ·simp[Value.ownBlock]at hx
  rcases A2 with _ | b
  ·simp[Value.ownBlock]at hy
  simp[Value.ownBlock]at hx hy
  exact hap a b rfl rfl (by rw[←hx,←hy])
 ·simp only[VT.fpL,VT.fp,a4,b4,List.append_nil]at hb'
  rcases List.mem_append.1 hb' with hb' | hb'
  ·exact ho.blk b hb'
  exact ho2.blk b hb'
 refine⟨[_,_,_],rfl,?_⟩
 exact⟨_,_,[y1],[y2,.w (.int .i64 0)],rfl,rfl,⟨y1,rfl,a1.symm,fI (fun _ _=>rfl) (fun b hb=>absurd hb.1 (by simp)) _ _ a2⟩,_,_,[y2],[.w (.int .i64 0)],rfl,rfl,⟨y2,rfl,b1.symm,fI (fun _ _=>rfl) (fun b hb=>absurd hb.1 (by simp)) _ _ b2⟩,_,_,[.w (.int .i64 0)],[],rfl,rfl,⟨_,rfl,rfl,by simp[CR,tv,OR]⟩,rfl,rfl⟩
end
section
variable {xs:List Nat}
theorem Hu {d:Nat}(hx:Lim 4294967296 xs) (h:xs.length≤1099511627776) (hd0:0<d) (hd:d<4294967296):aL true Tryz.prog 57 [] [.one (.t (sU false xs)),.one (tv (.int .u32 (d:Int)))] (aU (.tup [.one (.t (sU true (dg 4294967296 (vl 4294967296 xs/d)))),.one (tv (.int .u32 ((vl 4294967296 xs%d:Nat):Int))),.one (tv (.int .i64 0))])):=by
 intro N w cs us hL
 obtain⟨rfl,hf⟩:=mS hL
 obtain⟨u,v,rfl,h1,h2⟩:=pE hf
 obtain⟨A,c,rfl,u1⟩:=fB h1 hx fun b hb=>hb.1
 obtain rfl:=aO (iO h2)
 refine(lU A _ c d xs w u1 h hd0 hd).mono ?_
 rintro e W ⟨A,n,c,rfl,ho,hb⟩
 obtain⟨y1,a1,a2,a3,a4⟩:=lJ (N:=fun b=>true=false∧(b<W.heap.size∧b∉VT.fpL [])∧(N b∨w.heap.size≤b)) ho
 refine .mk0 (y:=[y1,.w (.int .u32 ((vl 4294967296 xs%d:Nat):Int)),.w (.int .i64 0)]) rfl hb (by simp only[VT.okL,VT.ok];exact⟨a3,trivial,trivial,trivial⟩) ?_ (fun b hb'=>?_) ?_
 ·simp only[VT.fpL,VT.fp,a4,List.append_nil]
  exact mT A n c
 ·simp only[VT.fpL,VT.fp,a4,List.append_nil]at hb'
  exact ho.blk b hb'
 refine⟨[_,_,_],rfl,?_⟩
 exact⟨_,_,[y1],[.w _,.w (.int .i64 0)],rfl,rfl,⟨y1,rfl,a1.symm,fI (fun _ _=>rfl) (fun b hb=>absurd hb.1 (by simp)) _ _ a2⟩,_,_,[.w _],[.w (.int .i64 0)],rfl,rfl,⟨_,rfl,rfl,by simp[CR,tv,OR]⟩,_,_,[.w (.int .i64 0)],[],rfl,rfl,⟨_,rfl,rfl,by simp[CR,tv,OR]⟩,rfl,rfl⟩
theorem Te {v:Nat}(hx:Lim 4294967296 xs) (h:xs.length≤1099511627776) (hv:vl 4294967296 xs=v):aL true Tryz.prog 56 [] [.one (.t (sU false xs))] (aU (.one (.t (sU true (dg 4294967296 v))))):=by
 have e:=dK (B:=4294967296) (by omega) hx
 rw[←hv,e]
 exact Xz hx h
theorem Ya {u d:Nat}(h:(dg 4294967296 u).length≤1099511627776) (hd0:0<d) (hd:d<4294967296):aL true Tryz.prog 57 [] [.one (.t (sU false (dg 4294967296 u))),.one (tv (.int .u32 (d:Int)))] (aU (.tup [.one (.t (sU true (dg 4294967296 (u/d)))),.one (tv (.int .u32 ((u%d:Nat):Int))),.one (tv (.int .i64 0))])):=by
 have e:=aZ (B:=4294967296) (by omega) u
 have h2:=Hu (xs:=dg 4294967296 u) (d:=d) (aF (by omega) _) h hd0 hd
 rw[e]at h2
 exact h2
end
theorem By {l:List Nat}(hn:l.length≤1000000):aL true Tryz.prog 48 [] [.one (tv (.string (aW l))),.one (tv (.string ⟨#[48,49,50,51,52,53,54,55,56,57]⟩))] (aU (.one (tv (.string ⟨(Lib.trimS (aW l).data.toList [48,49,50,51,52,53,54,55,56,57]).toArray⟩)))):=Br fun N w us hf hN=>by
 obtain⟨u,v,rfl,h1,h2⟩:=pE hf
 obtain rfl:=aO (iO h1)
 obtain rfl:=aO (iO h2)
 exact Go.Proofs.Any.strings_Trim_laid Td (by kernel_rfl) (aW l) ⟨#[48,49,50,51,52,53,54,55,56,57]⟩ w (by rw[bL];omega) (by decide) (fun j b h=>(by decide:∀b∈([48,49,50,51,52,53,54,55,56,57]:List UInt8),b.toNat<128) b (List.mem_of_getElem? h))
theorem Bz {α:Type}{p:α→Bool}:∀{l:List α},l.dropWhile p=[]↔∀x∈l,p x=true
 | []=>by simp
 | x::l=>by
  rw[List.dropWhile_cons]
  by_cases h:p x=true
  ·rw[if_pos h,Bz];simp[h]
  rw[if_neg h];simp[h]
theorem Ll {l cs:List UInt8}:Lib.trimS l cs=[]↔∀x∈l,cs.contains x=true:=by
 unfold Lib.trimS Lib.trimLeftS Lib.trimRightS
 rw[Bz]
 refine⟨fun h=>?_,fun h x hx=>h x (by simpa using(List.dropWhile_sublist _).subset (List.mem_reverse.1 hx))⟩
 cases hq:l.reverse.dropWhile (cs.contains ·)with
 | nil=>exact fun x hx=>Bz.1 hq x (List.mem_reverse.2 hx)
 | cons y ys=>
  have h1:=h y (by rw[hq];simp)
  have h2:=List.head?_dropWhile_not (cs.contains ·) l.reverse
  rw[hq]at h2
  simp at h2
  exact absurd (by simpa using h1) h2
theorem Hv {xs:List Nat}{m:Nat}(hx:Lim 4294967296 xs) (h:xs.length≤1099511627776) (hm:m<4294967296):aL true Tryz.prog 51 [] [.one (.t (sU false xs)),.one (tv (.int .u32 (m:Int)))] (aU (.one (.t (sU true (dg 4294967296 (vl 4294967296 xs*m)))))):=jN fun N w us hf hN=>by
 obtain⟨u,v,rfl,h1,h2⟩:=pE hf
 obtain⟨A,c,rfl,u1⟩:=fB h1 hx hN
 obtain rfl:=aO (iO h2)
 exact qH A _ c m xs w u1 h hm
theorem Lm {xs:List Nat}(hx:xs.length≤4398046511104):aL false Tryz.prog 146 [] [.one (.t (sI false xs))] (aU (.one (.t (sI false (trim xs))))):=by
 refine cF Tryz.func146 rfl Tryz.ntmps146 rfl aA rfl fun N w c0 h0=>?_
 refine sq ?_;refine rl ?_;refine o1 ?_;refine nl ?_;refine sq ?_;refine bl ?_
 refine lp (γ:=List Nat) (fun zs=>cJ [(0,.one (.t (sI false zs)))]) (fun _=>([]:List Ob).map some) (fun zs=>trim zs=trim xs∧zs.length≤xs.length) (fun zs=>zs.length) xs ⟨rfl,Nat.le_refl _⟩ (aJ h0 [] _ _ (by decide) ⟨rfl,trivial⟩ rfl) fun zs hz=>?_
 refine sq ?_;refine sq ?_;refine rl ?_;(iterate 4 refine o1 ?_);refine WL.split (t:=6) rfl (fun h1=>?_) (fun h1=>?_)
 ·(iterate 4 refine o1 ?_);refine WL.cast (t:=10) (u':=.int .i64 ((zs.length-1:Nat):Int)) rfl (aH (by omega)) ?_
  refine o1 ?_;refine iT ([.v (.int .i64 ((nth zs (zs.length-1):Nat):Int))]) (dR zs (k:=zs.length-1) (by omega)) ?_
  refine o1 ?_;refine o1 ?_;refine nl ?_;refine bU rfl (fun h2=>?_) (fun h2=>?_)
  ·refine sk ?_;refine bl ?_;refine rl ?_;(iterate 4 refine o1 ?_);refine WL.cast (t:=18) (u':=.int .i64 ((zs.length-1:Nat):Int)) rfl (aH (by omega)) ?_
   refine o1 ?_;refine o1 ?_;refine nl ?_
   exact⟨zs.take (zs.length-1),by rw[List.length_take];omega,⟨(by rw[qM (xs:=zs) (k:=zs.length) (by omega) (Nat.le_refl _) (by omega),List.take_length];exact hz.1),by rw[List.length_take];omega⟩,aJ h0 [] _ _ (by decide) ⟨congrArg some (Lg (by omega)).symm,trivial⟩ rfl⟩
  refine ex ?_;refine sq ?_;refine rl ?_;refine o1 ?_;refine o1 ?_;refine nl ?_;refine rt ?_;refine en (.inl rfl) rfl (bZ (.one (.id rfl))) (by decide) (fun h=>by cases h) ?_
  have hx:trim xs=zs:=by
   rw[←hz.1];have h9:=nH (xs:=zs) (k:=zs.length) (by omega) (Nat.le_refl _) (by omega)
   rwa[List.take_length]at h9
  rw[hx];rfl
 (iterate 7 refine cW ?_);refine o1 ?_;refine nl ?_;refine eR rfl ?_;refine ex ?_;refine sq ?_;refine rl ?_;refine o1 ?_;refine o1 ?_;refine nl ?_;refine rt ?_
 refine en (.inl rfl) rfl (bZ (.one (.id rfl))) (by decide) (fun h=>by cases h) ?_
 have hx:trim xs=zs:=by
  have h9:zs=[]:=List.eq_nil_of_length_eq_zero (by omega)
  rw[←hz.1,h9];rfl
 rw[hx];rfl
theorem gC {xs:List Nat}(hx:xs.length≤1099511627776) (hl:Lim 4294967296 xs):aL false Tryz.prog 119 [] [.one (.t (sU false xs))] (aU (.one (.t (sI false (dg 65536 (vl 4294967296 xs)))))):=by
 refine cF Tryz.func119 rfl Tryz.ntmps119 rfl aA rfl fun N w c0 h0=>?_
 refine sq ?_;refine rl ?_;refine o1 ?_;refine nl ?_;refine sq ?_;refine rl ?_;refine o1 ?_;refine nl ?_;refine sq ?_;refine sq ?_;refine rl ?_;refine o1 ?_;refine nl ?_;refine bl ?_
 refine lp (γ:=Nat) (fun k=>cJ [(0,.one (.t (sU false xs))),(3,.one (.sl 0 0 (2*k))),(4,.one (tv (.int .i64 ((k:Nat):Int))))]) (fun k=>[(⟨3,1,(cV (hv (xs.take k))).map .t⟩:Ob)].map some) (fun k=>k≤xs.length) (fun k=>xs.length-k) 0 (Nat.zero_le _) ((nr (i:=3) 0 3 1 rfl rfl rfl rfl).trans (aJ h0 [0] _ _ (by decide) ⟨rfl,rfl,rfl,trivial⟩ ⟨cD (l:=[]) rfl,rfl⟩)) fun k hk=>?_
 have hn:=hl.nth (by omega) k
 refine sq ?_;refine sq ?_;refine rl ?_;(iterate 4 refine o1 ?_);refine nl ?_;refine bU rfl (fun h1=>?_) (fun h1=>?_)
 ·refine sk ?_;refine sq ?_;refine bl ?_;refine rd [] (fun i=>[15].contains i) mixed ?_
  refine dv 0 ?_;refine dv 1 ?_;refine dv 2 ?_;refine dv 3 ?_;refine gD 4 ([.v (.int .u32 ((nth xs (k):Nat):Int))]) (iD xs (k:=k) (by omega)) ?_
  refine dv 5 ?_;refine WD.cast (t:=16) (u':=.int .u32 ((nth xs k%65536:Nat):Int)) rfl (aH (eK _ 65536)) ?_;refine dv 6 ?_;refine dv 7 ?_;refine dv 8 ?_;refine dv 9 ?_
  refine gD 10 ([.v (.int .u32 ((nth xs (k):Nat):Int))]) (iD xs (k:=k) (by omega)) ?_
  refine dv 11 ?_ (hC:=(eA 65536 (by omega) (by simp only[eQ];omega)))
  refine WD.cast (t:=22) (u':=.int .u32 ((nth xs k/65536:Nat):Int)) rfl (aH (dM _ 65536)) ?_;refine dv 12 ?_;refine qQ (key:=1) 13 (by kernel_rfl) rfl rfl aA rfl trivial ?_
  refine Pr (j:=2) 14 rfl aA rfl rfl rfl (.sl rfl (by rw[List.length_map,eL,nE,List.length_take];omega)) (.sl rfl rfl rfl) rfl rfl (by omega) (by omega) rfl rfl (by kernel_rfl) rfl ?_
  refine gR 15 (by kernel_rfl) rfl rfl aA rfl (by trivial) ?_ (fun h=>by first | rfl | cases h)
  refine aP ?_;refine rl ?_;(iterate 3 refine o1 ?_);refine nl ?_
  exact⟨k+1,by omega,by omega,aJ h0 [2] _ _ (by decide) ⟨rfl,rfl,rfl,trivial⟩ ⟨iY rfl (eM _ [nth xs k%65536,nth xs k/65536]) (Fa (by omega)).symm,rfl⟩⟩
 refine ex ?_;refine sq ?_;refine rl ?_;refine WL.sub (qC (i:=3) (zs':=hv xs) rfl rfl rfl (by rw[nE,List.length_take];omega) (by rw[List.take_of_length_le (by omega)])) ?_
 refine o1 ?_;refine ca (Lm (by rw[nE];omega)) Pv ⟨a1 rfl,rfl⟩ (.one (.t (sI false (trim (hv xs))))) ?_
 refine o1 ?_;refine nl ?_;refine rt ?_;exact en (.inl rfl) rfl (bZ (.one (.id rfl))) (by decide) (fun h=>by cases h) (by rw[Qg hl];rfl)
theorem mP {xs:List Nat}(hx:xs.length≤4398046511104) (hl:Lim 65536 xs):aL true Tryz.prog 121 [] [.one (.t (sI false xs))] (aU (.one (.t (sU true (dg 4294967296 (vl 65536 xs)))))):=by
 refine cF Tryz.func121 rfl Tryz.ntmps121 rfl aA rfl fun N w c0 h0=>?_
 refine sq ?_;refine rl ?_;refine o1 ?_;refine nl ?_;refine sq ?_;refine rl ?_;refine o1 ?_;refine nl ?_;refine sq ?_;refine rl ?_;refine o1 ?_
 refine ca (Lm hx) Pv ⟨a1 rfl,rfl⟩ (.one (.t (sI false (trim xs)))) ?_;refine o1 ?_;refine nl ?_;refine sq ?_;refine sq ?_;have htl:=bY xs
 have hlt:=hl.trim
 generalize hY:trim xs=ys at htl hlt;refine rl ?_;refine o1 ?_;refine nl ?_;refine bl ?_
 refine lp (γ:=Nat) (fun k=>cJ [(0,.one (.t (sI false ys))),(3,.one (.sl 0 0 k)),(4,.one (tv (.int .i64 ((2*k:Nat):Int))))]) (fun k=>[(⟨22,1,(aM (lb (ys.take (2*k)))).map .t⟩:Ob)].map some) (fun k=>2*k≤ys.length+1) (fun k=>ys.length+1-2*k) 0 (Nat.zero_le _) ((nr (i:=3) 0 22 1 rfl rfl rfl rfl).trans (aJ h0 [0] _ _ (by decide) ⟨rfl,rfl,rfl,trivial⟩ ⟨cD (l:=[]) rfl,rfl⟩)) fun k hk=>?_
 have hn:=hlt.nth (by omega) (2*k)
 have hn2:=hlt.nth (by omega) (2*k+1)
 refine sq ?_;refine sq ?_;refine rl ?_;(iterate 4 refine o1 ?_);refine nl ?_;refine bU rfl (fun h1=>?_) (fun h1=>?_)
 ·refine sk ?_;refine sq ?_;refine bl ?_;refine sq ?_;refine rl ?_;refine o1 ?_;refine nl ?_;refine sq ?_;refine sq ?_;refine rl ?_;refine o1 ?_;refine o1 ?_
  refine WL.cast (t:=15) (u':=.int .i64 ((2*k+1:Nat):Int)) rfl (aH (by omega)) ?_
  (iterate 3 refine o1 ?_);refine nl ?_;refine bU rfl (fun h2=>?_) (fun h2=>?_)
  ·refine rl ?_;(iterate 3 refine o1 ?_);refine WL.cast (t:=21) (u':=.int .i64 ((2*k+1:Nat):Int)) rfl (aH (by omega)) ?_
   refine o1 ?_;refine iT ([.v (.int .i64 ((nth ys (2*k+1):Nat):Int))]) (dR ys (k:=2*k+1) (by omega)) ?_
   refine o1 ?_;refine nl ?_;refine rl ?_;(iterate 4 refine o1 ?_);refine iT ([.v (.int .i64 ((nth ys (2*k):Nat):Int))]) (dR ys (k:=2*k) (by omega)) ?_
   (iterate 5 refine o1 ?_);refine WL.cast (t:=33) (u':=.int .u32 ((nth ys (2*k)+65536*nth ys (2*k+1):Nat):Int)) rfl (aH (by omega)) ?_
   refine bs 1 ?_;refine fR (j:=2) aA rfl rfl rfl rfl (.sl rfl (by rw[List.length_map,hG,gG,List.length_take];omega)) (.sl rfl rfl rfl) rfl rfl rfl (by omega) (by omega) ?_
   refine o1 ?_;refine nl ?_;refine rl ?_;(iterate 3 refine o1 ?_);refine nl ?_
   exact⟨k+1,by omega,by omega,aJ h0 [2] _ _ (by decide) ⟨rfl,rfl,rfl,trivial⟩ ⟨Lh rfl (Bu _ [nth ys (2*k)+65536*nth ys (2*k+1)]) (sM (by omega)).symm,rfl⟩⟩
  have hz:=dC (l:=ys) (k:=2*k+1) (by omega)
  refine sk ?_;refine rl ?_;(iterate 4 refine o1 ?_);refine iT ([.v (.int .i64 ((nth ys (2*k):Nat):Int))]) (dR ys (k:=2*k) (by omega)) ?_
  (iterate 5 refine o1 ?_);refine WL.cast (t:=33) (u':=.int .u32 ((nth ys (2*k)+65536*nth ys (2*k+1):Nat):Int)) rfl (aH (by omega)) ?_
  refine bs 1 ?_;refine fR (j:=2) aA rfl rfl rfl rfl (.sl rfl (by rw[List.length_map,hG,gG,List.length_take];omega)) (.sl rfl rfl rfl) rfl rfl rfl (by omega) (by omega) ?_
  refine o1 ?_;refine nl ?_;refine rl ?_;(iterate 3 refine o1 ?_);refine nl ?_
  exact⟨k+1,by omega,by omega,aJ h0 [2] _ _ (by decide) ⟨rfl,rfl,rfl,trivial⟩ ⟨Lh rfl (Bu _ [nth ys (2*k)+65536*nth ys (2*k+1)]) (sM (by omega)).symm,rfl⟩⟩
 refine ex ?_;refine sq ?_;refine rl ?_;refine o1 ?_;refine o1 ?_;refine nl ?_;refine rt ?_
 exact en (.inl rfl) rfl (bZ (.one (.sl (trs:=aM (lb ys)) rfl rfl (by rw[List.take_of_length_le (l:=ys) (by omega),List.take_of_length_le (by simp[hG,gG];omega)]) (by rw[hG,gG];omega)))) (by decide) (fun _=>.inl ⟨rfl,eX _⟩) (by rw[←sL,dK (by omega) hl,hY];unfold sU;rw[show k=(lb ys).length by rw[gG];omega];rfl)
theorem jQ {xs:List Nat}{k:Nat}:aL true Tryz.prog 120 [] [.one (.t (sI false xs)),.one (tv (.int .i64 ((k:Nat):Int)))] (aU (.one (tv (.int .i64 ((nth xs k:Nat):Int))))):=by
 refine cF Tryz.func120 rfl Tryz.ntmps120 rfl aA rfl fun N w c0 h0=>?_
 refine sq ?_;refine rl ?_;refine o1 ?_;refine nl ?_;refine sq ?_;refine sq ?_;refine rl ?_;(iterate 4 refine o1 ?_);refine nl ?_;refine bU rfl (fun h1=>?_) (fun h1=>?_)
 ·refine sq ?_;refine rl ?_;(iterate 3 refine o1 ?_);refine iT ([.v (.int .i64 ((nth xs (k):Nat):Int))]) (dR xs (k:=k) (by omega)) ?_
  refine o1 ?_;refine nl ?_;refine rt ?_;refine en (.inl rfl) rfl (bZ (bQ _)) (by decide) (fun _=>trivial) ?_
  rfl
 refine sk ?_;refine sq ?_;refine rl ?_;refine o1 ?_;refine nl ?_;refine rt ?_;refine en (.inl rfl) rfl (bZ (bQ _)) (by decide) (fun _=>trivial) ?_
 rw[dC (by omega)];rfl
theorem Tf {xs:List Nat}(hx:xs.length≤1099511627776) (hlx:Lim 4294967296 xs):aL true Tryz.prog 122 [] [.one (.t (sU false xs))] (aU (.one (.t (sU true (dg 4294967296 (vl 4294967296 xs)))))):=by
 refine cF Tryz.func122 rfl Tryz.ntmps122 rfl aA rfl fun N w c0 h0=>?_
 have hd:=cU (v:=vl 4294967296 xs) (L:=xs.length) (by rw[dK (by omega) hlx];exact bY _)
 have hl9:=aF (B:=65536) (by omega) (vl 4294967296 xs)
 refine sq ?_;refine rl ?_;refine o1 ?_;refine nl ?_;refine sq ?_;refine rl ?_;refine o1 ?_
 refine ca (gC hx hlx) mA ⟨a1 rfl,rfl⟩ (.one (.t (sI false (dg 65536 (vl 4294967296 xs))))) ?_;refine hH 0 (mP (by omega) (by assumption)) uH ⟨a1 rfl,rfl⟩ ?_
 refine o1 ?_;refine nl ?_;refine rt ?_
 exact en (.inl rfl) rfl (bZ (.one (.sl (trs:=aM (dg 4294967296 (vl 65536 (dg 65536 (vl 4294967296 xs))))) rfl rfl (bP _) (bK _)))) (by decide) (fun _=>.inl ⟨rfl,eX _⟩) (by rw[aZ (by omega)];rfl)
theorem Ca {xs ys:List Nat}(hx:xs.length≤1099511627776) (hlx:Lim 4294967296 xs) (hy:ys.length≤1099511627776) (hly:Lim 4294967296 ys):aL true Tryz.prog 123 [] [.one (.t (sU false xs)),.one (.t (sU false ys))] (aU (.one (tv (.int .i64 (((vl 4294967296 xs:Nat):Int)-((vl 4294967296 ys:Nat):Int)).sign)))):=by
 refine cF Tryz.func123 rfl Tryz.ntmps123 rfl aA rfl fun N w c0 h0=>?_
 refine sq ?_;refine rl ?_;refine o1 ?_;refine nl ?_;refine sq ?_;refine rl ?_;refine o1 ?_
 refine ca (gC hx hlx) mA ⟨a1 rfl,rfl⟩ (.one (.t (sI false (dg 65536 (vl 4294967296 xs))))) ?_;refine o1 ?_
 refine ca (gC hy hly) mA ⟨a1 rfl,rfl⟩ (.one (.t (sI false (dg 65536 (vl 4294967296 ys))))) ?_;refine o1 ?_;refine o1 ?_;refine nl ?_;refine sq ?_;refine sq ?_
 have hdx:=cU (v:=vl 4294967296 xs) (L:=xs.length) (by rw[dK (by omega) hlx];exact bY _)
 have hdy:=cU (v:=vl 4294967296 ys) (L:=ys.length) (by rw[dK (by omega) hly];exact bY _)
 have hX:=aF (B:=65536) (by omega) (vl 4294967296 xs)
 have hY:=aF (B:=65536) (by omega) (vl 4294967296 ys)
 have hvX:=aZ (B:=65536) (by omega) (vl 4294967296 xs)
 have hvY:=aZ (B:=65536) (by omega) (vl 4294967296 ys)
 generalize dg 65536 (vl 4294967296 xs)=X at hdx hX hvX⊢;generalize dg 65536 (vl 4294967296 ys)=Y at hdy hY hvY⊢;refine rl ?_;(iterate 5 refine o1 ?_)
 refine WL.cast (t:=16) (u':=.int .i64 ((max X.length Y.length:Nat):Int)) rfl (aH (by omega)) ?_
 refine o1 ?_;refine o1 ?_;refine nl ?_;refine bl ?_
 refine lp (γ:=Nat) (fun k=>cJ [(5,.one (.t (sI false X))),(6,.one (.t (sI false Y))),(7,.one (tv (.int .i64 ((k:Nat)-1))))]) (fun k=>([]:List Ob).map some) (fun k=>(∀j,k≤j→nth X j=nth Y j)∧k≤max X.length Y.length) (fun k=>k) (max X.length Y.length) ⟨fun j hj=>by rw[dC (by omega),dC (by omega)],Nat.le_refl _⟩ (aJ h0 [] _ _ (by decide) ⟨rfl,rfl,rfl,trivial⟩ rfl) fun k hk=>?_
 refine sq ?_;refine sq ?_;refine rl ?_;refine o1 ?_;refine o1 ?_;refine nl ?_;refine bU rfl (fun h1=>?_) (fun h1=>?_)
 ·refine sk ?_;refine sq ?_;refine bl ?_;refine sq ?_;refine sq ?_;refine rl ?_;refine o1 ?_;refine o1 ?_
  refine WL.cast (t:=23) (u':=.int .i64 ((k-1:Nat):Int)) rfl (aH (by omega)) ?_
  refine ca (jQ) jR ⟨a1 rfl,a1 rfl,rfl⟩ (.one (tv (.int .i64 ((nth X (k-1):Nat):Int)))) ?_;refine o1 ?_;refine o1 ?_
  refine WL.cast (t:=26) (u':=.int .i64 ((k-1:Nat):Int)) rfl (aH (by omega)) ?_
  refine ca (jQ) jR ⟨a1 rfl,a1 rfl,rfl⟩ (.one (tv (.int .i64 ((nth Y (k-1):Nat):Int)))) ?_;refine o1 ?_;refine nl ?_;refine bU rfl (fun h2=>?_) (fun h2=>?_)
  ·refine sq ?_;refine rl ?_;refine o1 ?_;refine nl ?_;refine rt ?_;refine en (.inl rfl) rfl (bZ (bQ _)) (by decide) (fun _=>trivial) (congrArg (fun z=>FV.one (tv (.int .i64 z))) ?_)
   have he:=yW (X:=X) (Y:=Y) (k:=k-1) hX (fun j hj=>hk.1 j (by omega)) (by omega)
   rw[hvX,hvY]at he;rw[Int.sign_eq_neg_one_of_neg (by omega)]
  refine sk ?_;refine sq ?_;refine rl ?_;refine o1 ?_;refine o1 ?_;refine WL.cast (t:=30) (u':=.int .i64 ((k-1:Nat):Int)) rfl (aH (by omega)) ?_
  refine ca (jQ) jR ⟨a1 rfl,a1 rfl,rfl⟩ (.one (tv (.int .i64 ((nth X (k-1):Nat):Int)))) ?_;refine o1 ?_;refine o1 ?_
  refine WL.cast (t:=33) (u':=.int .i64 ((k-1:Nat):Int)) rfl (aH (by omega)) ?_
  refine ca (jQ) jR ⟨a1 rfl,a1 rfl,rfl⟩ (.one (tv (.int .i64 ((nth Y (k-1):Nat):Int)))) ?_;refine o1 ?_;refine nl ?_;refine bU rfl (fun h3=>?_) (fun h3=>?_)
  ·refine sq ?_;refine rl ?_;refine o1 ?_;refine nl ?_;refine rt ?_;refine en (.inl rfl) rfl (bZ (bQ _)) (by decide) (fun _=>trivial) (congrArg (fun z=>FV.one (tv (.int .i64 z))) ?_)
   have he:=yW (X:=Y) (Y:=X) (k:=k-1) hY (fun j hj=>(hk.1 j (by omega)).symm) (by omega)
   rw[hvX,hvY]at he;rw[Int.sign_eq_one_of_pos (by omega)]
  refine sk ?_;refine rl ?_;(iterate 3 refine o1 ?_);refine nl ?_
  exact⟨k-1,by omega,⟨fun j hj=>(Nat.eq_or_lt_of_le hj).elim (fun h9=>by rw[←h9];omega) (fun h9=>hk.1 j (by omega)),by omega⟩,aJ h0 [] _ _ (by decide) ⟨rfl,rfl,congrArg (fun z=>some (FV.one (tv (.int .i64 z)))) (by omega),trivial⟩ rfl⟩
 refine ex ?_;refine sq ?_;refine rl ?_;refine o1 ?_;refine nl ?_;refine rt ?_
 refine en (.inl rfl) rfl (bZ (bQ _)) (by decide) (fun _=>trivial) (congrArg (fun z=>FV.one (tv (.int .i64 z))) ?_)
 have he:=Ld (fun j=>hk.1 j (by omega))
 rw[hvX,hvY]at he;rw[he,Int.sub_self];rfl
theorem Il {xs ys:List Nat}(hx:xs.length≤1099511627776) (hlx:Lim 4294967296 xs) (hy:ys.length≤1099511627776) (hly:Lim 4294967296 ys):aL true Tryz.prog 70 [] [.one (.t (sU false xs)),.one (.t (sU false ys))] (aU (.one (.t (sU true (dg 4294967296 (vl 4294967296 xs+vl 4294967296 ys)))))):=by
 refine cF Tryz.func70 rfl Tryz.ntmps70 rfl aA rfl fun N w c0 h0=>?_
 refine sq ?_;refine rl ?_;refine o1 ?_;refine nl ?_;refine sq ?_;refine rl ?_;refine o1 ?_
 refine ca (gC hx hlx) mA ⟨a1 rfl,rfl⟩ (.one (.t (sI false (dg 65536 (vl 4294967296 xs))))) ?_;refine o1 ?_
 refine ca (gC hy hly) mA ⟨a1 rfl,rfl⟩ (.one (.t (sI false (dg 65536 (vl 4294967296 ys))))) ?_;refine o1 ?_;refine o1 ?_;refine nl ?_;refine sq ?_
 have hdx:=cU (v:=vl 4294967296 xs) (L:=xs.length) (by rw[dK (by omega) hlx];exact bY _)
 have hdy:=cU (v:=vl 4294967296 ys) (L:=ys.length) (by rw[dK (by omega) hly];exact bY _)
 have hX:=aF (B:=65536) (by omega) (vl 4294967296 xs)
 have hY:=aF (B:=65536) (by omega) (vl 4294967296 ys)
 have hvX:=aZ (B:=65536) (by omega) (vl 4294967296 xs)
 have hvY:=aZ (B:=65536) (by omega) (vl 4294967296 ys)
 generalize dg 65536 (vl 4294967296 xs)=X at hdx hX hvX⊢;generalize dg 65536 (vl 4294967296 ys)=Y at hdy hY hvY⊢;refine rl ?_;refine o1 ?_;refine nl ?_;refine sq ?_;refine rl ?_
 refine o1 ?_;refine nl ?_;refine sq ?_;refine sq ?_;refine rl ?_;refine o1 ?_;refine nl ?_;refine bl ?_
 refine lp (γ:=Nat×Nat×List Nat) (fun s=>cJ [(5,.one (.t (sI false X))),(6,.one (.t (sI false Y))),(7,.one (.sl 0 0 s.1)),(8,.one (tv (.int .i64 ((s.2.1:Nat):Int)))),(9,.one (tv (.int .i64 ((s.1:Nat):Int))))]) (fun s=>[(⟨3,1,(cV s.2.2).map .t⟩:Ob)].map some) (fun s=>s.2.2.length=s.1∧Lim 65536 s.2.2∧vl 65536 s.2.2+65536^s.1*s.2.1=vl 65536 (X.take s.1)+vl 65536 (Y.take s.1)∧s.2.1≤1∧(s.1≤max X.length Y.length∨s.1=max X.length Y.length+1∧s.2.1=0)) (fun s=>max X.length Y.length+1-s.1) (0,0,[]) ⟨rfl,Lim.nil,rfl,Nat.zero_le _,.inl (Nat.zero_le _)⟩ ((nr (i:=7) 0 3 1 rfl rfl rfl rfl).trans (aJ h0 [0] _ _ (by decide) ⟨rfl,rfl,rfl,rfl,rfl,trivial⟩ ⟨cD (l:=[]) rfl,rfl⟩)) ?_
 rintro⟨k,cr,os⟩ ⟨hos,hol,hv,hc1,hkm⟩;dsimp only at hos hol hv hc1 hkm⊢;have hn1:=hX.nth (by omega) k
 have hn2:=hY.nth (by omega) k
 refine sq ?_;refine sq ?_;refine rl ?_;(iterate 6 refine o1 ?_);refine WL.cast (t:=20) (u':=.int .i64 ((max X.length Y.length:Nat):Int)) rfl (aH (by omega)) ?_
 refine o1 ?_;refine o1 ?_;refine WL.split (t:=22) rfl (fun h1=>?_) (fun h1=>?_)
 ·refine cW ?_;refine cW ?_;refine o1 ?_;refine nl ?_;refine iC rfl ?_;refine sk ?_;refine sq ?_;refine bl ?_;refine sq ?_;refine rl ?_;refine o1 ?_;refine o1 ?_
  refine ca (jQ) jR ⟨a1 rfl,a1 rfl,rfl⟩ (.one (tv (.int .i64 ((nth X (k):Nat):Int)))) ?_;refine o1 ?_;refine o1 ?_
  refine ca (jQ) jR ⟨a1 rfl,a1 rfl,rfl⟩ (.one (tv (.int .i64 ((nth Y (k):Nat):Int)))) ?_;(iterate 3 refine o1 ?_)
  refine WL.cast (t:=36) (u':=.int .i64 ((nth X k+nth Y k+cr:Nat):Int)) rfl (aH (by omega)) ?_
  refine o1 ?_;refine nl ?_;refine sq ?_;refine rl ?_;(iterate 3 refine o1 ?_)
  refine WL.cast (t:=39) (u':=.int .i64 (((nth X k+nth Y k+cr)%65536:Nat):Int)) rfl (aH (eK _ 65536)) ?_;refine bs 1 ?_
  refine fR (j:=2) aA rfl rfl rfl rfl (.sl rfl (by rw[List.length_map,eL,hos];omega)) (.sl rfl rfl rfl) rfl rfl rfl (by omega) (by omega) ?_
  refine o1 ?_;refine nl ?_;refine rl ?_;refine o1 ?_;refine o1 ?_ (hC:=(eA 65536 (by omega) (by simp only[eQ];omega)))
  refine WL.cast (t:=43) (u':=.int .i64 (((nth X k+nth Y k+cr)/65536:Nat):Int)) rfl (aH (dM _ 65536)) ?_;refine o1 ?_;refine nl ?_;refine rl ?_;(iterate 3 refine o1 ?_)
  refine nl ?_;have hst:=Bs hos hv
  have hz1:X.length≤k→nth X k=0:=fun h=>dC (by omega)
  have hz2:Y.length≤k→nth Y k=0:=fun h=>dC (by omega)
  exact⟨(k+1,(nth X k+nth Y k+cr)/65536,os++[(nth X k+nth Y k+cr)%65536]),by dsimp only;omega,⟨by simp[hos],hol.append (Lim.cons (Nat.mod_lt _ (by omega)) Lim.nil),hst,by dsimp only;omega,by dsimp only;omega⟩,aJ h0 [2] _ _ (by decide) ⟨rfl,rfl,rfl,rfl,rfl,trivial⟩ ⟨iY rfl (eM _ [(nth X k+nth Y k+cr)%65536]) rfl,rfl⟩⟩
 (iterate 3 refine o1 ?_);refine nl ?_;refine bU rfl (fun h2=>?_) (fun h2=>?_)
 ·refine sk ?_;refine sq ?_;refine bl ?_;refine sq ?_;refine rl ?_;refine o1 ?_;refine o1 ?_
  refine ca (jQ) jR ⟨a1 rfl,a1 rfl,rfl⟩ (.one (tv (.int .i64 ((nth X (k):Nat):Int)))) ?_;refine o1 ?_;refine o1 ?_
  refine ca (jQ) jR ⟨a1 rfl,a1 rfl,rfl⟩ (.one (tv (.int .i64 ((nth Y (k):Nat):Int)))) ?_;(iterate 3 refine o1 ?_)
  refine WL.cast (t:=36) (u':=.int .i64 ((nth X k+nth Y k+cr:Nat):Int)) rfl (aH (by omega)) ?_
  refine o1 ?_;refine nl ?_;refine sq ?_;refine rl ?_;(iterate 3 refine o1 ?_)
  refine WL.cast (t:=39) (u':=.int .i64 (((nth X k+nth Y k+cr)%65536:Nat):Int)) rfl (aH (eK _ 65536)) ?_;refine bs 1 ?_
  refine fR (j:=2) aA rfl rfl rfl rfl (.sl rfl (by rw[List.length_map,eL,hos];omega)) (.sl rfl rfl rfl) rfl rfl rfl (by omega) (by omega) ?_
  refine o1 ?_;refine nl ?_;refine rl ?_;refine o1 ?_;refine o1 ?_ (hC:=(eA 65536 (by omega) (by simp only[eQ];omega)))
  refine WL.cast (t:=43) (u':=.int .i64 (((nth X k+nth Y k+cr)/65536:Nat):Int)) rfl (aH (dM _ 65536)) ?_;refine o1 ?_;refine nl ?_;refine rl ?_;(iterate 3 refine o1 ?_)
  refine nl ?_;have hst:=Bs hos hv
  have hz1:X.length≤k→nth X k=0:=fun h=>dC (by omega)
  have hz2:Y.length≤k→nth Y k=0:=fun h=>dC (by omega)
  exact⟨(k+1,(nth X k+nth Y k+cr)/65536,os++[(nth X k+nth Y k+cr)%65536]),by dsimp only;omega,⟨by simp[hos],hol.append (Lim.cons (Nat.mod_lt _ (by omega)) Lim.nil),hst,by dsimp only;omega,by dsimp only;omega⟩,aJ h0 [2] _ _ (by decide) ⟨rfl,rfl,rfl,rfl,rfl,trivial⟩ ⟨iY rfl (eM _ [(nth X k+nth Y k+cr)%65536]) rfl,rfl⟩⟩
 refine ex ?_;refine sq ?_;refine rl ?_;have hc0:cr=0:=by omega
 rw[hc0,Nat.mul_zero,Nat.add_zero,bE 65536 (by omega),bE 65536 (by omega),hvX,hvY]at hv
 refine WL.sub (qC (i:=7) (zs':=os) rfl rfl rfl (by omega) rfl) ?_
 refine o1 ?_;refine hH 1 (mP (by omega) (by assumption)) uH ⟨a1 rfl,rfl⟩ ?_
 refine o1 ?_;refine nl ?_;refine rt ?_
 exact en (.inl rfl) rfl (bZ (.one (.sl (trs:=aM (dg 4294967296 (vl 65536 os))) rfl rfl (bP _) (bK _)))) (by decide) (fun _=>.inl ⟨rfl,eX _⟩) (by rw[hv];rfl)
theorem Lo {xs ys:List Nat}(hx:xs.length≤1099511627776) (hlx:Lim 4294967296 xs) (hy:ys.length≤1099511627776) (hly:Lim 4294967296 ys):aL true Tryz.prog 128 [] [.one (.t (sU false xs)),.one (.t (sU false ys))] (aU (.tup [.one (.t (sU true (dg 4294967296 (vl 4294967296 xs-vl 4294967296 ys)))),.one (tv (.int .i64 (if vl 4294967296 xs<vl 4294967296 ys then 2 else 0)))])):=by
 refine cF Tryz.func128 rfl Tryz.ntmps128 rfl aA rfl fun N w c0 h0=>?_
 refine sq ?_;refine rl ?_;refine o1 ?_;refine o1 ?_;refine nl ?_;refine sq ?_;refine sq ?_;refine rl ?_;refine o1 ?_;refine o1 ?_
 refine ca (Ca hx hlx hy hly) Gv ⟨a1 rfl,a1 rfl,rfl⟩ (.one (tv (.int .i64 (((vl 4294967296 xs:Nat):Int)-((vl 4294967296 ys:Nat):Int)).sign))) ?_;refine o1 ?_;refine nl ?_
 refine bU rfl (fun h1=>?_) (fun h1=>?_)
 ·refine sq ?_;refine rl ?_;refine o1 ?_;refine o1 ?_;refine nl ?_;refine rt ?_;have hlt:=Xu h1
  exact en (.inl rfl) rfl (eH (.cons (.one (.nil (t:=22) (z:=1))) (.cons (bQ _) .nil))) (by decide) (fun _=>⟨.inl ⟨rfl,trivial⟩,trivial,trivial⟩) (by rw[Nat.sub_eq_zero_of_le (Nat.le_of_lt hlt),if_pos hlt];rfl)
 refine sk ?_;refine sq ?_;refine rl ?_;refine o1 ?_;refine ca (gC hx hlx) mA ⟨a1 rfl,rfl⟩ (.one (.t (sI false (dg 65536 (vl 4294967296 xs))))) ?_;refine o1 ?_
 refine ca (gC hy hly) mA ⟨a1 rfl,rfl⟩ (.one (.t (sI false (dg 65536 (vl 4294967296 ys))))) ?_;refine o1 ?_;refine o1 ?_;refine nl ?_;refine sq ?_
 have hge:vl 4294967296 ys≤vl 4294967296 xs:=Xt h1
 have hyx:=cQ (B:=65536) (by omega) hge
 have hdx:=cU (v:=vl 4294967296 xs) (L:=xs.length) (by rw[dK (by omega) hlx];exact bY _)
 have hdy:=cU (v:=vl 4294967296 ys) (L:=ys.length) (by rw[dK (by omega) hly];exact bY _)
 have hX:=aF (B:=65536) (by omega) (vl 4294967296 xs)
 have hY:=aF (B:=65536) (by omega) (vl 4294967296 ys)
 have hvX:=aZ (B:=65536) (by omega) (vl 4294967296 xs)
 have hvY:=aZ (B:=65536) (by omega) (vl 4294967296 ys)
 generalize dg 65536 (vl 4294967296 xs)=X at hdx hX hvX hyx⊢;generalize dg 65536 (vl 4294967296 ys)=Y at hdy hY hvY hyx⊢;refine rl ?_;refine o1 ?_;refine nl ?_;refine sq ?_;refine rl ?_
 refine o1 ?_;refine nl ?_;refine sq ?_;refine sq ?_;refine rl ?_;refine o1 ?_;refine nl ?_;refine bl ?_
 refine lp (γ:=Nat×Nat×List Nat) (fun s=>cJ [(6,.one (.t (sI false X))),(7,.one (.t (sI false Y))),(8,.one (.sl 0 0 s.1)),(9,.one (tv (.int .i64 ((s.2.1:Nat):Int)))),(10,.one (tv (.int .i64 ((s.1:Nat):Int))))]) (fun s=>[(⟨3,1,(cV s.2.2).map .t⟩:Ob)].map some) (fun s=>s.2.2.length=s.1∧Lim 65536 s.2.2∧vl 65536 s.2.2+vl 65536 (Y.take s.1)=vl 65536 (X.take s.1)+65536^s.1*s.2.1∧s.2.1≤1∧s.1≤X.length) (fun s=>X.length-s.1) (0,0,[]) ⟨rfl,Lim.nil,rfl,Nat.zero_le _,Nat.zero_le _⟩ ((nr (i:=8) 0 3 1 rfl rfl rfl rfl).trans (aJ h0 [0] _ _ (by decide) ⟨rfl,rfl,rfl,rfl,rfl,trivial⟩ ⟨cD (l:=[]) rfl,rfl⟩)) ?_
 rintro⟨k,br,os⟩ ⟨hos,hol,hv,hc1,hkm⟩;dsimp only at hos hol hv hc1 hkm⊢;have hn1:=hX.nth (by omega) k
 have hn2:=hY.nth (by omega) k
 refine sq ?_;refine sq ?_;refine rl ?_;(iterate 4 refine o1 ?_);refine nl ?_;refine bU rfl (fun h2=>?_) (fun h2=>?_)
 ·refine sk ?_;refine sq ?_;refine bl ?_;refine sq ?_;refine rd [] (fun i=>[10].contains i) mixed ?_
  refine dv 0 ?_;refine dv 1 ?_;refine dv 2 ?_;refine gD 3 ([.v (.int .i64 ((nth X (k):Nat):Int))]) (dR X (k:=k) (by omega)) ?_
  refine dv 4 ?_;refine dv 5 ?_;refine dv 8 ?_;refine aD 6 rfl (jQ) jR ⟨a1 rfl,a1 rfl,rfl⟩ (.one (tv (.int .i64 ((nth Y (k):Nat):Int)))) ?_;refine df 7 ?_;refine df 9 ?_
  refine gR 10 (by kernel_rfl) rfl rfl aA rfl (by trivial) ?_ (fun h=>by first | rfl | cases h)
  refine aP ?_;refine sq ?_;refine rl ?_;refine o1 ?_;refine nl ?_;refine sq ?_;refine sq ?_;refine rl ?_;refine o1 ?_;refine o1 ?_;refine nl ?_
  refine bU rfl (fun h3=>?_) (fun h3=>?_)
  ·refine sq ?_;refine rl ?_;(iterate 3 refine o1 ?_);refine nl ?_;refine rl ?_;refine o1 ?_;refine nl ?_;refine rl ?_
   refine WL.cast (t:=11) (u':=.int .i64 (((nth X k+65536-nth Y k-br:Nat)):Int)) rfl (aH (by omega)) ?_
   refine o1 ?_;refine o1 ?_;refine bs 1 ?_
   refine fR (j:=2) aA rfl rfl rfl rfl (.sl rfl (by rw[List.length_map,eL,hos];omega)) (.sl rfl rfl rfl) rfl rfl rfl (by omega) (by omega) ?_
   refine o1 ?_;refine nl ?_;refine rl ?_;(iterate 3 refine o1 ?_);refine nl ?_;have hst:=Bt (d:=nth X k+65536-nth Y k-br) (br':=1) hos hv (by omega)
   exact⟨(k+1,1,os++[nth X k+65536-nth Y k-br]),by dsimp only;omega,⟨by simp[hos],hol.append (Lim.cons (by omega) Lim.nil),hst,by dsimp only;omega,by dsimp only;omega⟩,aJ h0 [2] _ _ (by decide) ⟨rfl,rfl,rfl,rfl,rfl,trivial⟩ ⟨iY rfl (eM _ [nth X k+65536-nth Y k-br]) rfl,rfl⟩⟩
  refine sk ?_;refine rl ?_;refine WL.cast (t:=11) (u':=.int .i64 (((nth X k-nth Y k-br:Nat)):Int)) rfl (aH (by omega)) ?_
  refine o1 ?_;refine o1 ?_;refine bs 1 ?_
  refine fR (j:=2) aA rfl rfl rfl rfl (.sl rfl (by rw[List.length_map,eL,hos];omega)) (.sl rfl rfl rfl) rfl rfl rfl (by omega) (by omega) ?_
  refine o1 ?_;refine nl ?_;refine rl ?_;(iterate 3 refine o1 ?_);refine nl ?_;have hst:=Bt (d:=nth X k-nth Y k-br) (br':=0) hos hv (by omega)
  exact⟨(k+1,0,os++[nth X k-nth Y k-br]),by dsimp only;omega,⟨by simp[hos],hol.append (Lim.cons (by omega) Lim.nil),hst,by dsimp only;omega,by dsimp only;omega⟩,aJ h0 [2] _ _ (by decide) ⟨rfl,rfl,rfl,rfl,rfl,trivial⟩ ⟨iY rfl (eM _ [nth X k-nth Y k-br]) rfl,rfl⟩⟩
 refine ex ?_;refine sq ?_;refine rl ?_;have hoo:=dS hol
 rw[hos]at hoo;rw[bE 65536 (l:=X) (by omega),bE 65536 (l:=Y) (by omega),hvX,hvY]at hv
 have hb0:br=0:=by
  rcases Nat.eq_zero_or_pos br with h0 | h0
  ·exact h0
  have h1:br=1:=by omega
  rw[h1,Nat.mul_one,show k=X.length by omega]at hv
  rw[show k=X.length by omega]at hoo
  omega
 rw[hb0,Nat.mul_zero,Nat.add_zero]at hv;have he:vl 65536 os=vl 4294967296 xs-vl 4294967296 ys:=by omega
 refine WL.sub (qC (i:=8) (zs':=os) rfl rfl rfl (by omega) rfl) ?_
 refine o1 ?_;refine hH 1 (mP (by omega) (by assumption)) uH ⟨a1 rfl,rfl⟩ ?_
 refine o1 ?_;refine o1 ?_;refine nl ?_;refine rt ?_
 exact en (.inl rfl) rfl (eH (.cons (.one (.sl (trs:=aM (dg 4294967296 (vl 65536 os))) rfl rfl (bP _) (bK _))) (.cons (bQ _) .nil))) (by decide) (fun _=>⟨.inl ⟨rfl,eX _⟩,trivial,trivial⟩) (by rw[he,if_neg (by omega)];rfl)
end Go.Proofs.YteggpgndiajdpaaGreatDoor
