/- Part 14 of a proof: Sp to D2. -/
import Derived.Test.YthoemjjmkgmnjaaGreatM11
import Derived.Test.YthoemjjmkgmnjaaGreatM7
import Derived.Test.YthoemjjmkgmnjaaGreatM12
import Derived.Test.YthoemjjmkgmnjaaGreatM13
import Derived.Test.YthoemjjmkgmnjaaGreatM9
set_option maxRecDepth 100000
set_option linter.unusedVariables false
set_option linter.unusedSimpArgs false
namespace Go.Proofs.YthoemjjmkgmnjaaGreat
open Go Go.RowKit
theorem wY {ob:List (Option Ob)}{k:Nat}{o:Ob}(h:ob[k]? =some (some o)):bT ob k=some o:=by unfold bT;rw[h]
section
variable {α:Type}
theorem Kt {l us:List α}{o:Nat}(h:(l.drop o).take us.length=us) (h0:0<us.length):∃A C,l=A++(us++C)∧A.length=o:=by
 have h1:0<(l.drop o).length:=by
  rcases Nat.eq_zero_or_pos (l.drop o).length with h9 | h9
  ·rw[List.eq_nil_of_length_eq_zero h9,List.take_nil]at h
   rw[←h]at h0
   cases h0
  exact h9
 rw[List.length_drop]at h1
 refine⟨l.take o,(l.drop o).drop us.length,?_,by rw[List.length_take];omega⟩
 conv=>rhs;rhs;lhs;rw[←h]
 rw[List.take_append_drop,List.take_append_drop]
theorem tE {A us us' C:List α}{o:Nat}(h:A.length=o) (h':us'.length=us.length):bN (A++(us++C)) o us'=A++(us'++C):=by
 subst h
 unfold bN
 rw[List.take_left,←List.drop_drop,List.drop_left,h',List.drop_left,List.append_assoc]
theorem FT {l us us':List α}{o:Nat}(h:(l.drop o).take us.length=us) (h0:0<us.length) (h':us'.length=us.length):((bN l o us').drop o).take us'.length=us':=by
 obtain⟨A,C,rfl,hA⟩:=Kt h h0
 rw[tE hA h',←hA,List.drop_left,List.take_left]
theorem Pj {l us us' us2:List α}{o:Nat}(h:(l.drop o).take us.length=us) (h0:0<us.length) (h':us'.length=us.length) (h2:us2.length=us.length):bN (bN l o us') o us2=bN l o us2:=by
 obtain⟨A,C,rfl,hA⟩:=Kt h h0
 rw[tE hA h',tE hA h2,tE hA (by rw[h',h2])]
theorem Zs {l us:List α}{o:Nat}(h:(l.drop o).take us.length=us):bN l o us=l:=by
 unfold bN
 conv=>lhs;lhs;rhs;rw[←h]
 rw[←List.drop_drop,List.append_assoc,List.take_append_drop,List.take_append_drop]
theorem FU {l us:List α}{o o2 m:Nat}(h:o2+m≤o) (ho:o≤l.length):((bN l o us).drop o2).take m=(l.drop o2).take m:=by
 unfold bN
 rw[List.append_assoc,List.drop_append_of_le_length (by rw[List.length_take];omega),List.take_append_of_le_length (by rw[List.length_drop,List.length_take];omega),List.drop_take,List.take_take,Nat.min_eq_left (by omega)]
theorem Zt {l us:List α}{o o2 m:Nat}(h:o+us.length≤o2) (ho:o+us.length≤l.length):((bN l o us).drop o2).take m=(l.drop o2).take m:=by
 unfold bN
 rw[List.drop_append,List.drop_of_length_le (l:=l.take o++us) (by rw[List.length_append,List.length_take];omega),List.nil_append,List.drop_drop,List.length_append,List.length_take,Nat.min_eq_left (by omega),show o+us.length+(o2-(o+us.length))=o2 by omega]
theorem KR {l:List α}{o:Nat}{c0 c1 c2 c3 b1 b3:α}(h:(l.drop o).take 4=[c0,c1,c2,c3]):l[o+1]? =some c1∧(l.set (o+1) b1)[o+3]? =some c3∧(l.set (o+1) b1).set (o+3) b3=bN l o [c0,b1,c2,b3]:=by
 obtain⟨A,C,rfl,rfl⟩:=Kt (us:=[c0,c1,c2,c3]) h (by simp)
 rw[tE rfl (by rfl)]
 refine⟨?_,?_,?_⟩ <;> simp[List.getElem?_append_right,List.set_append_right]
end
def jM (a:Fr4) (k1 k2:Nat):List AV:=[tv (.bool a.s),.sl k1 0 a.x.length,tv (.bool a.t),.sl k2 0 a.y.length]
section
variable {x:Cx}{g:Nat→FV}{ob:List (Option Ob)}
theorem Bq {j k1 k2 o t' z':Nat}{l:List AV}{a:Fr4}(hk1:dY ob k1=true) (hk2:Nat.beq (k1+1) k2=true) (ho:bT ob j=some ⟨t',z',l⟩) (h:(l.drop o).take 4=(a.tr true).map AV.t):Sub x g ob g (ob.set j (some ⟨t',z',bN l o (jM a k1 k2)⟩)++[some ⟨109,1,(aJ a.x).map .t⟩]++[some ⟨109,1,(aJ a.y).map .t⟩]):=by
 obtain⟨p1,p2,p3⟩:=KR (b1:=.sl k1 0 a.x.length) (b3:=.sl k2 0 a.y.length) (show(l.drop o).take 4=[tv (.bool a.s),.t (sU true a.x),tv (.bool a.t),.t (sU true a.y)] from h)
 have hj:=cL ho
 have hlt:=(List.getElem?_eq_some_iff.1 hj).1
 have e1:=qK (x:=x) (g:=g) (j:=j) (key:=k1) (p:=o+1) (e:=109) (z:=1) (n:=a.x.length) (trs:=aJ a.x) hk1 rfl ho p1 rfl
 have e2:=qK (x:=x) (g:=g) (ob:=ob.set j (some ⟨t',z',l.set (o+1) (.sl k1 0 a.x.length)⟩)++[some ⟨109,1,(aJ a.x).map .t⟩]) (j:=j) (key:=k2) (p:=o+3) (e:=109) (z:=1) (n:=a.y.length) (trs:=aJ a.y) (by
   have q1:=Nat.eq_of_beq_eq_true hk1
   have q2:=Nat.eq_of_beq_eq_true hk2
   unfold dY
   rw[List.length_append,List.length_set,List.length_singleton,q1,q2]
   exact Nat.beq_refl _) rfl (wY (by rw[List.getElem?_append_left (by simpa using hlt),List.getElem?_set_self hlt])) p2 rfl
 rw[List.set_append_left _ _ (by simpa using hlt),List.set_set,p3]at e2
 exact e1.trans e2
theorem Br {j k1 k2 o t' z':Nat}{l l':List AV}{a:Fr4}{xs ys:List Nat}(hj1:Nat.beq j k1=false) (hj2:Nat.beq j k2=false) (h12:Nat.beq k1 k2=false) (ho:bT ob j=some ⟨t',z',l⟩) (h:(l.drop o).take 4=jM a k1 k2) (h1:bT ob k1=some ⟨109,1,(aJ xs).map .t⟩) (h2:bT ob k2=some ⟨109,1,(aJ ys).map .t⟩) (e1:xs.length=a.x.length) (e2:ys.length=a.y.length)
  (hl:bN l o (((⟨a.s,xs,a.t,ys⟩:Fr4).tr true).map .t)=l'):Sub x g ob g (((ob.set j (some ⟨t',z',l'⟩)).set k1 none).set k2 none):=by
 obtain⟨p1,p2,p3⟩:=KR (b1:=.t (.s true 109 1 a.x.length (aJ xs))) (b3:=.t (.s true 109 1 a.y.length (aJ ys))) h
 have q1:j≠k1:=fun e=>by subst e;simp at hj1
 have q2:j≠k2:=fun e=>by subst e;simp at hj2
 have q3:k1≠k2:=fun e=>by subst e;simp at h12
 have hj:=cL ho
 have hlt:=(List.getElem?_eq_some_iff.1 hj).1
 have f1:=iG (x:=x) (g:=g) (j:=j) (k:=k1) (p:=o+1) (e:=109) (z:=1) (n:=a.x.length) (trs:=aJ xs) hj1 rfl ho h1 p1 (by rw[←e1];exact aY _) (by rw[←e1];exact aU _) rfl
 have f2:=iG (x:=x) (g:=g) (ob:=(ob.set j (some ⟨t',z',l.set (o+1) (.t (.s true 109 1 a.x.length (aJ xs)))⟩)).set k1 none) (j:=j) (k:=k2) (p:=o+3) (e:=109) (z:=1) (n:=a.y.length) (trs:=aJ ys) hj2 rfl
  (wY (by rw[List.getElem?_set_ne (Ne.symm q1),List.getElem?_set_self hlt])) (wY (by rw[List.getElem?_set_ne q3,List.getElem?_set_ne q2];exact cL h2)) p2 (by rw[←e2];exact aY _) (by rw[←e2];exact aU _) rfl
 have hl2:bN l o [tv (.bool a.s),.t (.s true 109 1 a.x.length (aJ xs)),tv (.bool a.t),.t (.s true 109 1 a.y.length (aJ ys))]=l':=by
  rw[←hl,←e1,←e2]
  rfl
 rw[List.set_comm _ _ (Ne.symm q1),List.set_set,p3,hl2]at f2
 exact f1.trans f2
end
section
variable {α:Type}{f:α→List Tr}{z o k:Nat}{xs:List α}{y y':α}{us us':List Tr}{mid:List AV}
theorem rY (hf:∀x,(f x).length=z) (h:xs[k]? =some y) (hm:o+us.length≤z) (hu:((f y).drop o).take us.length=us) (h0:0<us.length) (hm':mid.length=us.length) (hl:us'.length=us.length) (hx:f y'=(f y).take o++us'++(f y).drop (o+us'.length)):bN (bN ((xs.flatMap f).map AV.t) (0+k*z+o) mid) (0+k*z+o) (us'.map AV.t)=((xs.set k y').flatMap f).map .t:=by
 have h1:=dN (f:=f) hf h hm hu
 rw[Pj (us:=us.map AV.t) h1 (by simpa using h0) (by simpa using hm') (by simpa using hl)]
 exact kU hf h (by omega) hx
def lD (sp:α→α) (xs:List α) (i:Nat):List α:=(xs.take i).map sp++xs.drop i
variable {sp:α→α}{i:Nat}
theorem Ku:lD sp xs 0=xs:=by simp[lD]
theorem tF:(lD sp xs i).length=xs.length:=by simp[lD];omega
theorem Pm (h:xs[i]? =some y):(lD sp xs i)[i]? =some y:=by
 have hi:=(List.getElem?_eq_some_iff.1 h).1
 unfold lD
 rw[List.getElem?_append_right (by rw[List.length_map,List.length_take];omega),List.length_map,List.length_take,Nat.min_eq_left (by omega),Nat.sub_self,List.getElem?_drop,Nat.add_zero,h]
theorem Pn (h:xs[i]? =some y):(lD sp xs i).set i (sp y)=lD sp xs (i+1):=by
 obtain⟨hi,rfl⟩:=List.getElem?_eq_some_iff.1 h
 unfold lD
 rw[List.set_append_right _ _ (by rw[List.length_map,List.length_take];omega),List.length_map,List.length_take,Nat.min_eq_left (by omega),Nat.sub_self,List.drop_eq_getElem_cons hi,List.set_cons_zero,←List.take_append_getElem hi,List.map_append,List.append_assoc]
 rfl
end
def iT (a:Fr4):Fr4:=⟨a.s,List.replicate a.x.length 77,a.t,List.replicate a.y.length 77⟩
def U5:Type:=Int×Int×Fr4×Fr4×Fr4
def jH (u:Us):U5:=(u.v,u.y,.of u.n,.of u.p,.of u.q)
def u5tr (u:U5):List Tr:=.v (.int .i64 u.1)::.v (.int .i64 u.2.1)::(u.2.2.1.tr true++(u.2.2.2.1.tr true++u.2.2.2.2.tr true))
def pA (u:U5):U5:=(u.1,u.2.1,iT u.2.2.1,u.2.2.2.1,u.2.2.2.2)
def wZ (u:U5):U5:=(u.1,u.2.1,u.2.2.1,u.2.2.2.1,iT u.2.2.2.2)
theorem xA (u:U5):(u5tr u).length=14:=rfl
def R6:Type:=Fr4×Fr4×Fr4×Fr4×Fr4×Fr4
def jI (r:Rw):R6:=(.of r.l,.of r.m,.of r.u,.of r.t,.of r.e,.of r.c)
def r6tr (r:R6):List Tr:=r.1.tr true++(r.2.1.tr true++(r.2.2.1.tr true++(r.2.2.2.1.tr true++(r.2.2.2.2.1.tr true++r.2.2.2.2.2.tr true))))
def pB (r:R6):R6:=(iT r.1,r.2.1,r.2.2.1,r.2.2.2.1,r.2.2.2.2.1,r.2.2.2.2.2)
def xB (r:R6):R6:=(r.1,r.2.1,iT r.2.2.1,r.2.2.2.1,r.2.2.2.2.1,r.2.2.2.2.2)
theorem qU (r:R6):(r6tr r).length=24:=rfl
theorem FW (us:List Us):us.flatMap (cF true)=(us.map jH).flatMap u5tr:=by
 rw[List.flatMap_map]
 rfl
theorem FX (rs:List Rw):rs.flatMap (bV true)=(rs.map jI).flatMap r6tr:=by
 rw[List.flatMap_map]
 rfl
theorem Vx {us:List Us}{i:Nat}(h:i<us.length):(us.map jH)[i]? =some (jH (aW us i)):=by rw[List.getElem?_map,dC h];rfl
theorem Vy {rs:List Rw}{i:Nat}(h:i<rs.length):(rs.map jI)[i]? =some (jI (aC rs i)):=by rw[List.getElem?_map,eT h];rfl
def jU (xs:List Nat) (k:Nat):List Nat:=List.replicate k 77++xs.drop k
theorem Kv {xs:List Nat}{k:Nat}(h:k≤xs.length):(jU xs k).length=xs.length:=by simp[jU];omega
theorem Kw {xs:List Nat}{k:Nat}(h:k<xs.length):(jU xs k).set k 77=jU xs (k+1):=by
 unfold jU
 rw[List.set_append_right _ _ (by simp),List.length_replicate,Nat.sub_self,List.drop_eq_getElem_cons h,List.set_cons_zero,List.replicate_succ']
 simp
theorem Kx {xs:List Nat}{k:Nat}(h:xs.length≤k) (h':k≤xs.length):jU xs k=List.replicate xs.length 77:=by
 rw[Nat.le_antisymm h' h]
 simp[jU]
def u0 (us:List Us) (i:Nat):List AV:=((lD (fun u=>wZ (pA u)) (us.map jH) i).flatMap u5tr).map .t
def u1 (us:List Us) (i:Nat):List AV:=(((lD (fun u=>wZ (pA u)) (us.map jH) i).set i (pA (jH (aW us i)))).flatMap u5tr).map .t
def r0 (rs:List Rw) (i:Nat):List AV:=((lD (fun r=>xB (pB r)) (rs.map jI) i).flatMap r6tr).map .t
def r1 (rs:List Rw) (i:Nat):List AV:=(((lD (fun r=>xB (pB r)) (rs.map jI) i).set i (pB (jI (aC rs i)))).flatMap r6tr).map .t
section
variable {us:List Us}{rs:List Rw}{i k1 k2:Nat}
theorem FY:u0 us 0=(us.flatMap (cF true)).map .t:=by unfold u0;rw[FW,Ku]
theorem FZ:r0 rs 0=(rs.flatMap (bV true)).map .t:=by unfold r0;rw[FX,Ku]
theorem qV {τ:List Nat}:renL τ (u0 us i)=some (u0 us i):=yU _
theorem KS {τ:List Nat}:renL τ (u1 us i)=some (u1 us i):=yU _
theorem KT {τ:List Nat}:renL τ (r1 rs i)=some (r1 rs i):=yU _
theorem Ky {τ:List Nat}:renL τ (r0 rs i)=some (r0 rs i):=yU _
theorem Vz:(r0 rs i).length=rs.length*24:=by unfold r0;rw[List.length_map,gY qU,tF,List.length_map]
theorem KU (h:i<us.length):(lD (fun u=>wZ (pA u)) (us.map jH) i)[i]? =some (jH (aW us i)):=Pm (Vx h)
theorem KV (h:i<rs.length):(lD (fun r=>xB (pB r)) (rs.map jI) i)[i]? =some (jI (aC rs i)):=Pm (Vy h)
theorem KW (h:i<us.length):((lD (fun u=>wZ (pA u)) (us.map jH) i).set i (pA (jH (aW us i))))[i]? =some (pA (jH (aW us i))):=List.getElem?_set_self (by rw[tF,List.length_map];exact h)
theorem KX (h:i<rs.length):((lD (fun r=>xB (pB r)) (rs.map jI) i).set i (pB (jI (aC rs i))))[i]? =some (pB (jI (aC rs i))):=List.getElem?_set_self (by rw[tF,List.length_map];exact h)
theorem KY (h:i<us.length):lD (fun u=>wZ (pA u)) (us.map jH) (i+1)=((lD (fun u=>wZ (pA u)) (us.map jH) i).set i (pA (jH (aW us i)))).set i (wZ (pA (jH (aW us i)))):=by
 rw[List.set_set]
 exact(Pn (sp:=fun u=>wZ (pA u)) (Vx h)).symm
theorem KZ (h:i<rs.length):lD (fun r=>xB (pB r)) (rs.map jI) (i+1)=((lD (fun r=>xB (pB r)) (rs.map jI) i).set i (pB (jI (aC rs i)))).set i (xB (pB (jI (aC rs i)))):=by
 rw[List.set_set]
 exact(Pn (sp:=fun r=>xB (pB r)) (Vy h)).symm
theorem RY (h:i<us.length):(lD (fun u=>wZ (pA u)) (us.map jH) (i+1))[i]? =some (wZ (pA (jH (aW us i)))):=by
 rw[KY h]
 exact List.getElem?_set_self (by rw[List.length_set,tF,List.length_map];exact h)
theorem LA (h:i<rs.length):(lD (fun r=>xB (pB r)) (rs.map jI) (i+1))[i]? =some (xB (pB (jI (aC rs i)))):=by
 rw[KZ h]
 exact List.getElem?_set_self (by rw[List.length_set,tF,List.length_map];exact h)
theorem Zu (h:i<us.length):((u0 us i).drop (0+i*14+2)).take 4=((Fr4.of (aW us i).n).tr true).map .t:=dN (f:=u5tr) (us:=(Fr4.of (aW us i).n).tr true) xA (KU h) (Nat.le_of_ble_eq_true rfl) rfl
theorem Zw (h:i<us.length):((u1 us i).drop (0+i*14+10)).take 4=((Fr4.of (aW us i).q).tr true).map .t:=dN (f:=u5tr) (us:=(Fr4.of (aW us i).q).tr true) xA (KW h) (Nat.le_of_ble_eq_true rfl) rfl
theorem So (h:i<us.length):((u0 us (i+1)).drop (0+i*14+6)).take 4=((Fr4.of (aW us i).p).tr true).map .t:=dN (f:=u5tr) (us:=(Fr4.of (aW us i).p).tr true) xA (RY h) (Nat.le_of_ble_eq_true rfl) rfl
theorem RZ (h:i<us.length):bN (bN (u0 us i) (0+i*14+2) (jM (.of (aW us i).n) k1 k2)) (0+i*14+2) (((iT (.of (aW us i).n)).tr true).map .t)=u1 us i:=
 rY (f:=u5tr) (z:=14) (o:=2) (y:=jH (aW us i)) (y':=pA (jH (aW us i))) (us:=(Fr4.of (aW us i).n).tr true) (us':=(iT (.of (aW us i).n)).tr true) (mid:=jM (.of (aW us i).n) k1 k2) xA (KU h) (Nat.le_of_ble_eq_true rfl) rfl (Nat.le_of_ble_eq_true rfl) rfl rfl rfl
theorem SA (h:i<us.length):bN (bN (u1 us i) (0+i*14+10) (jM (.of (aW us i).q) k1 k2)) (0+i*14+10) (((iT (.of (aW us i).q)).tr true).map .t)=u0 us (i+1):=by
 unfold u0
 rw[KY h]
 exact rY (f:=u5tr) (z:=14) (o:=10) (y:=pA (jH (aW us i))) (y':=wZ (pA (jH (aW us i)))) (us:=(Fr4.of (aW us i).q).tr true) (us':=(iT (.of (aW us i).q)).tr true) (mid:=jM (.of (aW us i).q) k1 k2) xA (KW h) (Nat.le_of_ble_eq_true rfl) rfl (Nat.le_of_ble_eq_true rfl) rfl rfl rfl
theorem Zx (h:i<rs.length):((r0 rs i).drop (0+i*24)).take 4=((Fr4.of (aC rs i).l).tr true).map .t:=dN (f:=r6tr) (o:=0) (us:=(Fr4.of (aC rs i).l).tr true) qU (KV h) (Nat.le_of_ble_eq_true rfl) rfl
theorem Zy (h:i<rs.length):((r1 rs i).drop (0+i*24+8)).take 4=((Fr4.of (aC rs i).u).tr true).map .t:=dN (f:=r6tr) (us:=(Fr4.of (aC rs i).u).tr true) qU (KX h) (Nat.le_of_ble_eq_true rfl) rfl
theorem Sp (h:i<rs.length):((r0 rs (i+1)).drop (0+i*24+12)).take 4=((Fr4.of (aC rs i).t).tr true).map .t:=dN (f:=r6tr) (us:=(Fr4.of (aC rs i).t).tr true) qU (LA h) (Nat.le_of_ble_eq_true rfl) rfl
theorem SB (h:i<rs.length):((r0 rs (i+1)).drop (0+i*24+4)).take 4=((Fr4.of (aC rs i).m).tr true).map .t:=dN (f:=r6tr) (us:=(Fr4.of (aC rs i).m).tr true) qU (LA h) (Nat.le_of_ble_eq_true rfl) rfl
theorem SC (h:i<rs.length):bN (bN (r0 rs i) (0+i*24) (jM (.of (aC rs i).l) k1 k2)) (0+i*24) (((iT (.of (aC rs i).l)).tr true).map .t)=r1 rs i:=
 rY (f:=r6tr) (z:=24) (o:=0) (y:=jI (aC rs i)) (y':=pB (jI (aC rs i))) (us:=(Fr4.of (aC rs i).l).tr true) (us':=(iT (.of (aC rs i).l)).tr true) (mid:=jM (.of (aC rs i).l) k1 k2) qU (KV h) (Nat.le_of_ble_eq_true rfl) rfl (Nat.le_of_ble_eq_true rfl) rfl rfl rfl
theorem SD (h:i<rs.length):bN (bN (r1 rs i) (0+i*24+8) (jM (.of (aC rs i).u) k1 k2)) (0+i*24+8) (((iT (.of (aC rs i).u)).tr true).map .t)=r0 rs (i+1):=by
 unfold r0
 rw[KZ h]
 exact rY (f:=r6tr) (z:=24) (o:=8) (y:=pB (jI (aC rs i))) (y':=xB (pB (jI (aC rs i)))) (us:=(Fr4.of (aC rs i).u).tr true) (us':=(iT (.of (aC rs i).u)).tr true) (mid:=jM (.of (aC rs i).u) k1 k2) qU (KX h) (Nat.le_of_ble_eq_true rfl) rfl (Nat.le_of_ble_eq_true rfl) rfl rfl rfl
variable {l:List AV}{o:Nat}{a:Fr4}
theorem gV (h:(l.drop o).take 4=(a.tr true).map AV.t):((bN l o (jM a k1 k2)).drop o).take 4=jM a k1 k2:=FT (us:=(a.tr true).map AV.t) (us':=jM a k1 k2) h (Nat.le_of_ble_eq_true rfl) rfl
theorem Bs (h:(l.drop o).take 4=(a.tr true).map AV.t):bN (bN l o (jM a k1 k2)) o (((⟨a.s,a.x,a.t,a.y⟩:Fr4).tr true).map .t)=l:=(Pj (us:=(a.tr true).map AV.t) (us':=jM a k1 k2) h (Nat.le_of_ble_eq_true rfl) rfl rfl).trans (Zs (us:=(a.tr true).map AV.t) h)
theorem Ig (h:i<rs.length):((bN (r0 rs (i+1)) (0+i*24+12) (jM a k1 k2)).drop (0+i*24+4)).take 4=((Fr4.of (aC rs i).m).tr true).map .t:=(FU (by omega) (by rw[Vz];omega)).trans (SB h)
theorem OV {b:Fr4}{k3 k4:Nat}(h:i<rs.length) (ha:a=.of (aC rs i).t):((bN (bN (r0 rs (i+1)) (0+i*24+12) (jM a k1 k2)) (0+i*24+4) (jM b k3 k4)).drop (0+i*24+12)).take 4=jM a k1 k2:=by
 subst ha
 have e:(bN (r0 rs (i+1)) (0+i*24+12) (jM (.of (aC rs i).t) k1 k2)).length=rs.length*24:=by
  have:=Vz (rs:=rs) (i:=i+1)
  unfold bN
  simp only[List.length_append,List.length_take,List.length_drop,this,show(jM (.of (aC rs i).t) k1 k2).length=4 from rfl]
  omega
 exact(Zt (by show 0+i*24+4+4≤_;omega) (by rw[e];show 0+i*24+4+4≤_;omega)).trans (gV (Sp h))
end
theorem xC {a:Fr4}(h:dO a=true):a.len 1099511627776:=by
 simp only[dO,Bool.and_eq_true,decide_eq_true_eq]at h
 exact⟨by omega,by omega⟩
theorem yV {xs:List Nat}(hx:xs.length≤1099511627776):aE true Tryz.prog 65 [] [.one (.t (sU false xs))] (aQ (.one (.t (sU true xs)))):=by
 refine bO Tryz.func65 rfl Tryz.ntmps65 rfl aA rfl fun N w c0 h0=>?_
 refine sq ?_;refine rl ?_;refine o1 ?_;refine nl ?_;refine sq ?_;refine rl ?_;refine o1 ?_;refine nl ?_;refine sq ?_;refine rl ?_;refine o1 ?_;refine o1 ?_
 refine jN (j:=0) aA rfl rfl rfl rfl .nil .fz (LB _) (Zz _) rfl (by omega) (by omega) ?_
 refine o1 ?_;refine nl ?_;refine rt ?_
 exact en (.inl rfl) rfl (aN (.one (.sl rfl rfl (by rw[Nat.zero_add,Nat.mul_one,List.nil_append,List.take_of_length_le (by simp[iK])]) (by simp[iK])))) (by decide) (fun _=>.inl ⟨rfl,fB xs⟩) (by simp[aQ,sU])
theorem DC {xs ys:List Nat}(hx:xs.length≤1099511627776) (hy:ys.length≤1099511627776):aE true Tryz.prog 49 [] [.one (.t (sU false xs)),.one (.t (sU false ys))] (aQ (.one (tv (.bool (decide (xs=ys)))))):=by
 refine bO Tryz.func49 rfl Tryz.ntmps49 rfl aA rfl fun N w c0 h0=>?_
 refine sq ?_;refine rl ?_;refine o1 ?_;refine nl ?_;refine sq ?_;refine sq ?_;refine rl ?_;(iterate 5 refine o1 ?_);refine nl ?_;refine bQ rfl (fun h1=>?_) (fun h1=>?_)
 ·refine sq ?_;refine rl ?_;refine o1 ?_;refine nl ?_;refine rt ?_;refine en (.inl rfl) rfl (aN (bH _)) (by decide) (fun _=>trivial) (congrArg (fun b=>FV.one (tv (.bool b))) ?_)
  exact(decide_eq_false (fun h=>h1 (by rw[h]))).symm
 refine sk ?_;refine sq ?_;refine sq ?_;refine rl ?_;refine o1 ?_;refine nl ?_;refine bl ?_
 refine lp (γ:=Nat) (fun k=>cG [(0,.one (.t (sU false xs))),(1,.one (.t (sU false ys))),(5,.one (tv (.int .i64 ((k:Nat):Int))))]) (fun k=>[].map some) (fun k=>k≤xs.length∧xs.take k=ys.take k) (fun k=>xs.length-k) 0 (⟨Nat.zero_le _,rfl⟩) (aP h0 [] _ _ (by decide) ⟨rfl,rfl,rfl,trivial⟩ rfl) fun k hk=>?_
 refine sq ?_;refine sq ?_;refine rl ?_;(iterate 4 refine o1 ?_);refine nl ?_;refine bQ rfl (fun h2=>?_) (fun h2=>?_)
 ·refine sk ?_;refine sq ?_;refine bl ?_;refine sq ?_;refine rd [] (fun i=>[].contains i) mixed ?_
  refine dv 0 ?_;refine dv 1 ?_;refine dv 2 ?_;refine dG 3 ([.v (.int .u32 ((nth xs (k):Nat):Int))]) (nJ xs (k:=k) (by omega)) ?_
  refine dv 4 ?_;refine dv 5 ?_;refine dv 6 ?_;refine dG 7 ([.v (.int .u32 ((nth ys (k):Nat):Int))]) (nJ ys (k:=k) (by omega)) ?_
  refine dv 8 ?_;refine aH ?_;refine bQ rfl (fun h3=>?_) (fun h3=>?_)
  ·refine sq ?_;refine rl ?_;refine o1 ?_;refine nl ?_;refine rt ?_;refine en (.inl rfl) rfl (aN (bH _)) (by decide) (fun _=>trivial) (congrArg (fun b=>FV.one (tv (.bool b))) ?_)
   exact(decide_eq_false (fun h=>h3 (by rw[h]))).symm
  refine sk ?_;refine rl ?_;(iterate 3 refine o1 ?_);refine nl ?_
  exact⟨k+1,by omega,⟨by omega,AA hk.2 (by omega) (by omega) (by omega)⟩,aP h0 [] _ _ (by decide) ⟨rfl,rfl,rfl,trivial⟩ rfl⟩
 refine ex ?_;refine sq ?_;refine rl ?_;refine o1 ?_;refine nl ?_;refine rt ?_
 refine en (.inl rfl) rfl (aN (bH _)) (by decide) (fun _=>trivial) (congrArg (fun b=>FV.one (tv (.bool b))) ?_)
 exact(decide_eq_true (by rw[←List.take_of_length_le (i:=k) (l:=xs) (by omega),hk.2,List.take_of_length_le (by omega)])).symm
theorem Bt {a:Fr4}(ha:a.len 1099511627776):aE true Tryz.prog 28 [] [qF a] (aQ (rO a)):=by
 refine bO Tryz.func28 rfl Tryz.ntmps28 rfl aA rfl fun N w c0 h0=>?_
 refine sq ?_;refine rl ?_;refine bx 0 ?_;refine al 1 ?_;refine nl ?_;refine sq ?_;refine rd [0,1] (fun i=>[17].contains i) mixed ?_
 refine dv 0 ?_;refine dv 1 ?_;refine aM 2 ?_;refine dv 3 ?_;refine dv 4 ?_;refine aM 5 ?_;refine dv 8 ?_;refine dv 9 ?_;refine aM 10 ?_;refine dv 11 ?_;refine dv 12 ?_;refine aM 13 ?_
 refine jW 2 6 rfl (yV ha.1) Sq ⟨a1 rfl,rfl⟩ ?_;refine df 7 ?_;refine jW 3 14 rfl (yV ha.2) Sq ⟨a1 rfl,rfl⟩ ?_;refine df 15 ?_;refine df 16 ?_;refine dst 17 ?_;refine aH ?_
 refine rt ?_
 exact en (.inl rfl) rfl (aN (.agg (.cons (.id rfl) (.cons (.sl (trs:=aJ a.x) rfl rfl (aY _) (aU _)) (.cons (.id rfl) (.cons (.sl (trs:=aJ a.y) rfl rfl (aY _) (aU _)) .nil)))))) (by decide) (fun _=>tG a) rfl
theorem GA {a:Fr4}(ha:a.len 1099511627776):aE true Tryz.prog 68 [] [qF a] (aQ (rO a)):=by
 refine bO Tryz.func68 rfl Tryz.ntmps68 rfl aA rfl fun N w c0 h0=>?_
 refine sq ?_;refine rl ?_;refine bx 0 ?_;refine al 1 ?_;refine nl ?_;refine sq ?_;refine rd [0,1] (fun i=>[17].contains i) mixed ?_
 refine dv 0 ?_;refine dv 1 ?_;refine aM 2 ?_;refine dv 3 ?_;refine dv 4 ?_;refine aM 5 ?_;refine dv 8 ?_;refine dv 9 ?_;refine aM 10 ?_;refine dv 11 ?_;refine dv 12 ?_;refine aM 13 ?_
 refine jW 2 6 rfl (yV ha.1) Sq ⟨a1 rfl,rfl⟩ ?_;refine df 7 ?_;refine jW 3 14 rfl (yV ha.2) Sq ⟨a1 rfl,rfl⟩ ?_;refine df 15 ?_;refine df 16 ?_;refine dst 17 ?_;refine aH ?_
 refine rt ?_
 exact en (.inl rfl) rfl (aN (.agg (.cons (.id rfl) (.cons (.sl (trs:=aJ a.x) rfl rfl (aY _) (aU _)) (.cons (.id rfl) (.cons (.sl (trs:=aJ a.y) rfl rfl (aY _) (aU _)) .nil)))))) (by decide) (fun _=>tG a) rfl
theorem yW {a b:Fr4}(ha:a.len 1099511627776) (hb:b.len 1099511627776):aE true Tryz.prog 17 [] [qF a,qF b] (aQ (.one (tv (.bool (decide (a=b)))))):=by
 refine bO Tryz.func17 rfl Tryz.ntmps17 rfl aA rfl fun N w c0 h0=>?_
 refine sq ?_;refine rl ?_;refine bx 0 ?_;refine bx 1 ?_;refine o1 ?_;refine nl ?_;refine sq ?_;refine rl ?_;refine o1 ?_;refine o1 ?_;refine ld ?_;refine o1 ?_;refine o1 ?_;refine ld ?_
 refine o1 ?_;refine o1 ?_;refine WL.splitb (t:=12) rfl (fun h1=>?_) (fun h1=>?_)
 ·refine o1 ?_;refine o1 ?_;refine ld ?_;refine o1 ?_;refine o1 ?_;refine ld ?_;(iterate 3 refine o1 ?_);refine WL.splitb (t:=21) rfl (fun h2=>?_) (fun h2=>?_)
  ·refine o1 ?_;refine o1 ?_;refine ld ?_;refine o1 ?_;refine o1 ?_;refine ld ?_;refine ca (DC ha.1 hb.1) LC ⟨a1 rfl,a1 rfl,rfl⟩ (.one (tv (.bool (decide (a.x=b.x))))) ?_
   refine o1 ?_;refine o1 ?_;refine WL.split (t:=30) rfl (fun h3=>?_) (fun h3=>?_)
   ·refine o1 ?_;refine o1 ?_;refine ld ?_;refine o1 ?_;refine o1 ?_;refine ld ?_;refine ca (DC ha.2 hb.2) LC ⟨a1 rfl,a1 rfl,rfl⟩ (.one (tv (.bool (decide (a.y=b.y))))) ?_
    refine o1 ?_;refine o1 ?_;refine nl ?_;refine rt ?_;exact en (.inl rfl) rfl (aN (bH _)) (by decide) (fun _=>trivial) (congrArg (fun b=>FV.one (tv (.bool b))) (by simp_all [xD]))
   (iterate 7 refine dV ?_);refine o1 ?_;refine o1 ?_;refine nl ?_;refine rt ?_
   exact en (.inl rfl) rfl (aN (bH _)) (by decide) (fun _=>trivial) (congrArg (fun b=>FV.one (tv (.bool b))) (by simp_all [xD]))
  (iterate 7 refine dV ?_);refine o1 ?_;refine o1 ?_;(iterate 7 refine dV ?_);refine o1 ?_;refine o1 ?_;refine nl ?_;refine rt ?_
  exact en (.inl rfl) rfl (aN (bH _)) (by decide) (fun _=>trivial) (congrArg (fun b=>FV.one (tv (.bool b))) (by simp_all [xD]))
 (iterate 7 refine dV ?_);refine o1 ?_;refine o1 ?_;(iterate 7 refine dV ?_);refine o1 ?_;refine o1 ?_;(iterate 7 refine dV ?_);refine o1 ?_;refine o1 ?_;refine nl ?_;refine rt ?_
 exact en (.inl rfl) rfl (aN (bH _)) (by decide) (fun _=>trivial) (congrArg (fun b=>FV.one (tv (.bool b))) (by simp_all [xD]))
theorem xE {n d:Int}(h1:-9223372036854775808≤n) (h2:n≤9223372036854775807) (h3:-9223372036854775808≤d) (h4:d≤9223372036854775807):aE true Tryz.prog 32 [] [.one (tv (.int .i64 n)),.one (tv (.int .i64 d))] (aQ (qO (Rat.divInt n d))):=by
 refine bO Tryz.func32 rfl Tryz.ntmps32 rfl aA rfl fun N w c0 h0=>?_
 have hs:=eO h1 h2 h3 h4
 have hl:(Fr4.of (Rat.divInt n d)).len 1099511627776:=⟨Nat.le_trans hs.1 (by omega),Nat.le_trans hs.2 (by omega)⟩
 refine sq ?_;refine rl ?_;refine al 0 ?_;refine nl ?_;refine sq ?_;refine rl ?_;refine o1 ?_;refine o1 ?_
 refine ca (OT h1 h2 h3 h4) SE ⟨a1 rfl,a1 rfl,rfl⟩ (.tup [qF (.of (Rat.divInt n d)),.one (tv (.int .i64 (if d=0 then 20 else 0)))]) ?_;(iterate 3 refine o1 ?_);refine al 1 ?_;refine st ?_
 refine o1 ?_;refine nl ?_;refine sq ?_;refine rl ?_;refine ld ?_;refine gQ 2 (GA (a:=.of (Rat.divInt n d)) hl) SF ⟨aB rfl,rfl⟩ ?_;refine st ?_;refine nl ?_;refine rt ?_
 exact en (.inl rfl) rfl (aN (.agg (.cons (.id rfl) (.cons (.sl (trs:=aJ (dg 4294967296 (Rat.divInt n d).num.natAbs)) rfl rfl (aY _) (aU _)) (.cons (.id rfl) (.cons (.sl (trs:=aJ (dg 4294967296 (Rat.divInt n d).den)) rfl rfl (aY _) (aU _)) .nil)))))) (by decide) (fun _=>mC _) rfl
theorem yX {a:Fr4}:aE true Tryz.prog 23 [] [qF a] (aQ (.one (tv (.bool (dO a))))):=by
 refine bO Tryz.func23 rfl Tryz.ntmps23 rfl aA rfl fun N w c0 h0=>?_
 refine sq ?_;refine rl ?_;refine bx 0 ?_;refine o1 ?_;refine nl ?_;refine sq ?_;refine rl ?_;refine o1 ?_;refine o1 ?_;refine ld ?_;(iterate 3 refine o1 ?_)
 refine WL.split (t:=8) rfl (fun h1=>?_) (fun h1=>?_)
 ·refine o1 ?_;refine o1 ?_;refine ld ?_;(iterate 4 refine o1 ?_);refine nl ?_;refine rt ?_
  exact en (.inl rfl) rfl (aN (bH _)) (by decide) (fun _=>trivial) (congrArg (fun z=>FV.one (tv (.bool z))) (by simp only[dO,decide_eq_true h1,Bool.not_true,Bool.not_false,Bool.or_true,Bool.true_or,Bool.false_or,Bool.or_false,Bool.false_eq_true,if_true,if_false,ite_true,ite_false,Bool.and_true,Bool.true_and,Bool.false_and,Bool.and_false]))
 (iterate 5 refine dV ?_);refine o1 ?_;refine o1 ?_;refine nl ?_;refine rt ?_
 exact en (.inl rfl) rfl (aN (bH _)) (by decide) (fun _=>trivial) (congrArg (fun z=>FV.one (tv (.bool z))) (by simp only[dO,decide_eq_false h1,Bool.not_true,Bool.not_false,Bool.or_true,Bool.true_or,Bool.false_or,Bool.or_false,Bool.false_eq_true,if_true,if_false,ite_true,ite_false,Bool.and_true,Bool.true_and,Bool.false_and,Bool.and_false]))
theorem OW {c:Fr4}{bk fw:Int}{ys:List (Fr4×Fr4)}:aE true Tryz.prog 8 [] [.agg ((c.tr false++[.v (.int .i64 bk),.v (.int .i64 fw)]:List Tr).map .t),.one (.t (jB ys))] (aQ (.one (tv (.bool (wN c ys))))):=by
 refine bO Tryz.func8 rfl Tryz.ntmps8 rfl aA rfl fun N w c0 h0=>?_
 refine sq ?_;refine rl ?_;refine bx 0 ?_;refine o1 ?_;refine nl ?_;refine sq ?_;refine sq ?_;refine rl ?_;refine o1 ?_;refine nl ?_;refine bl ?_
 refine lp (γ:=Nat) (fun k=>cG [(1,.one (.t (jB ys))),(2,.one (.pt 0 0)),(5,.one (tv (.int .i64 ((k:Nat):Int))))]) (fun _=>[(⟨28,0,(c.tr false++[.v (.int .i64 bk),.v (.int .i64 fw)]:List Tr).map .t⟩:Ob)].map some) (fun k=>k≤ys.length∧k≤50∧∀j,j<k→(dO (bR ys j).1&&dO (bR ys j).2)=true) (fun k=>ys.length-k) 0 ⟨Nat.zero_le _,Nat.zero_le _,fun j hj=>absurd hj (Nat.not_lt_zero j)⟩ (aP h0 [0] _ _ (by decide) ⟨rfl,rfl,rfl,trivial⟩ ⟨oe rfl rfl,rfl⟩) fun k hk=>?_
 refine sq ?_;refine sq ?_;refine rl ?_;(iterate 5 refine o1 ?_);refine WL.split (t:=10) rfl (fun h1=>?_) (fun h1=>?_)
 ·(iterate 3 refine o1 ?_);refine nl ?_;refine bQ rfl (fun h2=>?_) (fun h2=>?_)
  ·refine sk ?_;refine sq ?_;refine bl ?_;refine sq ?_;refine rl ?_;(iterate 4 refine o1 ?_)
   refine gJ ((bR ys (k)).1.tr false) (aX (f:=cA) (z:=8) (o:=0) dB (dW (by omega)) (Nat.le_of_ble_eq_true rfl) rfl) ?_
   refine ca (yX (a:=(bR ys (k)).1)) Sr ⟨aB rfl,rfl⟩ (.one (tv (.bool (dO (bR ys (k)).1)))) ?_;refine WL.splitb (t:=21) rfl (fun h3=>?_) (fun h3=>?_)
   ·(iterate 6 refine o1 ?_);refine gJ ((bR ys (k)).2.tr false) (aX (f:=cA) (z:=8) (o:=4) dB (dW (by omega)) (Nat.le_of_ble_eq_true rfl) rfl) ?_
    refine ca (yX (a:=(bR ys (k)).2)) Sr ⟨aB rfl,rfl⟩ (.one (tv (.bool (dO (bR ys (k)).2)))) ?_;refine WL.splitb (t:=29) rfl (fun h4=>?_) (fun h4=>?_)
    ·refine o1 ?_;refine o1 ?_;refine nl ?_;refine iE rfl ?_;refine sk ?_;refine rl ?_;refine o1 ?_;refine o1 ?_
     refine WL.cast (t:=15) (u':=.int .i64 ((k+1:Nat):Int)) rfl (aO (by omega)) ?_
     refine o1 ?_;refine nl ?_
     exact⟨k+1,by omega,⟨by omega,by omega,fun j hj=>by rcases Nat.lt_succ_iff_lt_or_eq.1 hj with h9 | h9;exact hk.2.2 j h9;subst h9;rw[h3,h4];rfl⟩,aP h0 [0] _ _ (by decide) ⟨rfl,rfl,rfl,trivial⟩ ⟨oe rfl rfl,rfl⟩⟩
    refine o1 ?_;refine o1 ?_;refine nl ?_;refine iF rfl ?_;refine sq ?_;refine rl ?_;refine o1 ?_;refine nl ?_;refine rt ?_
    exact en (.inl rfl) rfl (aN (bH _)) (by decide) (fun _=>trivial) (congrArg (fun z=>FV.one (tv (.bool z))) (Ov (c:=c) (k:=k) (by omega) (by omega) (by simp only[h3,h4,Bool.not_true,Bool.not_false,Bool.or_true,Bool.true_or,Bool.false_or,Bool.or_false,Bool.false_eq_true,if_true,if_false,ite_true,ite_false,Bool.and_true,Bool.true_and,Bool.false_and,Bool.and_false])))
   refine o1 ?_;refine o1 ?_;(iterate 7 refine dV ?_);refine o1 ?_;refine nl ?_;refine iF rfl ?_;refine sq ?_;refine rl ?_;refine o1 ?_;refine nl ?_;refine rt ?_
   exact en (.inl rfl) rfl (aN (bH _)) (by decide) (fun _=>trivial) (congrArg (fun z=>FV.one (tv (.bool z))) (Ov (c:=c) (k:=k) (by omega) (by omega) (by simp only[h3,Bool.not_true,Bool.not_false,Bool.or_true,Bool.true_or,Bool.false_or,Bool.or_false,Bool.false_eq_true,if_true,if_false,ite_true,ite_false,Bool.and_true,Bool.true_and,Bool.false_and,Bool.and_false])))
  refine ex ?_;refine sq ?_;refine rl ?_;refine o1 ?_;refine ld ?_;refine ca (yX (a:=c)) Sr ⟨aB rfl,rfl⟩ (.one (tv (.bool (dO c)))) ?_;refine o1 ?_
  refine WL.splitb (t:=35) rfl (fun h5=>?_) (fun h5=>?_)
  ·(iterate 4 refine o1 ?_);refine WL.split (t:=39) rfl (fun h6=>?_) (fun h6=>?_)
   ·(iterate 8 refine dV ?_);(iterate 3 refine o1 ?_);refine nl ?_;refine rt ?_;have hfy:=kV (c:=c) (k:=k) hk.2.2 hk.1 (by omega)
    exact en (.inl rfl) rfl (aN (bH _)) (by decide) (fun _=>trivial) (congrArg (fun z=>FV.one (tv (.bool z))) (by rw[←hfy];simp only[h5,decide_eq_true h6,Bool.not_true,Bool.not_false,Bool.or_true,Bool.true_or,Bool.false_or,Bool.or_false,Bool.false_eq_true,if_true,if_false,ite_true,ite_false,Bool.and_true,Bool.true_and,Bool.false_and,Bool.and_false]))
   (iterate 4 refine o1 ?_);refine WL.split (t:=43) rfl (fun h7=>?_) (fun h7=>?_)
   ·(iterate 7 refine o1 ?_);refine nl ?_;refine rt ?_;have hfy:=kV (c:=c) (k:=k) hk.2.2 hk.1 (by omega)
    exact en (.inl rfl) rfl (aN (bH _)) (by decide) (fun _=>trivial) (congrArg (fun z=>FV.one (tv (.bool z))) (by rw[←hfy];simp only[h5,decide_eq_false h6,decide_eq_true h7,Bool.not_true,Bool.not_false,Bool.or_true,Bool.true_or,Bool.false_or,Bool.or_false,Bool.false_eq_true,if_true,if_false,ite_true,ite_false,Bool.and_true,Bool.true_and,Bool.false_and,Bool.and_false]))
   (iterate 3 refine dV ?_);(iterate 4 refine o1 ?_);refine nl ?_;refine rt ?_;have hfy:=kV (c:=c) (k:=k) hk.2.2 hk.1 (by omega)
   exact en (.inl rfl) rfl (aN (bH _)) (by decide) (fun _=>trivial) (congrArg (fun z=>FV.one (tv (.bool z))) (by rw[←hfy];simp only[h5,decide_eq_false h6,decide_eq_false h7,Bool.not_true,Bool.not_false,Bool.or_true,Bool.true_or,Bool.false_or,Bool.or_false,Bool.false_eq_true,if_true,if_false,ite_true,ite_false,Bool.and_true,Bool.true_and,Bool.false_and,Bool.and_false]))
  (iterate 13 refine dV ?_);refine o1 ?_;refine o1 ?_;refine nl ?_;refine rt ?_;have hfy:=kV (c:=c) (k:=k) hk.2.2 hk.1 (by omega)
  exact en (.inl rfl) rfl (aN (bH _)) (by decide) (fun _=>trivial) (congrArg (fun z=>FV.one (tv (.bool z))) (by rw[←hfy];simp only[h5,Bool.not_true,Bool.not_false,Bool.or_true,Bool.true_or,Bool.false_or,Bool.or_false,Bool.false_eq_true,if_true,if_false,ite_true,ite_false,Bool.and_true,Bool.true_and,Bool.false_and,Bool.and_false]))
 refine dV ?_;refine dV ?_;refine o1 ?_;refine nl ?_;refine iE rfl ?_;refine ex ?_;refine sq ?_;refine rl ?_;refine o1 ?_;refine ld ?_
 refine ca (yX (a:=c)) Sr ⟨aB rfl,rfl⟩ (.one (tv (.bool (dO c)))) ?_;refine o1 ?_;refine WL.splitb (t:=35) rfl (fun h8=>?_) (fun h8=>?_)
 ·(iterate 4 refine o1 ?_);refine WL.split (t:=39) rfl (fun h9=>?_) (fun h9=>?_)
  ·(iterate 8 refine dV ?_);(iterate 3 refine o1 ?_);refine nl ?_;refine rt ?_;have hfy:=kV (c:=c) (k:=k) hk.2.2 hk.1 (by omega)
   exact en (.inl rfl) rfl (aN (bH _)) (by decide) (fun _=>trivial) (congrArg (fun z=>FV.one (tv (.bool z))) (by rw[←hfy];simp only[h8,decide_eq_true h9,Bool.not_true,Bool.not_false,Bool.or_true,Bool.true_or,Bool.false_or,Bool.or_false,Bool.false_eq_true,if_true,if_false,ite_true,ite_false,Bool.and_true,Bool.true_and,Bool.false_and,Bool.and_false]))
  (iterate 4 refine o1 ?_);refine WL.split (t:=43) rfl (fun h10=>?_) (fun h10=>?_)
  ·(iterate 7 refine o1 ?_);refine nl ?_;refine rt ?_;have hfy:=kV (c:=c) (k:=k) hk.2.2 hk.1 (by omega)
   exact en (.inl rfl) rfl (aN (bH _)) (by decide) (fun _=>trivial) (congrArg (fun z=>FV.one (tv (.bool z))) (by rw[←hfy];simp only[h8,decide_eq_false h9,decide_eq_true h10,Bool.not_true,Bool.not_false,Bool.or_true,Bool.true_or,Bool.false_or,Bool.or_false,Bool.false_eq_true,if_true,if_false,ite_true,ite_false,Bool.and_true,Bool.true_and,Bool.false_and,Bool.and_false]))
  (iterate 3 refine dV ?_);(iterate 4 refine o1 ?_);refine nl ?_;refine rt ?_;have hfy:=kV (c:=c) (k:=k) hk.2.2 hk.1 (by omega)
  exact en (.inl rfl) rfl (aN (bH _)) (by decide) (fun _=>trivial) (congrArg (fun z=>FV.one (tv (.bool z))) (by rw[←hfy];simp only[h8,decide_eq_false h9,decide_eq_false h10,Bool.not_true,Bool.not_false,Bool.or_true,Bool.true_or,Bool.false_or,Bool.or_false,Bool.false_eq_true,if_true,if_false,ite_true,ite_false,Bool.and_true,Bool.true_and,Bool.false_and,Bool.and_false]))
 (iterate 13 refine dV ?_);refine o1 ?_;refine o1 ?_;refine nl ?_;refine rt ?_;have hfy:=kV (c:=c) (k:=k) hk.2.2 hk.1 (by omega)
 exact en (.inl rfl) rfl (aN (bH _)) (by decide) (fun _=>trivial) (congrArg (fun z=>FV.one (tv (.bool z))) (by rw[←hfy];simp only[h8,Bool.not_true,Bool.not_false,Bool.or_true,Bool.true_or,Bool.false_or,Bool.or_false,Bool.false_eq_true,if_true,if_false,ite_true,ite_false,Bool.and_true,Bool.true_and,Bool.false_and,Bool.and_false]))
theorem OX {a b:Us}(ha:Sz 700 a.n∧Sz 700 a.p∧Sz 700 a.q) (hb:Sz 700 b.n∧Sz 700 b.p∧Sz 700 b.q):aE true Tryz.prog 12 [] [.agg ((cF false a).map .t),.agg ((cF false b).map .t)] (aQ (.one (tv (.bool (decide (a=b)))))):=by
 refine bO Tryz.func12 rfl Tryz.ntmps12 rfl aA rfl fun N w c0 h0=>?_
 obtain⟨h01,h02,h03⟩:=ha;obtain⟨h11,h12,h13⟩:=hb
 refine sq ?_;refine rl ?_;refine bx 0 ?_;refine bx 1 ?_;refine o1 ?_;refine nl ?_;refine sq ?_;refine rl ?_;refine o1 ?_;refine ld ?_;refine o1 ?_;refine ld ?_;refine o1 ?_;refine o1 ?_
 refine WL.split (t:=10) rfl (fun h1=>?_) (fun h1=>?_)
 ·refine o1 ?_;refine ld ?_;refine o1 ?_;refine ld ?_;(iterate 3 refine o1 ?_);refine WL.split (t:=17) rfl (fun h2=>?_) (fun h2=>?_)
  ·refine o1 ?_;refine ld ?_;refine o1 ?_;refine ld ?_
   refine ca (yW (a:=.of a.n) (b:=.of b.n) (gT (by assumption)) (gT (by assumption))) lT ⟨aB rfl,aB rfl,rfl⟩ (.one (tv (.bool (decide (Fr4.of a.n=Fr4.of b.n))))) ?_
   refine o1 ?_;refine o1 ?_;refine WL.split (t:=24) rfl (fun h3=>?_) (fun h3=>?_)
   ·refine o1 ?_;refine ld ?_;refine o1 ?_;refine ld ?_
    refine ca (yW (a:=.of a.p) (b:=.of b.p) (gT (by assumption)) (gT (by assumption))) lT ⟨aB rfl,aB rfl,rfl⟩ (.one (tv (.bool (decide (Fr4.of a.p=Fr4.of b.p))))) ?_
    refine o1 ?_;refine o1 ?_;refine WL.split (t:=31) rfl (fun h4=>?_) (fun h4=>?_)
    ·refine o1 ?_;refine ld ?_;refine o1 ?_;refine ld ?_
     refine ca (yW (a:=.of a.q) (b:=.of b.q) (gT (by assumption)) (gT (by assumption))) lT ⟨aB rfl,aB rfl,rfl⟩ (.one (tv (.bool (decide (Fr4.of a.q=Fr4.of b.q))))) ?_
     refine o1 ?_;refine o1 ?_;refine nl ?_;refine rt ?_;exact en (.inl rfl) rfl (aN (bH _)) (by decide) (fun _=>trivial) (congrArg (fun z=>FV.one (tv (.bool z))) (by simp_all [yM]))
    (iterate 5 refine dV ?_);refine o1 ?_;refine o1 ?_;refine nl ?_;refine rt ?_
    exact en (.inl rfl) rfl (aN (bH _)) (by decide) (fun _=>trivial) (congrArg (fun z=>FV.one (tv (.bool z))) (by simp_all [yM]))
   (iterate 5 refine dV ?_);refine o1 ?_;refine o1 ?_;(iterate 5 refine dV ?_);refine o1 ?_;refine o1 ?_;refine nl ?_;refine rt ?_
   exact en (.inl rfl) rfl (aN (bH _)) (by decide) (fun _=>trivial) (congrArg (fun z=>FV.one (tv (.bool z))) (by simp_all [yM]))
  (iterate 5 refine dV ?_);refine o1 ?_;refine o1 ?_;(iterate 5 refine dV ?_);refine o1 ?_;refine o1 ?_;(iterate 5 refine dV ?_);refine o1 ?_;refine o1 ?_;refine nl ?_;refine rt ?_
  exact en (.inl rfl) rfl (aN (bH _)) (by decide) (fun _=>trivial) (congrArg (fun z=>FV.one (tv (.bool z))) (by simp_all [yM]))
 (iterate 5 refine dV ?_);refine o1 ?_;refine o1 ?_;(iterate 5 refine dV ?_);refine o1 ?_;refine o1 ?_;(iterate 5 refine dV ?_);refine o1 ?_;refine o1 ?_;(iterate 5 refine dV ?_)
 refine o1 ?_;refine o1 ?_;refine nl ?_;refine rt ?_;exact en (.inl rfl) rfl (aN (bH _)) (by decide) (fun _=>trivial) (congrArg (fun z=>FV.one (tv (.bool z))) (by simp_all [yM]))
theorem AB {a b:Us}(ha:Sz 700 a.n∧Sz 700 a.p∧Sz 700 a.q) (h:a=b):aE true Tryz.prog 12 [] [.agg ((cF false a).map .t),.agg ((cF false b).map .t)] (aQ (.one (tv (.bool true)))):=by
 subst h
 have h9:=OX ha ha
 rwa[decide_eq_true rfl]at h9
theorem cX {n m:Int}(h1:-9223372036854775808≤n) (h2:n≤9223372036854775807) (h3:-9223372036854775808≤m) (h4:m≤9223372036854775807):aE false Tryz.prog 31 [] [.one (tv (.int .i64 n)),.one (tv (.int .i64 m))] (aQ (.agg (((Fr4.of (Rat.divInt n 1)).tr true++(Fr4.of (Rat.divInt m 1)).tr true).map .t))):=by
 refine bO Tryz.func31 rfl Tryz.ntmps31 rfl aA rfl fun N w c0 h0=>?_
 refine sq ?_;refine rl ?_;refine al 0 ?_;refine nl ?_;refine sq ?_;refine rl ?_;refine o1 ?_
 refine gQ 1 (xE (n:=n) (d:=1) (by omega) (by omega) (by omega) (by omega)) xF ⟨a1 rfl,a1 rfl,rfl⟩ ?_
 refine o1 ?_;refine gQ 3 (xE (n:=m) (d:=1) (by omega) (by omega) (by omega) (by omega)) xF ⟨a1 rfl,a1 rfl,rfl⟩ ?_
 refine o1 ?_;refine st ?_;refine nl ?_;refine rt ?_
 exact en (.inl rfl) rfl (aN (.agg (.cons (.id rfl) (.cons (.sl (trs:=aJ (dg 4294967296 (Rat.divInt n 1).num.natAbs)) rfl rfl (aY _) (aU _)) (.cons (.id rfl) (.cons (.sl (trs:=aJ (dg 4294967296 (Rat.divInt n 1).den)) rfl rfl (aY _) (aU _)) (.cons (.id rfl) (.cons (.sl (trs:=aJ (dg 4294967296 (Rat.divInt m 1).num.natAbs)) rfl rfl (aY _) (aU _)) (.cons (.id rfl) (.cons (.sl (trs:=aJ (dg 4294967296 (Rat.divInt m 1).den)) rfl rfl (aY _) (aU _)) (.nil))))))))))) (by decide) (fun h=>by cases h) rfl
theorem Wa {ys:List (Fr4×Fr4)}{k:Nat}(h:k<ys.length):ys.take (k+1)=ys.take k++[bR ys k]:=by
 rw[List.take_add_one,dW h]
 rfl
theorem Gu {us:List Us}{dl:Us→Bool}{k:Nat}(h:k<us.length):fK (((us.take (k+1)).filter dl).map Us.n)=if dl (aW us k)=true then fK (((us.take k).filter dl).map Us.n)+(aW us k).n else fK (((us.take k).filter dl).map Us.n):=by
 rw[wO h,List.filter_append,List.map_append]
 split
 ·rename_i h9
  rw[List.filter_cons_of_pos h9]
  exact oZ _ _
 rename_i h9
 rw[List.filter_cons_of_neg h9]
 simp
theorem AC {us:List Us}{dl:Us→Bool}{k:Nat}(h:UsOk us) (hl:us.length≤10000):Sz 8000000 (fK (((us.take k).filter dl).map Us.n)):=by
 refine(Bm (B:=700) fun q hq=>?_).mono ?_
 ·obtain⟨u,hu,rfl⟩:=List.mem_map.1 hq
  exact(h u (List.mem_of_mem_take (List.mem_filter.1 hu).1)).1
 rw[List.length_map]
 have h1:=List.length_filter_le dl (us.take k)
 have h3:(us.take k).length≤us.length:=by rw[List.length_take];omega
 omega
theorem Po {rs:List Rw}{us:List Us}{dl:Us→Bool}{fd:FuncId}{fst caps:List Tr}(hok:CallOk Tryz.prog fd) (hd:∀u∈us,aE true Tryz.prog fd [] (cP fst++[.agg ((cF false u).map .t)]++cP caps) (aQ (.one (tv (.bool (dl u)))))) (hus:UsOk us) (hl:us.length≤10000):aE true Tryz.prog 50 [] [.agg (([cV false false rs,cJ false false us]:List Tr).map .t),.one (.t (.f fd fst caps))] (aQ (qO (fK ((us.filter dl).map Us.n)))):=by
 refine bO Tryz.func50 rfl Tryz.ntmps50 rfl aA rfl fun N w c0 h0=>?_
 have h00:((0:Int):Rat)=fK (((us.take 0).filter dl).map Us.n):=by simp[fK]
 refine sq ?_;refine rl ?_;refine bx 0 ?_;refine al 1 ?_;refine nl ?_;refine sq ?_;refine rl ?_;refine gQ 2 (tB) Ey rfl ?_;refine al 4 ?_;refine st ?_;refine nl ?_;refine sq ?_
 refine sq ?_;refine rl ?_;refine o1 ?_;refine ld ?_;refine o1 ?_;refine o1 ?_;refine nl ?_;refine bl ?_
 refine lp (γ:=Nat) (fun k=>cG [(1,.one (.t (.f fd fst caps))),(2,.one (.pt 0 0)),(4,.one (.pt 1 0)),(5,.one (.pt 2 0)),(10,.one (.t (cJ false false us))),(11,.one (tv (.int .i64 ((us.length:Nat):Int)))),(12,.one (tv (.int .i64 ((k:Nat):Int))))]) (fun k=>[(⟨35,0,[.t (cV false false rs),.t (cJ false false us)]⟩:Ob),⟨26,0,[tv (.bool false),tv (.slice none 0 0),tv (.bool false),tv (.slice none 0 0)]⟩,⟨26,0,[tv (.bool (aK (fK (((us.take k).filter dl).map Us.n)).num)),.sl 3 0 (dg 4294967296 (fK (((us.take k).filter dl).map Us.n)).num.natAbs).length,tv (.bool false),.sl 4 0 (dg 4294967296 (fK (((us.take k).filter dl).map Us.n)).den).length]⟩,⟨109,1,(aJ (dg 4294967296 (fK (((us.take k).filter dl).map Us.n)).num.natAbs)).map .t⟩,⟨109,1,(aJ (dg 4294967296 (fK (((us.take k).filter dl).map Us.n)).den)).map .t⟩].map some) (fun k=>k≤us.length) (fun k=>us.length-k) 0 (Nat.zero_le _) (aP h0 [0,1,4,2,3] _ _ (by decide) ⟨rfl,rfl,rfl,rfl,rfl,rfl,rfl,trivial⟩ ⟨oe rfl rfl,oe rfl rfl,oe rfl (congrArg (fun q:Rat=>some (⟨26,0,[tv (.bool (aK q.num)),.sl 2 0 (dg 4294967296 q.num.natAbs).length,tv (.bool false),.sl 3 0 (dg 4294967296 q.den).length]⟩:Ob)) h00),aD (congrArg (fun q:Rat=>some (⟨109,1,(aJ (dg 4294967296 q.num.natAbs)).map .t⟩:Ob)) h00),aD (congrArg (fun q:Rat=>some (⟨109,1,(aJ (dg 4294967296 q.den)).map .t⟩:Ob)) h00),rfl⟩) fun k hk=>?_
 have hsz:Sz 68719476736 (fK (((us.take k).filter dl).map Us.n)):=(AC (dl:=dl) (k:=k) hus hl).mono (by omega)
 refine sq ?_;refine rl ?_;refine o1 ?_;refine nl ?_;refine sq ?_;refine bQ rfl (fun h1=>?_) (fun h1=>?_)
 ·refine sk ?_;refine sq ?_;refine bl ?_;refine sq ?_;refine rl ?_;refine o1 ?_
  refine gJ ((cF false) (aW us (k))) (aX (f:=(cF false)) (z:=14) (o:=0) (dQ false) (dC (by omega)) (Nat.le_of_ble_eq_true rfl) rfl) ?_
  refine al 5 ?_;refine st ?_;refine nl ?_;refine sq ?_;refine rl ?_;refine o1 ?_;refine ld ?_
  refine ce 6 [.agg ((cF false (aW us (k))).map .t)] rfl (hd (aW us (k)) (jG (by omega))) hok ⟨rfl,rfl⟩ ?_
  refine nl ?_;refine Ae rfl (fun h2=>?_) (fun h2=>?_)
  ·refine rl ?_;refine ld ?_;refine o1 ?_;refine ld ?_
   refine gQ 6 (yY (a:=.of (fK (((us.take k).filter dl).map Us.n))) (b:=.of (aW us k).n) (Qn.of hsz) (Qn.of (p:=(aW us k).n) ((hus _ (jG (by omega))).1.mono (M:=68719476736) (by omega)))) Bd ⟨Dh rfl (.cons .t (.cons (.sl rfl rfl (bB _ _ rfl) (aU _)) (.cons .t (.cons (.sl rfl rfl (bB _ _ rfl) (aU _)) .nil)))),aB rfl,rfl⟩ ?_
   refine st ?_;refine nl ?_;refine rl ?_;refine o1 ?_;refine WL.cast (t:=23) (u':=.int .i64 ((k+1:Nat):Int)) rfl (aO (by omega)) ?_
   refine o1 ?_;refine nl ?_;have hst:(fK (((us.take (k+1)).filter dl).map Us.n))=(fK (((us.take k).filter dl).map Us.n))+(aW us k).n:=(Gu (by omega)).trans (if_pos h2)
   exact⟨k+1,by omega,by omega,aP h0 [0,1,2,6,7] _ _ (by decide) ⟨rfl,rfl,rfl,rfl,rfl,rfl,rfl,trivial⟩ ⟨oe rfl rfl,oe rfl rfl,oe rfl (congrArg (fun q:Rat=>some (⟨26,0,[tv (.bool (aK q.num)),.sl 6 0 (dg 4294967296 q.num.natAbs).length,tv (.bool false),.sl 7 0 (dg 4294967296 q.den).length]⟩:Ob)) hst.symm),aD (congrArg (fun q:Rat=>some (⟨109,1,(aJ (dg 4294967296 q.num.natAbs)).map .t⟩:Ob)) hst.symm),aD (congrArg (fun q:Rat=>some (⟨109,1,(aJ (dg 4294967296 q.den)).map .t⟩:Ob)) hst.symm),rfl⟩⟩
  refine sk ?_;refine rl ?_;refine o1 ?_;refine WL.cast (t:=23) (u':=.int .i64 ((k+1:Nat):Int)) rfl (aO (by omega)) ?_
  refine o1 ?_;refine nl ?_;have hst:(fK (((us.take (k+1)).filter dl).map Us.n))=(fK (((us.take k).filter dl).map Us.n)):=(Gu (by omega)).trans (if_neg (by rw[h2];decide))
  exact⟨k+1,by omega,by omega,aP h0 [0,1,2,3,4] _ _ (by decide) ⟨rfl,rfl,rfl,rfl,rfl,rfl,rfl,trivial⟩ ⟨oe rfl rfl,oe rfl rfl,oe rfl (congrArg (fun q:Rat=>some (⟨26,0,[tv (.bool (aK q.num)),.sl 3 0 (dg 4294967296 q.num.natAbs).length,tv (.bool false),.sl 4 0 (dg 4294967296 q.den).length]⟩:Ob)) hst.symm),aD (congrArg (fun q:Rat=>some (⟨109,1,(aJ (dg 4294967296 q.num.natAbs)).map .t⟩:Ob)) hst.symm),aD (congrArg (fun q:Rat=>some (⟨109,1,(aJ (dg 4294967296 q.den)).map .t⟩:Ob)) hst.symm),rfl⟩⟩
 refine ex ?_;refine sq ?_;refine rl ?_;refine ld ?_;refine st ?_;refine nl ?_;refine rt ?_;have hkk:us.take k=us:=List.take_of_length_le (by omega)
 exact en (.inl rfl) rfl (aN (.agg (.cons (.id rfl) (.cons (.sl (trs:=aJ (dg 4294967296 (fK (((us.take k).filter dl).map Us.n)).num.natAbs)) rfl rfl (aY _) (aU _)) (.cons (.id rfl) (.cons (.sl (trs:=aJ (dg 4294967296 (fK (((us.take k).filter dl).map Us.n)).den)) rfl rfl (aY _) (aU _)) .nil)))))) (by decide) (fun _=>by rw[hkk];exact mC _) (by rw[hkk];rfl)
theorem OY {u:Us}{y:Int}:aE true Tryz.prog 51 [] [.agg ((cF false u).map .t),.one (.t (.p false 3 [.v (.int .i64 y)]))] (aQ (.one (tv (.bool (decide (u.v=y)))))):=by
 refine bO Tryz.func51 rfl Tryz.ntmps51 rfl aA rfl fun N w c0 h0=>?_
 refine WP.sub (Ji (i:=1) rfl rfl) ?_;refine sq ?_;refine rl ?_;refine bx 0 ?_;refine o1 ?_;refine nl ?_;refine sq ?_;refine rl ?_;refine o1 ?_;refine ld ?_
 refine gJ ([.v (.int .i64 y)]) rfl ?_;refine o1 ?_;refine o1 ?_;refine nl ?_;refine rt ?_;exact en (.inl rfl) rfl (aN (bH _)) (by decide) (fun _=>trivial) rfl
theorem SG {rs:List Rw}{us:List Us}{y:Int}(hus:UsOk us) (hl:us.length≤10000):aE true Tryz.prog 18 [] [.agg (([cV false false rs,cJ false false us]:List Tr).map .t),.one (tv (.int .i64 y))] (aQ (qO (dT us y))):=by
 refine bO Tryz.func18 rfl Tryz.ntmps18 rfl aA rfl fun N w c0 h0=>?_
 refine sq ?_;refine rl ?_;refine bx 0 ?_;refine bx 1 ?_;refine WL.sub (Uq (i:=3) (k:=1) (t:=3) (l:=[.v (.int .i64 y)]) rfl rfl rfl (.one .sl)) ?_;refine al 2 ?_;refine nl ?_
 refine sq ?_;refine rl ?_;refine ld ?_;refine o1 ?_
 refine gQ 3 (Po (rs:=rs) (dl:=fun u:Us=>decide (u.v=y)) (fst:=[]) (caps:=[.p false 3 [.v (.int .i64 y)]]) SH (fun u _=>OY (u:=u) (y:=y)) hus hl) LD ⟨aB rfl,a1 rfl,rfl⟩ ?_
 refine st ?_;refine nl ?_;refine rt ?_
 exact en (.inl rfl) rfl (aN (.agg (.cons (.id rfl) (.cons (.sl (trs:=aJ (dg 4294967296 (fK ((us.filter (fun u:Us=>decide (u.v=y))).map Us.n)).num.natAbs)) rfl rfl (aY _) (aU _)) (.cons (.id rfl) (.cons (.sl (trs:=aJ (dg 4294967296 (fK ((us.filter (fun u:Us=>decide (u.v=y))).map Us.n)).den)) rfl rfl (aY _) (aU _)) .nil)))))) (by decide) (fun _=>mC _) rfl
theorem OZ {u:Us}{y:Int}:aE true Tryz.prog 53 [] [.agg ((cF false u).map .t),.one (.t (.p false 3 [.v (.int .i64 y)]))] (aQ (.one (tv (.bool (decide (u.y=y)))))):=by
 refine bO Tryz.func53 rfl Tryz.ntmps53 rfl aA rfl fun N w c0 h0=>?_
 refine WP.sub (Ji (i:=1) rfl rfl) ?_;refine sq ?_;refine rl ?_;refine bx 0 ?_;refine o1 ?_;refine nl ?_;refine sq ?_;refine rl ?_;refine o1 ?_;refine ld ?_
 refine gJ ([.v (.int .i64 y)]) rfl ?_;refine o1 ?_;refine o1 ?_;refine nl ?_;refine rt ?_;exact en (.inl rfl) rfl (aN (bH _)) (by decide) (fun _=>trivial) rfl
theorem SI {rs:List Rw}{us:List Us}{y:Int}(hus:UsOk us) (hl:us.length≤10000):aE true Tryz.prog 20 [] [.agg (([cV false false rs,cJ false false us]:List Tr).map .t),.one (tv (.int .i64 y))] (aQ (qO (bI us y))):=by
 refine bO Tryz.func20 rfl Tryz.ntmps20 rfl aA rfl fun N w c0 h0=>?_
 refine sq ?_;refine rl ?_;refine bx 0 ?_;refine bx 1 ?_;refine WL.sub (Uq (i:=3) (k:=1) (t:=3) (l:=[.v (.int .i64 y)]) rfl rfl rfl (.one .sl)) ?_;refine al 2 ?_;refine nl ?_
 refine sq ?_;refine rl ?_;refine ld ?_;refine o1 ?_
 refine gQ 3 (Po (rs:=rs) (dl:=fun u:Us=>decide (u.y=y)) (fst:=[]) (caps:=[.p false 3 [.v (.int .i64 y)]]) SJ (fun u _=>OZ (u:=u) (y:=y)) hus hl) LD ⟨aB rfl,a1 rfl,rfl⟩ ?_
 refine st ?_;refine nl ?_;refine rt ?_
 exact en (.inl rfl) rfl (aN (.agg (.cons (.id rfl) (.cons (.sl (trs:=aJ (dg 4294967296 (fK ((us.filter (fun u:Us=>decide (u.y=y))).map Us.n)).num.natAbs)) rfl rfl (aY _) (aU _)) (.cons (.id rfl) (.cons (.sl (trs:=aJ (dg 4294967296 (fK ((us.filter (fun u:Us=>decide (u.y=y))).map Us.n)).den)) rfl rfl (aY _) (aU _)) .nil)))))) (by decide) (fun _=>mC _) rfl
theorem yZ {a:Fr4}(hx:a.x.length≤1099511627776) (hy:a.y.length≤1099511627776):aE false Tryz.prog 22 [⟨109,1,(aJ a.x).map .t⟩,⟨109,1,(aJ a.y).map .t⟩] [.agg [tv (.bool a.s),.sl 0 0 a.x.length,tv (.bool a.t),.sl 1 0 a.y.length]] (Rt [⟨109,1,(aJ (iT a).x).map .t⟩,⟨109,1,(aJ (iT a).y).map .t⟩] (.tup [])):=by
 refine kS Tryz.func22 rfl Tryz.ntmps22 rfl aA rfl fun N9 M9 w9 c0 h0=>?_
 refine sq ?_;refine rl ?_;refine bx 2 ?_;refine nl ?_;refine sq ?_;refine sq ?_;refine rl ?_;refine o1 ?_;refine nl ?_;refine bl ?_
 refine lp (γ:=Nat) (fun i=>cG [(1,.one (.pt 2 0)),(2,.one (tv (.int .i64 ((i:Nat):Int))))]) (fun i=>[(⟨109,1,(aJ (jU a.x i)).map .t⟩:Ob),⟨109,1,(aJ a.y).map .t⟩,⟨26,0,[tv (.bool a.s),.sl 0 0 a.x.length,tv (.bool a.t),.sl 1 0 a.y.length]⟩].map some) (fun i=>i≤a.x.length) (fun i=>a.x.length-i) 0 (Nat.zero_le _) (dP h0 [0,1,2] _ _ (by decide) rfl ⟨rfl,rfl,trivial⟩ ⟨aD rfl,aD rfl,oe rfl rfl,rfl⟩) fun i hi=>?_
 have hli:=Kv (xs:=a.x) (k:=i) hi
 refine sq ?_;refine sq ?_;refine rl ?_;(iterate 3 refine o1 ?_);refine ld ?_;refine o1 ?_;refine o1 ?_;refine nl ?_;refine bQ rfl (fun h1=>?_) (fun h1=>?_)
 ·refine sk ?_;refine sq ?_;refine bl ?_;refine rl ?_;refine o1 ?_;refine o1 ?_;refine ld ?_;refine o1 ?_;refine o1 ?_
  refine Af (yP (jU a.x i) (k:=i) (v:=77) (by omega)) (Dl (jU a.x i) (by omega)) ?_
  refine nl ?_;refine rl ?_;refine o1 ?_;refine o1 ?_;refine WL.cast (t:=11) (u':=.int .i64 ((i+1:Nat):Int)) rfl (aO (by omega)) ?_
  refine o1 ?_;refine nl ?_
  exact⟨i+1,by omega,by omega,dP h0 [0,1,2] _ _ (by decide) rfl ⟨rfl,rfl,trivial⟩ ⟨aD (congrArg (fun l:List Nat=>some (⟨109,1,(aJ l).map .t⟩:Ob)) (Kw (by omega))),aD rfl,oe rfl rfl,rfl⟩⟩
 refine ex ?_;refine sq ?_;refine rl ?_;refine o1 ?_;refine nl ?_;refine bl ?_
 refine lp (γ:=Nat) (fun j=>cG [(1,.one (.pt 2 0)),(3,.one (tv (.int .i64 ((j:Nat):Int))))]) (fun j=>[(⟨109,1,(aJ (List.replicate a.x.length 77)).map .t⟩:Ob),⟨109,1,(aJ (jU a.y j)).map .t⟩,⟨26,0,[tv (.bool a.s),.sl 0 0 a.x.length,tv (.bool a.t),.sl 1 0 a.y.length]⟩].map some) (fun j=>j≤a.y.length) (fun j=>a.y.length-j) 0 (Nat.zero_le _) (dP h0 [0,1,2] _ _ (by decide) rfl ⟨rfl,rfl,trivial⟩ ⟨aD (congrArg (fun l:List Nat=>some (⟨109,1,(aJ l).map .t⟩:Ob)) (Kx (by omega) hi)),aD rfl,oe rfl rfl,rfl⟩) fun j hj=>?_
 have hlj:=Kv (xs:=a.y) (k:=j) hj
 refine sq ?_;refine sq ?_;refine rl ?_;(iterate 3 refine o1 ?_);refine ld ?_;refine o1 ?_;refine o1 ?_;refine nl ?_;refine bQ rfl (fun h2=>?_) (fun h2=>?_)
 ·refine sk ?_;refine sq ?_;refine bl ?_;refine rl ?_;refine o1 ?_;refine o1 ?_;refine ld ?_;refine o1 ?_;refine o1 ?_
  refine Af (yP (jU a.y j) (k:=j) (v:=77) (by omega)) (Dl (jU a.y j) (by omega)) ?_
  refine nl ?_;refine rl ?_;refine o1 ?_;refine o1 ?_;refine WL.cast (t:=24) (u':=.int .i64 ((j+1:Nat):Int)) rfl (aO (by omega)) ?_
  refine o1 ?_;refine nl ?_
  exact⟨j+1,by omega,by omega,dP h0 [0,1,2] _ _ (by decide) rfl ⟨rfl,rfl,trivial⟩ ⟨aD rfl,aD (congrArg (fun l:List Nat=>some (⟨109,1,(aJ l).map .t⟩:Ob)) (Kw (by omega))),oe rfl rfl,rfl⟩⟩
 refine ex ?_
 exact gX <| gO (lent':=[⟨109,1,(aJ (List.replicate a.x.length 77)).map .t⟩,⟨109,1,(aJ (List.replicate a.y.length 77)).map .t⟩]) (.inr rfl) rfl (Cu) (by decide) (fun _ h=>by cases h) ⟨⟨rfl,rfl⟩,⟨rfl,rfl⟩,trivial⟩ ⟨rfl,congrArg (fun l:List Nat=>some (⟨109,1,(aJ l).map .t⟩:Ob)) (Kx (by omega) hj),trivial⟩ ⟨eK _,eK _,trivial⟩ (fun h=>by cases h) ⟨rfl,rfl⟩
theorem PA {c:Fr4}{bk fw:Int}(hc:c.len 1099511627776):aE false Tryz.prog 15 [] [.agg ((c.tr false++[.v (.int .i64 bk),.v (.int .i64 fw)]:List Tr).map .t)] (aQ (.agg ((c.tr false++[.v (.int .i64 bk),.v (.int .i64 fw)]:List Tr).map .t))):=by
 refine bO Tryz.func15 rfl Tryz.ntmps15 rfl aA rfl fun N w c0 h0=>?_
 refine sq ?_;refine rl ?_;refine bx 0 ?_;refine al 1 ?_;refine nl ?_;refine sq ?_;refine rd [0,1] (fun i=>[8].contains i) mixed ?_
 refine dv 0 ?_;refine aM 1 ?_;refine dv 3 ?_;refine aM 4 ?_;refine dv 5 ?_;refine aM 6 ?_;refine aF 2 rfl (Bt (a:=c) hc) AD ⟨aB rfl,rfl⟩ (qF c) ?_;refine df 7 ?_
 refine dst 8 ?_;refine aH ?_;refine rt ?_
 exact en (.inl rfl) rfl (aN (.agg (.cons (.id rfl) (.cons (.id rfl) (.cons (.id rfl) (.cons (.id rfl) (.cons (.id rfl) (.cons (.id rfl) .nil)))))))) (by decide) (fun h=>by cases h) rfl
theorem Ss {ys:List (Fr4×Fr4)}(hys:∀y∈ys,y.1.len 1099511627776∧y.2.len 1099511627776) (hl:ys.length≤1073741822):aE false Tryz.prog 13 [] [.one (.t (jB ys))] (aQ (.one (.t (.s true 72 8 ys.length (ys.flatMap cA))))):=by
 refine bO Tryz.func13 rfl Tryz.ntmps13 rfl aA rfl fun N w c0 h0=>?_
 refine sq ?_;refine rl ?_;refine o1 ?_;refine nl ?_;refine sq ?_;refine rl ?_;refine o1 ?_;refine nl ?_;refine sq ?_;refine sq ?_;refine rl ?_;refine o1 ?_;refine nl ?_;refine bl ?_
 refine lp (γ:=Nat) (fun k=>cG [(0,.one (.t (jB ys))),(3,.one (.sl 0 0 k)),(4,.one (tv (.int .i64 ((k:Nat):Int))))]) (fun k=>[(⟨72,8,((ys.take k).flatMap cA).map .t⟩:Ob)].map some) (fun k=>k≤ys.length) (fun k=>ys.length-k) 0 (Nat.zero_le _) ((nr (i:=3) 0 72 8 rfl rfl rfl rfl).trans (aP h0 [0] _ _ (by decide) ⟨rfl,rfl,rfl,trivial⟩ ⟨aD rfl,rfl⟩)) fun k hk=>?_
 refine sq ?_;refine sq ?_;refine rl ?_;(iterate 4 refine o1 ?_);refine nl ?_;refine bQ rfl (fun h1=>?_) (fun h1=>?_)
 ·refine sk ?_;refine sq ?_;refine bl ?_;refine rd [] (fun i=>[16].contains i) mixed ?_
  refine dv 0 ?_;refine dv 1 ?_;refine dv 2 ?_;refine dv 3 ?_;refine dv 4 ?_
  refine dG 5 ((bR ys (k)).1.tr false) (aX (f:=cA) (z:=8) (o:=0) dB (dW (by omega)) (Nat.le_of_ble_eq_true rfl) rfl) ?_
  refine dv 7 ?_;refine dv 8 ?_;refine dv 9 ?_;refine dv 10 ?_
  refine dG 11 ((bR ys (k)).2.tr false) (aX (f:=cA) (z:=8) (o:=4) dB (dW (by omega)) (Nat.le_of_ble_eq_true rfl) rfl) ?_
  refine aF 6 rfl (Bt (a:=(bR ys (k)).1) (hys _ (fZ (by omega))).1) AD ⟨aB rfl,rfl⟩ (qF (bR ys (k)).1) ?_
  refine aF 12 rfl (Bt (a:=(bR ys (k)).2) (hys _ (fZ (by omega))).2) AD ⟨aB rfl,rfl⟩ (qF (bR ys (k)).2) ?_
  refine df 13 ?_;refine fI (key:=1) 14 (by kernel_rfl) rfl rfl aA rfl trivial ?_
  refine oX (j:=2) (n:=k) (l:=((ys.take k).flatMap cA).map .t) 15 rfl aA rfl rfl rfl (.sl rfl (by rw[List.length_map,xG,List.length_take,Nat.min_eq_left (by omega)])) (.sl rfl rfl rfl) rfl rfl (by omega) (by omega) rfl trivial rfl (by kernel_rfl) rfl ?_
  refine cT 16 (by kernel_rfl) rfl rfl aA rfl (by trivial) ?_ (fun h=>by first | rfl | cases h)
  refine aH ?_;refine rl ?_;refine o1 ?_;refine o1 ?_;refine WL.cast (t:=10) (u':=.int .i64 ((k+1:Nat):Int)) rfl (aO (by omega)) ?_
  refine o1 ?_;refine nl ?_
  have hst:((ys.take k).flatMap cA).map AV.t++(cA (bR ys k)).map .t=((ys.take (k+1)).flatMap cA).map .t:=by rw[Wa (by omega),List.flatMap_append,List.map_append];simp
  exact⟨k+1,by omega,by omega,aP h0 [2] _ _ (by decide) ⟨rfl,rfl,rfl,trivial⟩ ⟨aD (congrArg (fun l:List AV=>some (⟨72,8,l⟩:Ob)) hst),rfl⟩⟩
 refine ex ?_;refine sq ?_;refine rl ?_;refine o1 ?_;refine o1 ?_;refine nl ?_;refine rt ?_;have hkk:ys.take k=ys:=List.take_of_length_le (by omega)
 have hkn:k=ys.length:=by omega
 exact en (.inl rfl) rfl (aN (.one (.sl (trs:=(ys.take k).flatMap cA) rfl rfl (bB _ _ (by rw[xG,List.length_take,Nat.min_eq_left (by omega)])) (by rw[xG,List.length_take,Nat.min_eq_left (by omega)])))) (by decide) (fun h=>by cases h) (by rw[hkk,hkn];rfl)
theorem eX {a:Fr4}(h:a.len 1099511627776):aE true Tryz.prog 17 [] [qF a,qF a] (aQ (.one (tv (.bool true)))):=by
 have h9:=yW (a:=a) (b:=a) h h
 rwa[decide_eq_true rfl]at h9
theorem SK {rs:List Rw}{us:List Us}(hrs:KA rs) (hus:UsOk us) (hl:rs.length≤1073741822) (hlu:us.length≤1073741822):aE true Tryz.prog 16 [] [.agg (([cV false false rs,cJ false false us]:List Tr).map .t),.agg (([mW false rs,lQ false us]:List Tr).map .t)] (aQ (.one (tv (.bool true)))):=by
 refine bO Tryz.func16 rfl Tryz.ntmps16 rfl aA rfl fun N w c0 h0=>?_
 refine sq ?_;refine rl ?_;refine bx 0 ?_;refine bx 1 ?_;refine o1 ?_;refine nl ?_;refine sq ?_;refine sq ?_;refine rl ?_;refine o1 ?_;refine ld ?_;refine o1 ?_;refine o1 ?_;refine ld ?_
 (iterate 3 refine o1 ?_);refine WL.split (t:=16) rfl (fun h1=>?_) (fun h1=>?_)
 ·exact absurd rfl h1
 refine o1 ?_;refine ld ?_;refine o1 ?_;refine o1 ?_;refine ld ?_;(iterate 3 refine o1 ?_);refine nl ?_;refine bQ rfl (fun h2=>?_) (fun h2=>?_)
 ·exact absurd rfl h2
 refine sk ?_;refine sq ?_;refine sq ?_;refine rl ?_;refine o1 ?_;refine nl ?_;refine bl ?_
 refine lp (γ:=Nat) (fun k=>cG [(2,.one (.pt 0 0)),(3,.one (.pt 1 0)),(5,.one (tv (.int .i64 ((k:Nat):Int))))]) (fun _=>[(⟨35,0,[.t (cV false false rs),.t (cJ false false us)]⟩:Ob),⟨42,0,[.t (mW false rs),.t (lQ false us)]⟩].map some) (fun k=>k≤rs.length) (fun k=>rs.length-k) 0 (Nat.zero_le _) (aP h0 [0,1] _ _ (by decide) ⟨rfl,rfl,rfl,trivial⟩ ⟨oe rfl rfl,oe rfl rfl,rfl⟩) fun k hk=>?_
 refine sq ?_;refine sq ?_;refine rl ?_;refine o1 ?_;refine o1 ?_;refine ld ?_;refine o1 ?_;refine o1 ?_;refine nl ?_;refine bQ rfl (fun h3=>?_) (fun h3=>?_)
 ·refine sk ?_;refine sq ?_;refine bl ?_
  refine md (γ:=Unit) (fun _=>cG [(2,.one (.pt 0 0)),(3,.one (.pt 1 0)),(5,.one (tv (.int .i64 ((k:Nat):Int)))),(6,.one (.pt 2 0)),(7,.one (.pt 3 0))]) (fun _=>([⟨35,0,[.t (cV false false rs),.t (cJ false false us)]⟩,⟨42,0,[.t (mW false rs),.t (lQ false us)]⟩,⟨66,0,(bV false (aC rs (k))).map .t⟩,⟨68,0,(bV false (aC rs (k))).map .t⟩]:List Ob).map some) (fun _=>True) ?_ fun _ _=>?_
  ·refine rd [0,1] (fun i=>[13].contains i) mixed ?_
   refine dv 0 ?_;refine aM 1 ?_;refine dv 2 ?_;refine dv 3 ?_
   refine dG 4 ((bV false) (aC rs (k))) (aX (f:=(bV false)) (z:=24) (o:=0) (dM false) (eT (by omega)) (Nat.le_of_ble_eq_true rfl) rfl) ?_
   refine dv 5 ?_;refine aM 6 ?_;refine dv 7 ?_;refine dv 8 ?_
   refine dG 9 ((bV false) (aC rs (k))) (aX (f:=(bV false)) (z:=24) (o:=0) (dM false) (eT (by omega)) (Nat.le_of_ble_eq_true rfl) rfl) ?_
   refine WO.two (i:=10) (j:=11) (by kernel_rfl) ?_ ?_
   ·refine bE (key:=2) 10 rfl rfl aA rfl ⟨rfl,rfl,trivial⟩ ?_;refine eP (key:=3) 11 (by kernel_rfl) rfl rfl aA rfl ⟨rfl,rfl,trivial⟩ ?_
    refine aZ 12 (by kernel_rfl) rfl rfl aA rfl rfl rfl rfl ⟨rfl,rfl,trivial⟩ ?_
    refine dst 13 ?_;refine aH ?_;exact⟨(),trivial,aP h0 [0,1,2,3] _ _ (by decide) ⟨rfl,rfl,rfl,rfl,rfl,trivial⟩ ⟨oe rfl rfl,oe rfl rfl,aD rfl,aD rfl,rfl⟩⟩
   refine bE (key:=2) 11 rfl rfl aA rfl ⟨rfl,rfl,trivial⟩ ?_;refine eP (key:=3) 10 (by kernel_rfl) rfl rfl aA rfl ⟨rfl,rfl,trivial⟩ ?_
   refine aZ 12 (by kernel_rfl) rfl rfl aA rfl rfl rfl rfl ⟨rfl,rfl,trivial⟩ ?_
   refine dst 13 ?_;refine aH ?_;exact⟨(),trivial,aP h0 [0,1,3,2] _ _ (by decide) ⟨rfl,rfl,rfl,rfl,rfl,trivial⟩ ⟨oe rfl rfl,oe rfl rfl,aD rfl,aD rfl,rfl⟩⟩
  refine sq ?_;obtain⟨s1,s2,s3,s4,s5,s6⟩:=hrs _ (Ju (rs:=rs) (k:=k) (by omega))
  refine rl ?_;refine o1 ?_;refine ld ?_;refine o1 ?_;refine ld ?_;refine ca (eX (gT (by assumption))) lT ⟨aB rfl,aB rfl,rfl⟩ (.one (tv (.bool true))) ?_
  (iterate 3 refine o1 ?_);refine ld ?_;refine o1 ?_;refine ld ?_;refine ca (eX (gT (by assumption))) lT ⟨aB rfl,aB rfl,rfl⟩ (.one (tv (.bool true))) ?_
  (iterate 4 refine o1 ?_);refine ld ?_;refine o1 ?_;refine ld ?_;refine ca (eX (gT (by assumption))) lT ⟨aB rfl,aB rfl,rfl⟩ (.one (tv (.bool true))) ?_
  (iterate 4 refine o1 ?_);refine ld ?_;refine o1 ?_;refine ld ?_;refine ca (eX (gT (by assumption))) lT ⟨aB rfl,aB rfl,rfl⟩ (.one (tv (.bool true))) ?_
  (iterate 4 refine o1 ?_);refine ld ?_;refine o1 ?_;refine ld ?_;refine ca (eX (gT (by assumption))) lT ⟨aB rfl,aB rfl,rfl⟩ (.one (tv (.bool true))) ?_
  (iterate 4 refine o1 ?_);refine ld ?_;refine o1 ?_;refine ld ?_;refine ca (eX (gT (by assumption))) lT ⟨aB rfl,aB rfl,rfl⟩ (.one (tv (.bool true))) ?_
  refine o1 ?_;refine o1 ?_;refine nl ?_;refine iE rfl ?_;refine sk ?_;refine rl ?_;refine o1 ?_;refine o1 ?_
  refine WL.cast (t:=31) (u':=.int .i64 ((k+1:Nat):Int)) rfl (aO (by omega)) ?_
  refine o1 ?_;refine nl ?_;exact⟨k+1,by omega,by omega,aP h0 [0,1] _ _ (by decide) ⟨rfl,rfl,rfl,trivial⟩ ⟨oe rfl rfl,oe rfl rfl,rfl⟩⟩
 refine ex ?_;refine sq ?_;refine sq ?_;refine rl ?_;refine o1 ?_;refine nl ?_;refine bl ?_
 refine lp (γ:=Nat) (fun j=>cG [(2,.one (.pt 0 0)),(3,.one (.pt 1 0)),(8,.one (tv (.int .i64 ((j:Nat):Int))))]) (fun _=>[(⟨35,0,[.t (cV false false rs),.t (cJ false false us)]⟩:Ob),⟨42,0,[.t (mW false rs),.t (lQ false us)]⟩].map some) (fun j=>j≤us.length) (fun j=>us.length-j) 0 (Nat.zero_le _) (aP h0 [0,1] _ _ (by decide) ⟨rfl,rfl,rfl,trivial⟩ ⟨oe rfl rfl,oe rfl rfl,rfl⟩) fun j hj=>?_
 refine sq ?_;refine sq ?_;refine rl ?_;refine o1 ?_;refine o1 ?_;refine ld ?_;refine o1 ?_;refine o1 ?_;refine nl ?_;refine bQ rfl (fun h4=>?_) (fun h4=>?_)
 ·refine sk ?_;refine sq ?_;refine bl ?_;refine sq ?_;refine rd [0,1] (fun i=>[].contains i) mixed ?_
  refine dv 0 ?_;refine aM 1 ?_;refine dv 2 ?_;refine dv 3 ?_
  refine dG 4 ((cF false) (aW us (j))) (aX (f:=(cF false)) (z:=14) (o:=0) (dQ false) (dC (by omega)) (Nat.le_of_ble_eq_true rfl) rfl) ?_
  refine dv 5 ?_;refine aM 6 ?_;refine dv 7 ?_;refine dv 8 ?_
  refine dG 9 ((cF false) (aW us (j))) (aX (f:=(cF false)) (z:=14) (o:=0) (dQ false) (dC (by omega)) (Nat.le_of_ble_eq_true rfl) rfl) ?_
  refine aF 10 rfl (AB (a:=(aW us j)) (hus _ (jG (by omega))) rfl) SL ⟨aB rfl,aB rfl,rfl⟩ (.one (tv (.bool true))) ?_
  refine df 11 ?_;refine aH ?_;refine iE rfl ?_;refine sk ?_;refine rl ?_;refine o1 ?_;refine o1 ?_
  refine WL.cast (t:=94) (u':=.int .i64 ((j+1:Nat):Int)) rfl (aO (by omega)) ?_
  refine o1 ?_;refine nl ?_;exact⟨j+1,by omega,by omega,aP h0 [0,1] _ _ (by decide) ⟨rfl,rfl,rfl,trivial⟩ ⟨oe rfl rfl,oe rfl rfl,rfl⟩⟩
 refine ex ?_;refine sq ?_;refine rl ?_;refine o1 ?_;refine nl ?_;refine rt ?_;exact en (.inl rfl) rfl (aN (bH _)) (by decide) (fun _=>trivial) rfl
def Dq:Rat:=Rat.divInt 3 5
def jE:List (Rat×Rat):=[((Rat.divInt (100) 1),(Rat.divInt (0) 1)),((Rat.divInt (-50) 1),(Rat.divInt (0) 1)),((Rat.divInt (100) 1),(Rat.divInt (0) 1))]
def fX:List Us:=[⟨1,0,50,100,50⟩]
def iM:List (Rat×Rat):=[((Rat.divInt (100) 1),(Rat.divInt (0) 1)),((Rat.divInt (-80) 1),(Rat.divInt (0) 1)),((Rat.divInt (30) 1),(Rat.divInt (0) 1)),((Rat.divInt (100) 1),(Rat.divInt (0) 1))]
def fC:List Us:=[⟨1,0,60,100,40⟩,⟨1,2,18,30,12⟩,⟨1,3,2,100,98⟩]
def gG:List (Rat×Rat):=[((Rat.divInt (-10) 1),(Rat.divInt (0) 1)),((Rat.divInt (0) 1),(Rat.divInt (0) 1)),((Rat.divInt (0) 1),(Rat.divInt (0) 1)),((Rat.divInt (100) 1),(Rat.divInt (0) 1))]
def hJ:List Us:=[]
def dF (l:List (Rat×Rat)):List Rw:=cC (Fr4.of Dq) ((1:Nat):Int) ((2:Nat):Int) (gL l)
theorem St {l:List (Rat×Rat)}{U:List Us}(hm:Jv Dq 1 2 l=true) (hs:∀p∈l,Sz 4 p.1∧Sz 4 p.2) (hl:l.length<50) (hU:(Df Dq 1 2 l).run l.length=U):aE false Tryz.prog 10 [] [.agg (((Fr4.of Dq).tr false++[.v (.int .i64 1),.v (.int .i64 2)]:List Tr).map .t),.one (.t (jB (gL l)))] (aQ (.tup [.agg [.t (cV true true (dF l)),.t (cJ true true U)],.one (tv (.int .i64 0))])):=by
 have h:=Vf (bk:=((1:Nat):Int)) (fw:=((2:Nat):Int)) (KE (c:=Dq) ((eO (n:=3) (d:=5) (by omega) (by omega) (by omega) (by omega)).mono (M:=4) (by omega)) hs hl)
 rw[Sb hm,KD hm,hU]at h
 exact h
theorem tH:aE false Tryz.prog 10 [] [.agg (((Fr4.of Dq).tr false++[.v (.int .i64 1),.v (.int .i64 2)]:List Tr).map .t),.one (.t (jB (gL jE)))] (aQ (.tup [.agg [.t (cV true true (dF jE)),.t (cJ true true fX)],.one (tv (.int .i64 0))])):=St (l:=jE) (U:=fX) (by decide+kernel) (by simp only[jE,List.forall_mem_cons];exact⟨⟨((eO (n:=100) (d:=1) (by omega) (by omega) (by omega) (by omega)).mono (M:=4) (by omega)),((eO (n:=0) (d:=1) (by omega) (by omega) (by omega) (by omega)).mono (M:=4) (by omega))⟩,⟨((eO (n:=-50) (d:=1) (by omega) (by omega) (by omega) (by omega)).mono (M:=4) (by omega)),((eO (n:=0) (d:=1) (by omega) (by omega) (by omega) (by omega)).mono (M:=4) (by omega))⟩,⟨((eO (n:=100) (d:=1) (by omega) (by omega) (by omega) (by omega)).mono (M:=4) (by omega)),((eO (n:=0) (d:=1) (by omega) (by omega) (by omega) (by omega)).mono (M:=4) (by omega))⟩,fun _ h=>by cases h⟩) (by decide) (by decide+kernel)
theorem qW:aE false Tryz.prog 10 [] [.agg (((Fr4.of Dq).tr false++[.v (.int .i64 1),.v (.int .i64 2)]:List Tr).map .t),.one (.t (jB (gL iM)))] (aQ (.tup [.agg [.t (cV true true (dF iM)),.t (cJ true true fC)],.one (tv (.int .i64 0))])):=St (l:=iM) (U:=fC) (by decide+kernel) (by simp only[iM,List.forall_mem_cons];exact⟨⟨((eO (n:=100) (d:=1) (by omega) (by omega) (by omega) (by omega)).mono (M:=4) (by omega)),((eO (n:=0) (d:=1) (by omega) (by omega) (by omega) (by omega)).mono (M:=4) (by omega))⟩,⟨((eO (n:=-80) (d:=1) (by omega) (by omega) (by omega) (by omega)).mono (M:=4) (by omega)),((eO (n:=0) (d:=1) (by omega) (by omega) (by omega) (by omega)).mono (M:=4) (by omega))⟩,⟨((eO (n:=30) (d:=1) (by omega) (by omega) (by omega) (by omega)).mono (M:=4) (by omega)),((eO (n:=0) (d:=1) (by omega) (by omega) (by omega) (by omega)).mono (M:=4) (by omega))⟩,⟨((eO (n:=100) (d:=1) (by omega) (by omega) (by omega) (by omega)).mono (M:=4) (by omega)),((eO (n:=0) (d:=1) (by omega) (by omega) (by omega) (by omega)).mono (M:=4) (by omega))⟩,fun _ h=>by cases h⟩) (by decide) (by decide+kernel)
theorem qX:aE false Tryz.prog 10 [] [.agg (((Fr4.of Dq).tr false++[.v (.int .i64 1),.v (.int .i64 2)]:List Tr).map .t),.one (.t (jB (gL gG)))] (aQ (.tup [.agg [.t (cV true true (dF gG)),.t (cJ true true hJ)],.one (tv (.int .i64 0))])):=St (l:=gG) (U:=hJ) (by decide+kernel) (by simp only[gG,List.forall_mem_cons];exact⟨⟨((eO (n:=-10) (d:=1) (by omega) (by omega) (by omega) (by omega)).mono (M:=4) (by omega)),((eO (n:=0) (d:=1) (by omega) (by omega) (by omega) (by omega)).mono (M:=4) (by omega))⟩,⟨((eO (n:=0) (d:=1) (by omega) (by omega) (by omega) (by omega)).mono (M:=4) (by omega)),((eO (n:=0) (d:=1) (by omega) (by omega) (by omega) (by omega)).mono (M:=4) (by omega))⟩,⟨((eO (n:=0) (d:=1) (by omega) (by omega) (by omega) (by omega)).mono (M:=4) (by omega)),((eO (n:=0) (d:=1) (by omega) (by omega) (by omega) (by omega)).mono (M:=4) (by omega))⟩,⟨((eO (n:=100) (d:=1) (by omega) (by omega) (by omega) (by omega)).mono (M:=4) (by omega)),((eO (n:=0) (d:=1) (by omega) (by omega) (by omega) (by omega)).mono (M:=4) (by omega))⟩,fun _ h=>by cases h⟩) (by decide) (by decide+kernel)
theorem GB:(dF gG).length=4:=by
 unfold dF
 rw[Vh (by decide+kernel)]
 exact cM
theorem PB:(aC (dF gG) 0).e=Rat.divInt 10 1:=by
 unfold dF
 rw[Vh (by decide+kernel),iN (by decide)]
 show(Df Dq 1 2 gG).ex gG.length 0=_
 decide+kernel
theorem tI {p q:Rat}(hq:Sz 68719476736 q) (h:p=q):aE true Tryz.prog 34 [] [qF (.of p),qF (.of q)] (aQ (.one (tv (.bool true)))):=by
 subst h
 have h9:=LE (Qn.of hq) (Qn.of hq)
 rwa[decide_eq_true rfl]at h9
theorem Pp:aE true Tryz.prog 9 [] [] (aQ (.one (tv (.bool true)))):=by
 refine bO Tryz.func9 rfl Tryz.ntmps9 rfl aA rfl fun N w c0 h0=>?_
 have hu1:fX.length=1:=rfl
 have hu2:fC.length=3:=rfl
 have hu3:hJ.length=0:=rfl
 have hr3:=GB
 refine sq ?_;refine rl ?_;refine o1 ?_;refine nl ?_;refine sq ?_;refine rl ?_
 refine ca (xE (n:=3) (d:=5) (by omega) (by omega) (by omega) (by omega)) xF ⟨a1 rfl,a1 rfl,rfl⟩ (qF (.of (Rat.divInt 3 5))) ?_
 refine o1 ?_;refine al 0 ?_;refine st ?_;refine nl ?_
 refine md (γ:=Unit) (fun _=>cG [(1,.one (.pt 0 0)),(2,.one (.pt 1 0)),(3,.one (tv (.int .i64 ((0:Nat):Int))))]) (fun _=>([⟨28,0,((Fr4.of (Rat.divInt 3 5)).tr false++[.v (.int .i64 1),.v (.int .i64 2)]:List Tr).map .t⟩,⟨35,0,[.t (.s false 66 24 (dF jE).length ((dF jE).flatMap (bV true))),.t (.s false 46 14 fX.length (fX.flatMap (cF true)))]⟩]:List Ob).map some) (fun _=>True) ?_ fun _ _=>?_
 ·refine rd [0] (fun i=>[11].contains i) mixed ?_
  refine aM 0 ?_;refine WO.two (i:=1) (j:=9) (by kernel_rfl) ?_ ?_
  ·refine cS 1 rfl (cX (n:=100) (m:=0) (by omega) (by omega) (by omega) (by omega)) eN ⟨a1 rfl,a1 rfl,rfl⟩ (.agg ((cA (Fr4.of (Rat.divInt (100) 1),Fr4.of (Rat.divInt (0) 1))).map .t)) ?_
   refine WO.two (i:=2) (j:=9) (by kernel_rfl) ?_ ?_
   ·refine cS 2 rfl (cX (n:=-50) (m:=0) (by omega) (by omega) (by omega) (by omega)) eN ⟨a1 rfl,a1 rfl,rfl⟩ (.agg ((cA (Fr4.of (Rat.divInt (-50) 1),Fr4.of (Rat.divInt (0) 1))).map .t)) ?_
    refine WO.two (i:=3) (j:=9) (by kernel_rfl) ?_ ?_
    ·refine cS 3 rfl (cX (n:=100) (m:=0) (by omega) (by omega) (by omega) (by omega)) eN ⟨a1 rfl,a1 rfl,rfl⟩ (.agg ((cA (Fr4.of (Rat.divInt (100) 1),Fr4.of (Rat.divInt (0) 1))).map .t)) ?_
     refine WO.two (i:=4) (j:=9) (by kernel_rfl) ?_ ?_
     ·refine Ex (key:=1) 4 rfl rfl ⟨rfl,trivial⟩ ?_
      refine jP (i:=15) (k:=1) (t:=70) (t':=70) (z:=8) (n:=3) (l:=(gL jE).flatMap cA) rfl rfl rfl rfl (.one .sl) (by rfl) (by rfl) ?_
      refine WO.two (i:=5) (j:=9) (by kernel_rfl) ?_ ?_
      ·refine cS 5 rfl tH jJ ⟨aB rfl,a1 rfl,rfl⟩ (.tup [.agg [.t (.s false 66 24 (dF jE).length ((dF jE).flatMap (bV true))),.t (.s false 46 14 fX.length (fX.flatMap (cF true)))],.one (tv (.int .i64 0))]) ?_
       refine df 6 ?_;refine df 7 ?_;refine df 8 ?_;refine eP (key:=2) 9 (by kernel_rfl) rfl rfl aA rfl ⟨rfl,trivial⟩ ?_
       refine aZ 10 (by kernel_rfl) rfl rfl aA rfl rfl rfl rfl ⟨rfl,trivial⟩ ?_
       refine cT 11 (by kernel_rfl) rfl rfl aA rfl (by trivial) ?_ (fun h=>by first | rfl | cases h)
       refine aH ?_;exact⟨(),trivial,aP h0 [0,2] _ _ (by decide) ⟨rfl,rfl,rfl,trivial⟩ ⟨oe rfl rfl,oe rfl rfl,rfl⟩⟩
      refine bE (key:=2) 9 rfl rfl aA rfl ⟨rfl,trivial⟩ ?_
      refine aF 5 rfl tH jJ ⟨aB rfl,a1 rfl,rfl⟩ (.tup [.agg [.t (.s false 66 24 (dF jE).length ((dF jE).flatMap (bV true))),.t (.s false 46 14 fX.length (fX.flatMap (cF true)))],.one (tv (.int .i64 0))]) ?_
      refine df 6 ?_;refine df 7 ?_;refine df 8 ?_;refine aZ 10 (by kernel_rfl) rfl rfl aA rfl rfl rfl rfl ⟨rfl,trivial⟩ ?_
      refine cT 11 (by kernel_rfl) rfl rfl aA rfl (by trivial) ?_ (fun h=>by first | rfl | cases h)
      refine aH ?_;exact⟨(),trivial,aP h0 [0,2] _ _ (by decide) ⟨rfl,rfl,rfl,trivial⟩ ⟨oe rfl rfl,oe rfl rfl,rfl⟩⟩
     refine bE (key:=1) 9 rfl rfl aA rfl ⟨rfl,trivial⟩ ?_;refine fI (key:=2) 4 (by kernel_rfl) rfl rfl aA rfl ⟨rfl,trivial⟩ ?_
     refine jP (i:=15) (k:=2) (t:=70) (t':=70) (z:=8) (n:=3) (l:=(gL jE).flatMap cA) rfl rfl rfl rfl (.one .sl) (by rfl) (by rfl) ?_
     refine aF 5 rfl tH jJ ⟨aB rfl,a1 rfl,rfl⟩ (.tup [.agg [.t (.s false 66 24 (dF jE).length ((dF jE).flatMap (bV true))),.t (.s false 46 14 fX.length (fX.flatMap (cF true)))],.one (tv (.int .i64 0))]) ?_
     refine df 6 ?_;refine df 7 ?_;refine df 8 ?_;refine aZ 10 (by kernel_rfl) rfl rfl aA rfl rfl rfl rfl ⟨rfl,trivial⟩ ?_
     refine cT 11 (by kernel_rfl) rfl rfl aA rfl (by trivial) ?_ (fun h=>by first | rfl | cases h)
     refine aH ?_;exact⟨(),trivial,aP h0 [0,1] _ _ (by decide) ⟨rfl,rfl,rfl,trivial⟩ ⟨oe rfl rfl,oe rfl rfl,rfl⟩⟩
    refine bE (key:=1) 9 rfl rfl aA rfl ⟨rfl,trivial⟩ ?_
    refine aF 3 rfl (cX (n:=100) (m:=0) (by omega) (by omega) (by omega) (by omega)) eN ⟨a1 rfl,a1 rfl,rfl⟩ (.agg ((cA (Fr4.of (Rat.divInt (100) 1),Fr4.of (Rat.divInt (0) 1))).map .t)) ?_
    refine fI (key:=2) 4 (by kernel_rfl) rfl rfl aA rfl ⟨rfl,trivial⟩ ?_
    refine jP (i:=15) (k:=2) (t:=70) (t':=70) (z:=8) (n:=3) (l:=(gL jE).flatMap cA) rfl rfl rfl rfl (.one .sl) (by rfl) (by rfl) ?_
    refine aF 5 rfl tH jJ ⟨aB rfl,a1 rfl,rfl⟩ (.tup [.agg [.t (.s false 66 24 (dF jE).length ((dF jE).flatMap (bV true))),.t (.s false 46 14 fX.length (fX.flatMap (cF true)))],.one (tv (.int .i64 0))]) ?_
    refine df 6 ?_;refine df 7 ?_;refine df 8 ?_;refine aZ 10 (by kernel_rfl) rfl rfl aA rfl rfl rfl rfl ⟨rfl,trivial⟩ ?_
    refine cT 11 (by kernel_rfl) rfl rfl aA rfl (by trivial) ?_ (fun h=>by first | rfl | cases h)
    refine aH ?_;exact⟨(),trivial,aP h0 [0,1] _ _ (by decide) ⟨rfl,rfl,rfl,trivial⟩ ⟨oe rfl rfl,oe rfl rfl,rfl⟩⟩
   refine bE (key:=1) 9 rfl rfl aA rfl ⟨rfl,trivial⟩ ?_
   refine aF 2 rfl (cX (n:=-50) (m:=0) (by omega) (by omega) (by omega) (by omega)) eN ⟨a1 rfl,a1 rfl,rfl⟩ (.agg ((cA (Fr4.of (Rat.divInt (-50) 1),Fr4.of (Rat.divInt (0) 1))).map .t)) ?_
   refine aF 3 rfl (cX (n:=100) (m:=0) (by omega) (by omega) (by omega) (by omega)) eN ⟨a1 rfl,a1 rfl,rfl⟩ (.agg ((cA (Fr4.of (Rat.divInt (100) 1),Fr4.of (Rat.divInt (0) 1))).map .t)) ?_
   refine fI (key:=2) 4 (by kernel_rfl) rfl rfl aA rfl ⟨rfl,trivial⟩ ?_
   refine jP (i:=15) (k:=2) (t:=70) (t':=70) (z:=8) (n:=3) (l:=(gL jE).flatMap cA) rfl rfl rfl rfl (.one .sl) (by rfl) (by rfl) ?_
   refine aF 5 rfl tH jJ ⟨aB rfl,a1 rfl,rfl⟩ (.tup [.agg [.t (.s false 66 24 (dF jE).length ((dF jE).flatMap (bV true))),.t (.s false 46 14 fX.length (fX.flatMap (cF true)))],.one (tv (.int .i64 0))]) ?_
   refine df 6 ?_;refine df 7 ?_;refine df 8 ?_;refine aZ 10 (by kernel_rfl) rfl rfl aA rfl rfl rfl rfl ⟨rfl,trivial⟩ ?_
   refine cT 11 (by kernel_rfl) rfl rfl aA rfl (by trivial) ?_ (fun h=>by first | rfl | cases h)
   refine aH ?_;exact⟨(),trivial,aP h0 [0,1] _ _ (by decide) ⟨rfl,rfl,rfl,trivial⟩ ⟨oe rfl rfl,oe rfl rfl,rfl⟩⟩
  refine bE (key:=1) 9 rfl rfl aA rfl ⟨rfl,trivial⟩ ?_
  refine aF 1 rfl (cX (n:=100) (m:=0) (by omega) (by omega) (by omega) (by omega)) eN ⟨a1 rfl,a1 rfl,rfl⟩ (.agg ((cA (Fr4.of (Rat.divInt (100) 1),Fr4.of (Rat.divInt (0) 1))).map .t)) ?_
  refine aF 2 rfl (cX (n:=-50) (m:=0) (by omega) (by omega) (by omega) (by omega)) eN ⟨a1 rfl,a1 rfl,rfl⟩ (.agg ((cA (Fr4.of (Rat.divInt (-50) 1),Fr4.of (Rat.divInt (0) 1))).map .t)) ?_
  refine aF 3 rfl (cX (n:=100) (m:=0) (by omega) (by omega) (by omega) (by omega)) eN ⟨a1 rfl,a1 rfl,rfl⟩ (.agg ((cA (Fr4.of (Rat.divInt (100) 1),Fr4.of (Rat.divInt (0) 1))).map .t)) ?_
  refine fI (key:=2) 4 (by kernel_rfl) rfl rfl aA rfl ⟨rfl,trivial⟩ ?_
  refine jP (i:=15) (k:=2) (t:=70) (t':=70) (z:=8) (n:=3) (l:=(gL jE).flatMap cA) rfl rfl rfl rfl (.one .sl) (by rfl) (by rfl) ?_
  refine aF 5 rfl tH jJ ⟨aB rfl,a1 rfl,rfl⟩ (.tup [.agg [.t (.s false 66 24 (dF jE).length ((dF jE).flatMap (bV true))),.t (.s false 46 14 fX.length (fX.flatMap (cF true)))],.one (tv (.int .i64 0))]) ?_
  refine df 6 ?_;refine df 7 ?_;refine df 8 ?_;refine aZ 10 (by kernel_rfl) rfl rfl aA rfl rfl rfl rfl ⟨rfl,trivial⟩ ?_
  refine cT 11 (by kernel_rfl) rfl rfl aA rfl (by trivial) ?_ (fun h=>by first | rfl | cases h)
  refine aH ?_;exact⟨(),trivial,aP h0 [0,1] _ _ (by decide) ⟨rfl,rfl,rfl,trivial⟩ ⟨oe rfl rfl,oe rfl rfl,rfl⟩⟩
 refine md (γ:=Unit) (fun _=>cG [(1,.one (.pt 0 0)),(2,.one (.pt 1 0)),(3,.one (tv (.int .i64 ((0:Nat):Int)))),(4,.one (.pt 2 0))]) (fun _=>([⟨28,0,((Fr4.of (Rat.divInt 3 5)).tr false++[.v (.int .i64 1),.v (.int .i64 2)]:List Tr).map .t⟩,⟨35,0,[.t (cV false false (dF jE)),.t (cJ false false fX)]⟩,⟨35,0,[.t (.s false 66 24 (dF iM).length ((dF iM).flatMap (bV true))),.t (.s false 46 14 fC.length (fC.flatMap (cF true)))]⟩]:List Ob).map some) (fun _=>True) ?_ fun _ _=>?_
 ·refine WP.sub ((Pq (j:=1) (p:=0) (y:=.s false 66 24 (dF jE).length ((dF jE).flatMap (bV true))) (l':=[.t (cV false false (dF jE)),.t (.s false 46 14 fX.length (fX.flatMap (cF true)))]) rfl rfl rfl (by rw[gR,zA];rfl)).trans (Pq (j:=1) (p:=1) (y:=.s false 46 14 fX.length (fX.flatMap (cF true))) (l':=[.t (cV false false (dF jE)),.t (cJ false false fX)]) rfl rfl rfl (by rw[gR,zB];rfl))) ?_
  refine rd [0,1] (fun i=>[12].contains i) mixed ?_
  refine aM 0 ?_;refine WO.two (i:=1) (j:=10) (by kernel_rfl) ?_ ?_
  ·refine cS 1 rfl (cX (n:=100) (m:=0) (by omega) (by omega) (by omega) (by omega)) eN ⟨a1 rfl,a1 rfl,rfl⟩ (.agg ((cA (Fr4.of (Rat.divInt (100) 1),Fr4.of (Rat.divInt (0) 1))).map .t)) ?_
   refine WO.two (i:=2) (j:=10) (by kernel_rfl) ?_ ?_
   ·refine cS 2 rfl (cX (n:=-80) (m:=0) (by omega) (by omega) (by omega) (by omega)) eN ⟨a1 rfl,a1 rfl,rfl⟩ (.agg ((cA (Fr4.of (Rat.divInt (-80) 1),Fr4.of (Rat.divInt (0) 1))).map .t)) ?_
    refine WO.two (i:=3) (j:=10) (by kernel_rfl) ?_ ?_
    ·refine cS 3 rfl (cX (n:=30) (m:=0) (by omega) (by omega) (by omega) (by omega)) eN ⟨a1 rfl,a1 rfl,rfl⟩ (.agg ((cA (Fr4.of (Rat.divInt (30) 1),Fr4.of (Rat.divInt (0) 1))).map .t)) ?_
     refine WO.two (i:=4) (j:=10) (by kernel_rfl) ?_ ?_
     ·refine cS 4 rfl (cX (n:=100) (m:=0) (by omega) (by omega) (by omega) (by omega)) eN ⟨a1 rfl,a1 rfl,rfl⟩ (.agg ((cA (Fr4.of (Rat.divInt (100) 1),Fr4.of (Rat.divInt (0) 1))).map .t)) ?_
      refine WO.two (i:=5) (j:=10) (by kernel_rfl) ?_ ?_
      ·refine Ex (key:=2) 5 rfl rfl ⟨rfl,rfl,trivial⟩ ?_
       refine jP (i:=25) (k:=2) (t:=70) (t':=70) (z:=8) (n:=4) (l:=(gL iM).flatMap cA) rfl rfl rfl rfl (.one .sl) (by rfl) (by rfl) ?_
       refine WO.two (i:=6) (j:=10) (by kernel_rfl) ?_ ?_
       ·refine cS 6 rfl qW jJ ⟨aB rfl,a1 rfl,rfl⟩ (.tup [.agg [.t (.s false 66 24 (dF iM).length ((dF iM).flatMap (bV true))),.t (.s false 46 14 fC.length (fC.flatMap (cF true)))],.one (tv (.int .i64 0))]) ?_
        refine df 7 ?_;refine df 8 ?_;refine df 9 ?_;refine eP (key:=3) 10 (by kernel_rfl) rfl rfl aA rfl ⟨rfl,rfl,trivial⟩ ?_
        refine aZ 11 (by kernel_rfl) rfl rfl aA rfl rfl rfl rfl ⟨rfl,rfl,trivial⟩ ?_
        refine cT 12 (by kernel_rfl) rfl rfl aA rfl (by trivial) ?_ (fun h=>by first | rfl | cases h)
        refine aH ?_;exact⟨(),trivial,aP h0 [0,1,3] _ _ (by decide) ⟨rfl,rfl,rfl,rfl,trivial⟩ ⟨oe rfl rfl,oe rfl rfl,oe rfl rfl,rfl⟩⟩
       refine bE (key:=3) 10 rfl rfl aA rfl ⟨rfl,rfl,trivial⟩ ?_
       refine aF 6 rfl qW jJ ⟨aB rfl,a1 rfl,rfl⟩ (.tup [.agg [.t (.s false 66 24 (dF iM).length ((dF iM).flatMap (bV true))),.t (.s false 46 14 fC.length (fC.flatMap (cF true)))],.one (tv (.int .i64 0))]) ?_
       refine df 7 ?_;refine df 8 ?_;refine df 9 ?_;refine aZ 11 (by kernel_rfl) rfl rfl aA rfl rfl rfl rfl ⟨rfl,rfl,trivial⟩ ?_
       refine cT 12 (by kernel_rfl) rfl rfl aA rfl (by trivial) ?_ (fun h=>by first | rfl | cases h)
       refine aH ?_;exact⟨(),trivial,aP h0 [0,1,3] _ _ (by decide) ⟨rfl,rfl,rfl,rfl,trivial⟩ ⟨oe rfl rfl,oe rfl rfl,oe rfl rfl,rfl⟩⟩
      refine bE (key:=2) 10 rfl rfl aA rfl ⟨rfl,rfl,trivial⟩ ?_;refine fI (key:=3) 5 (by kernel_rfl) rfl rfl aA rfl ⟨rfl,rfl,trivial⟩ ?_
      refine jP (i:=25) (k:=3) (t:=70) (t':=70) (z:=8) (n:=4) (l:=(gL iM).flatMap cA) rfl rfl rfl rfl (.one .sl) (by rfl) (by rfl) ?_
      refine aF 6 rfl qW jJ ⟨aB rfl,a1 rfl,rfl⟩ (.tup [.agg [.t (.s false 66 24 (dF iM).length ((dF iM).flatMap (bV true))),.t (.s false 46 14 fC.length (fC.flatMap (cF true)))],.one (tv (.int .i64 0))]) ?_
      refine df 7 ?_;refine df 8 ?_;refine df 9 ?_;refine aZ 11 (by kernel_rfl) rfl rfl aA rfl rfl rfl rfl ⟨rfl,rfl,trivial⟩ ?_
      refine cT 12 (by kernel_rfl) rfl rfl aA rfl (by trivial) ?_ (fun h=>by first | rfl | cases h)
      refine aH ?_;exact⟨(),trivial,aP h0 [0,1,2] _ _ (by decide) ⟨rfl,rfl,rfl,rfl,trivial⟩ ⟨oe rfl rfl,oe rfl rfl,oe rfl rfl,rfl⟩⟩
     refine bE (key:=2) 10 rfl rfl aA rfl ⟨rfl,rfl,trivial⟩ ?_
     refine aF 4 rfl (cX (n:=100) (m:=0) (by omega) (by omega) (by omega) (by omega)) eN ⟨a1 rfl,a1 rfl,rfl⟩ (.agg ((cA (Fr4.of (Rat.divInt (100) 1),Fr4.of (Rat.divInt (0) 1))).map .t)) ?_
     refine fI (key:=3) 5 (by kernel_rfl) rfl rfl aA rfl ⟨rfl,rfl,trivial⟩ ?_
     refine jP (i:=25) (k:=3) (t:=70) (t':=70) (z:=8) (n:=4) (l:=(gL iM).flatMap cA) rfl rfl rfl rfl (.one .sl) (by rfl) (by rfl) ?_
     refine aF 6 rfl qW jJ ⟨aB rfl,a1 rfl,rfl⟩ (.tup [.agg [.t (.s false 66 24 (dF iM).length ((dF iM).flatMap (bV true))),.t (.s false 46 14 fC.length (fC.flatMap (cF true)))],.one (tv (.int .i64 0))]) ?_
     refine df 7 ?_;refine df 8 ?_;refine df 9 ?_;refine aZ 11 (by kernel_rfl) rfl rfl aA rfl rfl rfl rfl ⟨rfl,rfl,trivial⟩ ?_
     refine cT 12 (by kernel_rfl) rfl rfl aA rfl (by trivial) ?_ (fun h=>by first | rfl | cases h)
     refine aH ?_;exact⟨(),trivial,aP h0 [0,1,2] _ _ (by decide) ⟨rfl,rfl,rfl,rfl,trivial⟩ ⟨oe rfl rfl,oe rfl rfl,oe rfl rfl,rfl⟩⟩
    refine bE (key:=2) 10 rfl rfl aA rfl ⟨rfl,rfl,trivial⟩ ?_
    refine aF 3 rfl (cX (n:=30) (m:=0) (by omega) (by omega) (by omega) (by omega)) eN ⟨a1 rfl,a1 rfl,rfl⟩ (.agg ((cA (Fr4.of (Rat.divInt (30) 1),Fr4.of (Rat.divInt (0) 1))).map .t)) ?_
    refine aF 4 rfl (cX (n:=100) (m:=0) (by omega) (by omega) (by omega) (by omega)) eN ⟨a1 rfl,a1 rfl,rfl⟩ (.agg ((cA (Fr4.of (Rat.divInt (100) 1),Fr4.of (Rat.divInt (0) 1))).map .t)) ?_
    refine fI (key:=3) 5 (by kernel_rfl) rfl rfl aA rfl ⟨rfl,rfl,trivial⟩ ?_
    refine jP (i:=25) (k:=3) (t:=70) (t':=70) (z:=8) (n:=4) (l:=(gL iM).flatMap cA) rfl rfl rfl rfl (.one .sl) (by rfl) (by rfl) ?_
    refine aF 6 rfl qW jJ ⟨aB rfl,a1 rfl,rfl⟩ (.tup [.agg [.t (.s false 66 24 (dF iM).length ((dF iM).flatMap (bV true))),.t (.s false 46 14 fC.length (fC.flatMap (cF true)))],.one (tv (.int .i64 0))]) ?_
    refine df 7 ?_;refine df 8 ?_;refine df 9 ?_;refine aZ 11 (by kernel_rfl) rfl rfl aA rfl rfl rfl rfl ⟨rfl,rfl,trivial⟩ ?_
    refine cT 12 (by kernel_rfl) rfl rfl aA rfl (by trivial) ?_ (fun h=>by first | rfl | cases h)
    refine aH ?_;exact⟨(),trivial,aP h0 [0,1,2] _ _ (by decide) ⟨rfl,rfl,rfl,rfl,trivial⟩ ⟨oe rfl rfl,oe rfl rfl,oe rfl rfl,rfl⟩⟩
   refine bE (key:=2) 10 rfl rfl aA rfl ⟨rfl,rfl,trivial⟩ ?_
   refine aF 2 rfl (cX (n:=-80) (m:=0) (by omega) (by omega) (by omega) (by omega)) eN ⟨a1 rfl,a1 rfl,rfl⟩ (.agg ((cA (Fr4.of (Rat.divInt (-80) 1),Fr4.of (Rat.divInt (0) 1))).map .t)) ?_
   refine aF 3 rfl (cX (n:=30) (m:=0) (by omega) (by omega) (by omega) (by omega)) eN ⟨a1 rfl,a1 rfl,rfl⟩ (.agg ((cA (Fr4.of (Rat.divInt (30) 1),Fr4.of (Rat.divInt (0) 1))).map .t)) ?_
   refine aF 4 rfl (cX (n:=100) (m:=0) (by omega) (by omega) (by omega) (by omega)) eN ⟨a1 rfl,a1 rfl,rfl⟩ (.agg ((cA (Fr4.of (Rat.divInt (100) 1),Fr4.of (Rat.divInt (0) 1))).map .t)) ?_
   refine fI (key:=3) 5 (by kernel_rfl) rfl rfl aA rfl ⟨rfl,rfl,trivial⟩ ?_
   refine jP (i:=25) (k:=3) (t:=70) (t':=70) (z:=8) (n:=4) (l:=(gL iM).flatMap cA) rfl rfl rfl rfl (.one .sl) (by rfl) (by rfl) ?_
   refine aF 6 rfl qW jJ ⟨aB rfl,a1 rfl,rfl⟩ (.tup [.agg [.t (.s false 66 24 (dF iM).length ((dF iM).flatMap (bV true))),.t (.s false 46 14 fC.length (fC.flatMap (cF true)))],.one (tv (.int .i64 0))]) ?_
   refine df 7 ?_;refine df 8 ?_;refine df 9 ?_;refine aZ 11 (by kernel_rfl) rfl rfl aA rfl rfl rfl rfl ⟨rfl,rfl,trivial⟩ ?_
   refine cT 12 (by kernel_rfl) rfl rfl aA rfl (by trivial) ?_ (fun h=>by first | rfl | cases h)
   refine aH ?_;exact⟨(),trivial,aP h0 [0,1,2] _ _ (by decide) ⟨rfl,rfl,rfl,rfl,trivial⟩ ⟨oe rfl rfl,oe rfl rfl,oe rfl rfl,rfl⟩⟩
  refine bE (key:=2) 10 rfl rfl aA rfl ⟨rfl,rfl,trivial⟩ ?_
  refine aF 1 rfl (cX (n:=100) (m:=0) (by omega) (by omega) (by omega) (by omega)) eN ⟨a1 rfl,a1 rfl,rfl⟩ (.agg ((cA (Fr4.of (Rat.divInt (100) 1),Fr4.of (Rat.divInt (0) 1))).map .t)) ?_
  refine aF 2 rfl (cX (n:=-80) (m:=0) (by omega) (by omega) (by omega) (by omega)) eN ⟨a1 rfl,a1 rfl,rfl⟩ (.agg ((cA (Fr4.of (Rat.divInt (-80) 1),Fr4.of (Rat.divInt (0) 1))).map .t)) ?_
  refine aF 3 rfl (cX (n:=30) (m:=0) (by omega) (by omega) (by omega) (by omega)) eN ⟨a1 rfl,a1 rfl,rfl⟩ (.agg ((cA (Fr4.of (Rat.divInt (30) 1),Fr4.of (Rat.divInt (0) 1))).map .t)) ?_
  refine aF 4 rfl (cX (n:=100) (m:=0) (by omega) (by omega) (by omega) (by omega)) eN ⟨a1 rfl,a1 rfl,rfl⟩ (.agg ((cA (Fr4.of (Rat.divInt (100) 1),Fr4.of (Rat.divInt (0) 1))).map .t)) ?_
  refine fI (key:=3) 5 (by kernel_rfl) rfl rfl aA rfl ⟨rfl,rfl,trivial⟩ ?_
  refine jP (i:=25) (k:=3) (t:=70) (t':=70) (z:=8) (n:=4) (l:=(gL iM).flatMap cA) rfl rfl rfl rfl (.one .sl) (by rfl) (by rfl) ?_
  refine aF 6 rfl qW jJ ⟨aB rfl,a1 rfl,rfl⟩ (.tup [.agg [.t (.s false 66 24 (dF iM).length ((dF iM).flatMap (bV true))),.t (.s false 46 14 fC.length (fC.flatMap (cF true)))],.one (tv (.int .i64 0))]) ?_
  refine df 7 ?_;refine df 8 ?_;refine df 9 ?_;refine aZ 11 (by kernel_rfl) rfl rfl aA rfl rfl rfl rfl ⟨rfl,rfl,trivial⟩ ?_
  refine cT 12 (by kernel_rfl) rfl rfl aA rfl (by trivial) ?_ (fun h=>by first | rfl | cases h)
  refine aH ?_;exact⟨(),trivial,aP h0 [0,1,2] _ _ (by decide) ⟨rfl,rfl,rfl,rfl,trivial⟩ ⟨oe rfl rfl,oe rfl rfl,oe rfl rfl,rfl⟩⟩
 refine md (γ:=Unit) (fun _=>cG [(1,.one (.pt 0 0)),(2,.one (.pt 1 0)),(3,.one (tv (.int .i64 ((0:Nat):Int)))),(4,.one (.pt 2 0)),(6,.one (.pt 3 0))]) (fun _=>([⟨28,0,((Fr4.of (Rat.divInt 3 5)).tr false++[.v (.int .i64 1),.v (.int .i64 2)]:List Tr).map .t⟩,⟨35,0,[.t (cV false false (dF jE)),.t (cJ false false fX)]⟩,⟨35,0,[.t (cV false false (dF iM)),.t (cJ false false fC)]⟩,⟨35,0,[.t (.s false 66 24 (dF gG).length ((dF gG).flatMap (bV true))),.t (.s false 46 14 hJ.length (hJ.flatMap (cF true)))]⟩]:List Ob).map some) (fun _=>True) ?_ fun _ _=>?_
 ·refine WP.sub ((Pq (j:=2) (p:=0) (y:=.s false 66 24 (dF iM).length ((dF iM).flatMap (bV true))) (l':=[.t (cV false false (dF iM)),.t (.s false 46 14 fC.length (fC.flatMap (cF true)))]) rfl rfl rfl (by rw[gR,zA];rfl)).trans (Pq (j:=2) (p:=1) (y:=.s false 46 14 fC.length (fC.flatMap (cF true))) (l':=[.t (cV false false (dF iM)),.t (cJ false false fC)]) rfl rfl rfl (by rw[gR,zB];rfl))) ?_
  refine rd [0,1,2] (fun i=>[12].contains i) mixed ?_
  refine aM 0 ?_;refine WO.two (i:=1) (j:=10) (by kernel_rfl) ?_ ?_
  ·refine cS 1 rfl (cX (n:=-10) (m:=0) (by omega) (by omega) (by omega) (by omega)) eN ⟨a1 rfl,a1 rfl,rfl⟩ (.agg ((cA (Fr4.of (Rat.divInt (-10) 1),Fr4.of (Rat.divInt (0) 1))).map .t)) ?_
   refine WO.two (i:=2) (j:=10) (by kernel_rfl) ?_ ?_
   ·refine cS 2 rfl (cX (n:=0) (m:=0) (by omega) (by omega) (by omega) (by omega)) eN ⟨a1 rfl,a1 rfl,rfl⟩ (.agg ((cA (Fr4.of (Rat.divInt (0) 1),Fr4.of (Rat.divInt (0) 1))).map .t)) ?_
    refine WO.two (i:=3) (j:=10) (by kernel_rfl) ?_ ?_
    ·refine cS 3 rfl (cX (n:=0) (m:=0) (by omega) (by omega) (by omega) (by omega)) eN ⟨a1 rfl,a1 rfl,rfl⟩ (.agg ((cA (Fr4.of (Rat.divInt (0) 1),Fr4.of (Rat.divInt (0) 1))).map .t)) ?_
     refine WO.two (i:=4) (j:=10) (by kernel_rfl) ?_ ?_
     ·refine cS 4 rfl (cX (n:=100) (m:=0) (by omega) (by omega) (by omega) (by omega)) eN ⟨a1 rfl,a1 rfl,rfl⟩ (.agg ((cA (Fr4.of (Rat.divInt (100) 1),Fr4.of (Rat.divInt (0) 1))).map .t)) ?_
      refine WO.two (i:=5) (j:=10) (by kernel_rfl) ?_ ?_
      ·refine Ex (key:=3) 5 rfl rfl ⟨rfl,rfl,rfl,trivial⟩ ?_
       refine jP (i:=35) (k:=3) (t:=70) (t':=70) (z:=8) (n:=4) (l:=(gL gG).flatMap cA) rfl rfl rfl rfl (.one .sl) (by rfl) (by rfl) ?_
       refine WO.two (i:=6) (j:=10) (by kernel_rfl) ?_ ?_
       ·refine cS 6 rfl qX jJ ⟨aB rfl,a1 rfl,rfl⟩ (.tup [.agg [.t (.s false 66 24 (dF gG).length ((dF gG).flatMap (bV true))),.t (.s false 46 14 hJ.length (hJ.flatMap (cF true)))],.one (tv (.int .i64 0))]) ?_
        refine df 7 ?_;refine df 8 ?_;refine df 9 ?_;refine eP (key:=4) 10 (by kernel_rfl) rfl rfl aA rfl ⟨rfl,rfl,rfl,trivial⟩ ?_
        refine aZ 11 (by kernel_rfl) rfl rfl aA rfl rfl rfl rfl ⟨rfl,rfl,rfl,trivial⟩ ?_
        refine cT 12 (by kernel_rfl) rfl rfl aA rfl (by trivial) ?_ (fun h=>by first | rfl | cases h)
        refine aH ?_;exact⟨(),trivial,aP h0 [0,1,2,4] _ _ (by decide) ⟨rfl,rfl,rfl,rfl,rfl,trivial⟩ ⟨oe rfl rfl,oe rfl rfl,oe rfl rfl,oe rfl rfl,rfl⟩⟩
       refine bE (key:=4) 10 rfl rfl aA rfl ⟨rfl,rfl,rfl,trivial⟩ ?_
       refine aF 6 rfl qX jJ ⟨aB rfl,a1 rfl,rfl⟩ (.tup [.agg [.t (.s false 66 24 (dF gG).length ((dF gG).flatMap (bV true))),.t (.s false 46 14 hJ.length (hJ.flatMap (cF true)))],.one (tv (.int .i64 0))]) ?_
       refine df 7 ?_;refine df 8 ?_;refine df 9 ?_;refine aZ 11 (by kernel_rfl) rfl rfl aA rfl rfl rfl rfl ⟨rfl,rfl,rfl,trivial⟩ ?_
       refine cT 12 (by kernel_rfl) rfl rfl aA rfl (by trivial) ?_ (fun h=>by first | rfl | cases h)
       refine aH ?_;exact⟨(),trivial,aP h0 [0,1,2,4] _ _ (by decide) ⟨rfl,rfl,rfl,rfl,rfl,trivial⟩ ⟨oe rfl rfl,oe rfl rfl,oe rfl rfl,oe rfl rfl,rfl⟩⟩
      refine bE (key:=3) 10 rfl rfl aA rfl ⟨rfl,rfl,rfl,trivial⟩ ?_;refine fI (key:=4) 5 (by kernel_rfl) rfl rfl aA rfl ⟨rfl,rfl,rfl,trivial⟩ ?_
      refine jP (i:=35) (k:=4) (t:=70) (t':=70) (z:=8) (n:=4) (l:=(gL gG).flatMap cA) rfl rfl rfl rfl (.one .sl) (by rfl) (by rfl) ?_
      refine aF 6 rfl qX jJ ⟨aB rfl,a1 rfl,rfl⟩ (.tup [.agg [.t (.s false 66 24 (dF gG).length ((dF gG).flatMap (bV true))),.t (.s false 46 14 hJ.length (hJ.flatMap (cF true)))],.one (tv (.int .i64 0))]) ?_
      refine df 7 ?_;refine df 8 ?_;refine df 9 ?_;refine aZ 11 (by kernel_rfl) rfl rfl aA rfl rfl rfl rfl ⟨rfl,rfl,rfl,trivial⟩ ?_
      refine cT 12 (by kernel_rfl) rfl rfl aA rfl (by trivial) ?_ (fun h=>by first | rfl | cases h)
      refine aH ?_;exact⟨(),trivial,aP h0 [0,1,2,3] _ _ (by decide) ⟨rfl,rfl,rfl,rfl,rfl,trivial⟩ ⟨oe rfl rfl,oe rfl rfl,oe rfl rfl,oe rfl rfl,rfl⟩⟩
     refine bE (key:=3) 10 rfl rfl aA rfl ⟨rfl,rfl,rfl,trivial⟩ ?_
     refine aF 4 rfl (cX (n:=100) (m:=0) (by omega) (by omega) (by omega) (by omega)) eN ⟨a1 rfl,a1 rfl,rfl⟩ (.agg ((cA (Fr4.of (Rat.divInt (100) 1),Fr4.of (Rat.divInt (0) 1))).map .t)) ?_
     refine fI (key:=4) 5 (by kernel_rfl) rfl rfl aA rfl ⟨rfl,rfl,rfl,trivial⟩ ?_
     refine jP (i:=35) (k:=4) (t:=70) (t':=70) (z:=8) (n:=4) (l:=(gL gG).flatMap cA) rfl rfl rfl rfl (.one .sl) (by rfl) (by rfl) ?_
     refine aF 6 rfl qX jJ ⟨aB rfl,a1 rfl,rfl⟩ (.tup [.agg [.t (.s false 66 24 (dF gG).length ((dF gG).flatMap (bV true))),.t (.s false 46 14 hJ.length (hJ.flatMap (cF true)))],.one (tv (.int .i64 0))]) ?_
     refine df 7 ?_;refine df 8 ?_;refine df 9 ?_;refine aZ 11 (by kernel_rfl) rfl rfl aA rfl rfl rfl rfl ⟨rfl,rfl,rfl,trivial⟩ ?_
     refine cT 12 (by kernel_rfl) rfl rfl aA rfl (by trivial) ?_ (fun h=>by first | rfl | cases h)
     refine aH ?_;exact⟨(),trivial,aP h0 [0,1,2,3] _ _ (by decide) ⟨rfl,rfl,rfl,rfl,rfl,trivial⟩ ⟨oe rfl rfl,oe rfl rfl,oe rfl rfl,oe rfl rfl,rfl⟩⟩
    refine bE (key:=3) 10 rfl rfl aA rfl ⟨rfl,rfl,rfl,trivial⟩ ?_
    refine aF 3 rfl (cX (n:=0) (m:=0) (by omega) (by omega) (by omega) (by omega)) eN ⟨a1 rfl,a1 rfl,rfl⟩ (.agg ((cA (Fr4.of (Rat.divInt (0) 1),Fr4.of (Rat.divInt (0) 1))).map .t)) ?_
    refine aF 4 rfl (cX (n:=100) (m:=0) (by omega) (by omega) (by omega) (by omega)) eN ⟨a1 rfl,a1 rfl,rfl⟩ (.agg ((cA (Fr4.of (Rat.divInt (100) 1),Fr4.of (Rat.divInt (0) 1))).map .t)) ?_
    refine fI (key:=4) 5 (by kernel_rfl) rfl rfl aA rfl ⟨rfl,rfl,rfl,trivial⟩ ?_
    refine jP (i:=35) (k:=4) (t:=70) (t':=70) (z:=8) (n:=4) (l:=(gL gG).flatMap cA) rfl rfl rfl rfl (.one .sl) (by rfl) (by rfl) ?_
    refine aF 6 rfl qX jJ ⟨aB rfl,a1 rfl,rfl⟩ (.tup [.agg [.t (.s false 66 24 (dF gG).length ((dF gG).flatMap (bV true))),.t (.s false 46 14 hJ.length (hJ.flatMap (cF true)))],.one (tv (.int .i64 0))]) ?_
    refine df 7 ?_;refine df 8 ?_;refine df 9 ?_;refine aZ 11 (by kernel_rfl) rfl rfl aA rfl rfl rfl rfl ⟨rfl,rfl,rfl,trivial⟩ ?_
    refine cT 12 (by kernel_rfl) rfl rfl aA rfl (by trivial) ?_ (fun h=>by first | rfl | cases h)
    refine aH ?_;exact⟨(),trivial,aP h0 [0,1,2,3] _ _ (by decide) ⟨rfl,rfl,rfl,rfl,rfl,trivial⟩ ⟨oe rfl rfl,oe rfl rfl,oe rfl rfl,oe rfl rfl,rfl⟩⟩
   refine bE (key:=3) 10 rfl rfl aA rfl ⟨rfl,rfl,rfl,trivial⟩ ?_
   refine aF 2 rfl (cX (n:=0) (m:=0) (by omega) (by omega) (by omega) (by omega)) eN ⟨a1 rfl,a1 rfl,rfl⟩ (.agg ((cA (Fr4.of (Rat.divInt (0) 1),Fr4.of (Rat.divInt (0) 1))).map .t)) ?_
   refine aF 3 rfl (cX (n:=0) (m:=0) (by omega) (by omega) (by omega) (by omega)) eN ⟨a1 rfl,a1 rfl,rfl⟩ (.agg ((cA (Fr4.of (Rat.divInt (0) 1),Fr4.of (Rat.divInt (0) 1))).map .t)) ?_
   refine aF 4 rfl (cX (n:=100) (m:=0) (by omega) (by omega) (by omega) (by omega)) eN ⟨a1 rfl,a1 rfl,rfl⟩ (.agg ((cA (Fr4.of (Rat.divInt (100) 1),Fr4.of (Rat.divInt (0) 1))).map .t)) ?_
   refine fI (key:=4) 5 (by kernel_rfl) rfl rfl aA rfl ⟨rfl,rfl,rfl,trivial⟩ ?_
   refine jP (i:=35) (k:=4) (t:=70) (t':=70) (z:=8) (n:=4) (l:=(gL gG).flatMap cA) rfl rfl rfl rfl (.one .sl) (by rfl) (by rfl) ?_
   refine aF 6 rfl qX jJ ⟨aB rfl,a1 rfl,rfl⟩ (.tup [.agg [.t (.s false 66 24 (dF gG).length ((dF gG).flatMap (bV true))),.t (.s false 46 14 hJ.length (hJ.flatMap (cF true)))],.one (tv (.int .i64 0))]) ?_
   refine df 7 ?_;refine df 8 ?_;refine df 9 ?_;refine aZ 11 (by kernel_rfl) rfl rfl aA rfl rfl rfl rfl ⟨rfl,rfl,rfl,trivial⟩ ?_
   refine cT 12 (by kernel_rfl) rfl rfl aA rfl (by trivial) ?_ (fun h=>by first | rfl | cases h)
   refine aH ?_;exact⟨(),trivial,aP h0 [0,1,2,3] _ _ (by decide) ⟨rfl,rfl,rfl,rfl,rfl,trivial⟩ ⟨oe rfl rfl,oe rfl rfl,oe rfl rfl,oe rfl rfl,rfl⟩⟩
  refine bE (key:=3) 10 rfl rfl aA rfl ⟨rfl,rfl,rfl,trivial⟩ ?_
  refine aF 1 rfl (cX (n:=-10) (m:=0) (by omega) (by omega) (by omega) (by omega)) eN ⟨a1 rfl,a1 rfl,rfl⟩ (.agg ((cA (Fr4.of (Rat.divInt (-10) 1),Fr4.of (Rat.divInt (0) 1))).map .t)) ?_
  refine aF 2 rfl (cX (n:=0) (m:=0) (by omega) (by omega) (by omega) (by omega)) eN ⟨a1 rfl,a1 rfl,rfl⟩ (.agg ((cA (Fr4.of (Rat.divInt (0) 1),Fr4.of (Rat.divInt (0) 1))).map .t)) ?_
  refine aF 3 rfl (cX (n:=0) (m:=0) (by omega) (by omega) (by omega) (by omega)) eN ⟨a1 rfl,a1 rfl,rfl⟩ (.agg ((cA (Fr4.of (Rat.divInt (0) 1),Fr4.of (Rat.divInt (0) 1))).map .t)) ?_
  refine aF 4 rfl (cX (n:=100) (m:=0) (by omega) (by omega) (by omega) (by omega)) eN ⟨a1 rfl,a1 rfl,rfl⟩ (.agg ((cA (Fr4.of (Rat.divInt (100) 1),Fr4.of (Rat.divInt (0) 1))).map .t)) ?_
  refine fI (key:=4) 5 (by kernel_rfl) rfl rfl aA rfl ⟨rfl,rfl,rfl,trivial⟩ ?_
  refine jP (i:=35) (k:=4) (t:=70) (t':=70) (z:=8) (n:=4) (l:=(gL gG).flatMap cA) rfl rfl rfl rfl (.one .sl) (by rfl) (by rfl) ?_
  refine aF 6 rfl qX jJ ⟨aB rfl,a1 rfl,rfl⟩ (.tup [.agg [.t (.s false 66 24 (dF gG).length ((dF gG).flatMap (bV true))),.t (.s false 46 14 hJ.length (hJ.flatMap (cF true)))],.one (tv (.int .i64 0))]) ?_
  refine df 7 ?_;refine df 8 ?_;refine df 9 ?_;refine aZ 11 (by kernel_rfl) rfl rfl aA rfl rfl rfl rfl ⟨rfl,rfl,rfl,trivial⟩ ?_
  refine cT 12 (by kernel_rfl) rfl rfl aA rfl (by trivial) ?_ (fun h=>by first | rfl | cases h)
  refine aH ?_;exact⟨(),trivial,aP h0 [0,1,2,3] _ _ (by decide) ⟨rfl,rfl,rfl,rfl,rfl,trivial⟩ ⟨oe rfl rfl,oe rfl rfl,oe rfl rfl,oe rfl rfl,rfl⟩⟩
 refine sq ?_;refine sq ?_
 refine WP.sub ((Pq (j:=3) (p:=0) (y:=.s false 66 24 (dF gG).length ((dF gG).flatMap (bV true))) (l':=[.t (cV false false (dF gG)),.t (.s false 46 14 hJ.length (hJ.flatMap (cF true)))]) rfl rfl rfl (by rw[gR,zA];rfl)).trans (Pq (j:=3) (p:=1) (y:=.s false 46 14 hJ.length (hJ.flatMap (cF true))) (l':=[.t (cV false false (dF gG)),.t (cJ false false hJ)]) rfl rfl rfl (by rw[gR,zB];rfl))) ?_
 refine rl ?_;(iterate 3 refine o1 ?_);refine WL.split (t:=41) rfl (fun h1=>?_) (fun h1=>?_)
 ·exact absurd h1 (by omega)
 refine o1 ?_;refine ld ?_;(iterate 4 refine o1 ?_);refine WL.split (t:=47) rfl (fun h2=>?_) (fun h2=>?_)
 ·exact absurd h2 (by omega)
 refine o1 ?_;refine ld ?_;(iterate 4 refine o1 ?_);refine WL.split (t:=53) rfl (fun h3=>?_) (fun h3=>?_)
 ·exact absurd h3 (by omega)
 refine o1 ?_;refine ld ?_;(iterate 4 refine o1 ?_);refine WL.split (t:=59) rfl (fun h4=>?_) (fun h4=>?_)
 ·exact absurd h4 (by omega)
 refine o1 ?_;refine ld ?_;(iterate 3 refine o1 ?_);refine nl ?_;refine bQ rfl (fun h5=>?_) (fun h5=>?_)
 ·exact absurd h5 (by omega)
 refine sk ?_;refine sq ?_;refine rd [0,1,2,3] (fun i=>[75].contains i) mixed ?_
 refine dv 0 ?_;refine aM 1 ?_;refine dv 2 ?_;refine dv 3 ?_
 refine dG 4 ([.v (.int .i64 (aW fX (0)).v)]) (aX (f:=(cF false)) (z:=14) (o:=0) (dQ false) (dC (by omega)) (Nat.le_of_ble_eq_true rfl) rfl) ?_
 refine dv 5 ?_;refine dv 6 ?_;refine WD.split (t:=71) rfl rfl (fun h6=>?_) (fun h6=>?_)
 ·refine dv 7 ?_;refine aM 8 ?_;refine dv 9 ?_;refine dv 10 ?_
  refine dG 11 ([.v (.int .i64 (aW fX (0)).y)]) (aX (f:=(cF false)) (z:=14) (o:=1) (dQ false) (dC (by omega)) (Nat.le_of_ble_eq_true rfl) rfl) ?_
  refine dv 12 ?_;refine dv 13 ?_;refine dv 14 ?_;refine WD.split (t:=79) rfl rfl (fun h7=>?_) (fun h7=>?_)
  ·refine dv 15 ?_;refine aM 16 ?_;refine dv 17 ?_;refine dv 18 ?_
   refine dG 19 ((Fr4.of (aW fX (0)).n).tr false) (aX (f:=(cF false)) (z:=14) (o:=2) (dQ false) (dC (by omega)) (Nat.le_of_ble_eq_true rfl) rfl) ?_
   refine aF 20 rfl (xE (n:=50) (d:=1) (by omega) (by omega) (by omega) (by omega)) xF ⟨a1 rfl,a1 rfl,rfl⟩ (qF (.of (Rat.divInt 50 1))) ?_
   refine aF 21 rfl (tI (p:=(aW fX (0)).n) (q:=(Rat.divInt 50 1)) ((eO (n:=50) (d:=1) (by omega) (by omega) (by omega) (by omega)).mono (by omega)) (by decide+kernel)) Kz ⟨aB rfl,aB rfl,rfl⟩ (.one (tv (.bool true))) ?_
   refine df 22 ?_;refine df 23 ?_;refine dv 24 ?_;refine aM 25 ?_;refine dv 26 ?_;refine dv 27 ?_
   refine dG 28 ((Fr4.of (aW fC (0)).n).tr false) (aX (f:=(cF false)) (z:=14) (o:=2) (dQ false) (dC (by omega)) (Nat.le_of_ble_eq_true rfl) rfl) ?_
   refine aF 29 rfl (xE (n:=60) (d:=1) (by omega) (by omega) (by omega) (by omega)) xF ⟨a1 rfl,a1 rfl,rfl⟩ (qF (.of (Rat.divInt 60 1))) ?_
   refine aF 30 rfl (tI (p:=(aW fC (0)).n) (q:=(Rat.divInt 60 1)) ((eO (n:=60) (d:=1) (by omega) (by omega) (by omega) (by omega)).mono (by omega)) (by decide+kernel)) Kz ⟨aB rfl,aB rfl,rfl⟩ (.one (tv (.bool true))) ?_
   refine df 31 ?_;refine df 32 ?_;refine dv 33 ?_;refine aM 34 ?_;refine dv 35 ?_;refine dv 36 ?_
   refine dG 37 ([.v (.int .i64 (aW fC (1)).y)]) (aX (f:=(cF false)) (z:=14) (o:=1) (dQ false) (dC (by omega)) (Nat.le_of_ble_eq_true rfl) rfl) ?_
   refine dv 38 ?_;refine df 39 ?_;refine df 40 ?_;refine WD.split (t:=105) rfl rfl (fun h8=>?_) (fun h8=>?_)
   ·refine dv 41 ?_;refine aM 42 ?_;refine dv 43 ?_;refine dv 44 ?_
    refine dG 45 ((Fr4.of (aW fC (1)).n).tr false) (aX (f:=(cF false)) (z:=14) (o:=2) (dQ false) (dC (by omega)) (Nat.le_of_ble_eq_true rfl) rfl) ?_
    refine aF 46 rfl (xE (n:=18) (d:=1) (by omega) (by omega) (by omega) (by omega)) xF ⟨a1 rfl,a1 rfl,rfl⟩ (qF (.of (Rat.divInt 18 1))) ?_
    refine aF 47 rfl (tI (p:=(aW fC (1)).n) (q:=(Rat.divInt 18 1)) ((eO (n:=18) (d:=1) (by omega) (by omega) (by omega) (by omega)).mono (by omega)) (by decide+kernel)) Kz ⟨aB rfl,aB rfl,rfl⟩ (.one (tv (.bool true))) ?_
    refine df 48 ?_;refine df 49 ?_;refine dv 50 ?_;refine aM 51 ?_;refine dv 52 ?_;refine dv 53 ?_
    refine dG 54 ([.v (.int .i64 (aW fC (2)).y)]) (aX (f:=(cF false)) (z:=14) (o:=1) (dQ false) (dC (by omega)) (Nat.le_of_ble_eq_true rfl) rfl) ?_
    refine dv 55 ?_;refine df 56 ?_;refine df 57 ?_;refine WD.split (t:=122) rfl rfl (fun h9=>?_) (fun h9=>?_)
    ·refine dv 58 ?_;refine aM 59 ?_;refine dv 60 ?_;refine dv 61 ?_
     refine dG 62 ((Fr4.of (aW fC (2)).n).tr false) (aX (f:=(cF false)) (z:=14) (o:=2) (dQ false) (dC (by omega)) (Nat.le_of_ble_eq_true rfl) rfl) ?_
     refine aF 63 rfl (xE (n:=2) (d:=1) (by omega) (by omega) (by omega) (by omega)) xF ⟨a1 rfl,a1 rfl,rfl⟩ (qF (.of (Rat.divInt 2 1))) ?_
     refine aF 64 rfl (tI (p:=(aW fC (2)).n) (q:=(Rat.divInt 2 1)) ((eO (n:=2) (d:=1) (by omega) (by omega) (by omega) (by omega)).mono (by omega)) (by decide+kernel)) Kz ⟨aB rfl,aB rfl,rfl⟩ (.one (tv (.bool true))) ?_
     refine df 65 ?_;refine df 66 ?_;refine dv 67 ?_;refine aM 68 ?_;refine dv 69 ?_;refine dv 70 ?_
     refine dG 71 ((Fr4.of (aC (dF gG) (0)).e).tr false) (aX (f:=(bV false)) (z:=24) (o:=16) (dM false) (eT (by omega)) (Nat.le_of_ble_eq_true rfl) rfl) ?_
     refine aF 72 rfl (xE (n:=10) (d:=1) (by omega) (by omega) (by omega) (by omega)) xF ⟨a1 rfl,a1 rfl,rfl⟩ (qF (.of (Rat.divInt 10 1))) ?_
     refine aF 73 rfl (tI (p:=(aC (dF gG) (0)).e) (q:=(Rat.divInt 10 1)) ((eO (n:=10) (d:=1) (by omega) (by omega) (by omega) (by omega)).mono (by omega)) PB) Kz ⟨aB rfl,aB rfl,rfl⟩ (.one (tv (.bool true))) ?_
     refine df 74 ?_;refine cT 75 (by kernel_rfl) rfl rfl aA rfl (by trivial) ?_ (fun h=>by first | rfl | cases h)
     refine aH ?_;refine rt ?_;exact en (.inl rfl) rfl (aN (bH _)) (by decide) (fun _=>trivial) rfl
    exact absurd (by decide+kernel) h9
   exact absurd (by decide+kernel) h8
  exact absurd (by decide+kernel) h7
 exact absurd (by decide+kernel) h6
end Go.Proofs.YthoemjjmkgmnjaaGreat
