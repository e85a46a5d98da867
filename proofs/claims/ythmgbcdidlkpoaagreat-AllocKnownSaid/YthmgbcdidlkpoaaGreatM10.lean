/- Part 10 of a proof: Pf to Q3. -/
import Derived.Test.YthmgbcdidlkpoaaGreatM9
import Derived.Test.YthmgbcdidlkpoaaGreatM8
import Derived.Test.YthmgbcdidlkpoaaGreatM5
import Derived.Test.YthmgbcdidlkpoaaGreatM7
import Derived.Lib.ConvBytes
import Derived.Lib.SmallJoins
import Derived.Stop.IfaceNil
set_option maxRecDepth 100000
set_option linter.unusedVariables false
set_option linter.unusedSimpArgs false
namespace Go.Proofs.YthmgbcdidlkpoaaGreat
open Go Go.RowKit
section
variable {l:List Rat}{k:Nat}{f:Int→Int}{z:List Int}
def cV (l:List Rat):List Rat:=l.map fun x=>-x
theorem kW:(cV l).length=l.length:=by simp[cV]
theorem kX:aC (cV l)=-aC l:=FG l
theorem xS (h:(aC l).den≠1):aU l=[]:=if_neg h
theorem Fg (h:(aC l).den=1) (h0:aC l<0) (h1:(cV l).any (fun x=>decide (x<0))=true):aU l=[]:=by
 unfold aU
 rw[if_pos h,if_pos h0]
 exact if_pos h1
theorem xT (h:(aC l).den=1) (h0:¬aC l<0) (h1:l.any (fun x=>decide (x<0))=true):aU l=[]:=by
 unfold aU
 rw[if_pos h,if_neg h0]
 exact if_pos h1
theorem sJ (h:(aC l).den=1) (h0:¬aC l<0) (h1:l.any (fun x=>decide (x<0))=false):aU l=eB l:=by
 unfold aU
 rw[if_pos h,if_neg h0]
 exact if_neg (by rw[h1];simp)
theorem Nz (h:(aC l).den=1) (h0:aC l<0) (h1:(cV l).any (fun x=>decide (x<0))=false):aU l=(aU (cV l)).map fun x=>-x:=by
 have h2:¬aC (cV l)<0:=by rw[kX];grind
 rw[sJ (l:=cV l) (by rw[kX,Rat.neg_den];exact h) h2 h1]
 unfold aU
 rw[if_pos h,if_pos h0]
 exact if_neg (by rw[show(l.map fun x=>-x)=cV l from rfl,h1];simp)
theorem Fh (h0:aC l<0):¬aC (cV l)<0:=by rw[kX];grind
theorem BJ (l:List Rat):((dS l).any fun x=>decide (x.q<0))=l.any fun x=>decide (x<0):=by
 unfold dS
 rw[List.any_map]
 congr 1
 funext q
 simp[Fr4.q_of]
def iI (f:Int→Int) (z:List Int) (k:Nat):List Int:=(z.take k).map f++z.drop k
theorem mN:(iI f z k).length=z.length:=by simp[iI];omega
theorem JT:iI f z 0=z:=rfl
theorem Ki (h:k<z.length):aV (iI f z k) k=aV z k:=by
 unfold aV iI
 rw[List.getD_eq_getElem?_getD,List.getElem?_append_right (by rw[List.length_map,List.length_take];omega),List.length_map,List.length_take,Nat.min_eq_left (by omega),Nat.sub_self,List.getElem?_drop,List.getD_eq_getElem?_getD]
 rfl
theorem Yy (h:k<z.length):(iI f z k).set k (f (aV z k))=iI f z (k+1):=by
 unfold iI
 have e:aV z k=z[k]:=by simp[aV,h]
 rw[List.set_append_right _ _ (by rw[List.length_map,List.length_take];omega),List.length_map,List.length_take,Nat.min_eq_left (by omega),Nat.sub_self,List.drop_eq_getElem_cons h,List.set_cons_zero,pS h,List.map_append,e]
 simp
theorem Kj (h:z.length≤k):iI f z k=z.map f:=by rw[iI,List.drop_of_length_le h,List.take_of_length_le h,List.append_nil]
theorem Kk {L t i:Nat}(hs:∀q∈l,Sz L q) (hi:i<l.length):(dg 4294967296 (aV (dY l t) i).natAbs).length≤L+2:=by
 rw[lJ hi]
 have h1:=nF (aF l i)
 have h2:=(hs _ (dM hi)).1
 have h5:=iD (fl (aF l i)) (if i∈(cA l).take t then 1 else 0)
 have h6:(dg 4294967296 (if i∈(cA l).take t then(1:Int)else 0).natAbs).length≤1:=by split <;> decide
 omega
theorem Au {L:Nat}(hs:∀q∈l,Sz L q):∀k∈eB l,(dg 4294967296 k.natAbs).length≤L+2:=fun k hk=>by
 obtain⟨i,hi⟩:=List.mem_iff_getElem?.1 hk
 have h1:=(List.getElem?_eq_some_iff.1 hi).1
 rw[kY h1]at hi
 obtain rfl:=Option.some.inj hi
 exact Kk hs (by rwa[oI]at h1)
theorem vY {L:Nat}(hs:∀q∈l,Sz L q):∀k∈aU l,(dg 4294967296 k.natAbs).length≤L+2:=fun k hk=>by
 unfold aU at hk
 split at hk
 ·split at hk
  ·split at hk
   ·cases hk
   obtain⟨j,hj,rfl⟩:=List.mem_map.1 hk
   rw[Int.natAbs_neg]
   exact Au (fun q hq=>by obtain⟨p,hp,rfl⟩:=List.mem_map.1 hq;exact kI (hs p hp)) j hj
  split at hk
  ·cases hk
  exact Au hs k hk
 cases hk
theorem xU:(aU l).length≤l.length:=by
 unfold aU
 split
 ·split
  ·split
   ·simp
   rw[List.length_map,oI,List.length_map];exact Nat.le_refl _
  split
  ·simp
  rw[oI];exact Nat.le_refl _
 simp
end
section
variable {x:Cx}{g:Nat→FV}{ob:List (Option Ob)}
theorem MI {i t t' z n:Nat}{o:Bool}{l:List Tr}(hi:Nat.blt i x.n=true) (h:g i=.agg [.t (.s o t z n l)]):Sub x g ob (bG g i (.agg [.t (.s false t' z n l)])) ob:=zC hi fun W N cs u hu=>by
 rw[h]at hu
 simp only[bM,bY]at hu⊢
 obtain⟨us,e,h2⟩:=hu
 refine⟨us,e,?_⟩
 cases us with
 | nil=>simp only[ARL]at h2
 | cons v us=>
  simp only[ARL,AR,FR]at h2⊢
  exact h2
end
theorem Av:∀{l:List Rat},(∀x∈l,0≤x)→aC l=0→∀x∈l,x=0
 | [],_,_,_,hx=>by cases hx
 | a::l,h,h0,x,hx=>by
  have h1:=h a (List.mem_cons_self ..)
  have h2:=nG fun y hy=>h y (List.mem_cons_of_mem _ hy)
  rw[dZ]at h0
  rcases List.mem_cons.1 hx with rfl | hx
  ·grind
  exact Av (fun y hy=>h y (List.mem_cons_of_mem _ hy)) (by grind) x hx
theorem lT {T:Rat}{m i:Nat}{ws:List Rat}(hm:m<ws.length) (hi:i<ws.length):aF (aM T (m:Int) ws) i=if 0<aF ws i then T*aF ws i/aC (ws.map bC)else if aC (ws.map bC)=0∧i=m then T else 0:=by
 by_cases h0:aC (ws.map bC)=0
 ·have h1:¬0<aF ws i:=fun h2=>by
   have h3:=Av (l:=ws.map bC) (fun x hx=>by obtain⟨y,_,rfl⟩:=List.mem_map.1 hx;exact Qs y) h0 _ (List.mem_map.2 ⟨_,dM hi,rfl⟩)
   rw[zD (by grind)]at h3
   grind
  rw[if_neg h1,xV hm h0]
  unfold aF
  rw[List.getD_eq_getElem?_getD,List.getElem?_set]
  by_cases e:m=i
  ·rw[if_pos e,if_pos (by simpa using(by omega:m<ws.length)),if_pos ⟨h0,e.symm⟩]
   rfl
  rw[if_neg e,if_neg (fun h=>e h.2.symm)]
  simp[hi]
 rw[Aw hm h0,sK (g:=fun w=>T*bC w/aC (ws.map bC)) hi]
 by_cases h1:0<aF ws i
 ·rw[if_pos h1,zD (by grind)]
 have h2:bC (aF ws i)=0:=by
  have:=uD (aF ws i)
  split at this <;> grind
 rw[if_neg h1,if_neg (fun h=>h0 h.1),h2,Rat.mul_zero,Rat.div_def,Rat.zero_mul]
theorem sL {T:Rat}{m:Nat}{ws:List Rat}(hm:m<ws.length):(aM T (m:Int) ws).length=ws.length:=by
 unfold aM
 rw[if_neg (by omega)]
 split <;> simp
theorem Fi {l:List Rat}{k:Nat}(h:k<l.length):aC ((l.map bC).take (k+1))=aC ((l.map bC).take k)+bC (aF l k):=by
 rw[fF (by simpa using h),pT,sK h]
theorem BK {x:Rat}(h:¬0<x):bC x=0:=by
 have:=uD x
 split at this <;> grind
def aS (l:List Rat):List Rat:=if aC l<0 then cV l else l
section
variable {l:List Rat}{k i t:Nat}
theorem Km:(aS l).length=l.length:=by unfold aS;split <;> simp[cV]
theorem qY (h:aC l<0):aS l=cV l:=if_pos h
theorem vZ (h:¬aC l<0):aS l=l:=if_neg h
theorem Fj (h:aC l<0) (hk:k<l.length):aF (aS l) k=-aF l k:=by rw[qY h];exact sK (g:=fun x=>-x) hk
theorem Fk (h:¬aC l<0):aF (aS l) k=aF l k:=by rw[vZ h]
theorem Qt {p:Rat→Bool}(hk:k<l.length) (h:p (aF l k)=true):l.any p=true:=List.any_eq_true.2 ⟨_,dM hk,h⟩
theorem Fl {p:Rat→Bool}(h:∀j,j<l.length→p (aF l j)=false):l.any p=false:=by
 rw[List.any_eq_false]
 intro x hx
 obtain⟨j,hj⟩:=List.mem_iff_getElem?.1 hx
 have hl:=(List.getElem?_eq_some_iff.1 hj).1
 rw[iU hl]at hj
 rw[←Option.some.inj hj,h j hl]
 simp
theorem Kn (hd:(aC l).den=1) (hk:k<l.length) (h:aF (aS l) k<0):aU l=[]:=by
 by_cases h0:aC l<0
 ·refine Fg hd h0 (Qt (k:=k) (by rw[kW];exact hk) ?_)
  rw[qY h0]at h
  exact decide_eq_true h
 refine xT hd h0 (Qt (k:=k) hk ?_)
 rw[vZ h0]at h
 exact decide_eq_true h
theorem Ko:aC (aS l)=if aC l<0 then-aC l else aC l:=by
 unfold aS
 split
 ·exact kX
 rfl
theorem BL (hd:(aC l).den=1):(aC (aS l)).den=1:=by
 rw[Ko]
 split
 ·rw[Rat.neg_den];exact hd
 exact hd
theorem BM (hd:(aC l).den=1):(((fl (aC l)).natAbs:Nat):Int)=(aC (aS l)).num:=by
 rw[Fm hd,Ko]
 split
 ·rename_i h
  have:=gN.2 h
  rw[Rat.neg_num]
  omega
 rename_i h
 have:¬(aC l).num<0:=fun h9=>h (gN.1 h9)
 omega
theorem Vb (hd:(aC l).den=1):(((fl (aC l)).natAbs:Nat):Int)-eD ((aS l).map fl)=eO (aS l):=by rw[BM hd];rfl
theorem Qu {z:List Int}(h:k<z.length):eD (z.take (k+1))=eD (z.take k)+aV z k:=by
 rw[pS h,xW]
 simp[eD]
theorem FH (h:∀j,j<l.length→¬aF (aS l) j<0):(aS l).any (fun x=>decide (x<0))=false:=Fl fun j hj=>decide_eq_false (h j (by rwa[Km]at hj))
theorem Kq (hd:(aC l).den=1) (h:∀j,j<l.length→¬aF (aS l) j<0):aU l=if aC l<0 then(eB (aS l)).map (fun x=>-x)else eB (aS l):=by
 have h1:=FH h
 by_cases h0:aC l<0
 ·rw[if_pos h0,qY h0,Nz hd h0 (by rw[←qY h0];exact h1),sJ (by rw[kX,Rat.neg_den];exact hd) (Fh h0) (by rw[←qY h0];exact h1)]
 rw[if_neg h0,vZ h0,sJ hd h0 (by rw[←vZ h0];exact h1)]
def kJ (l:List Rat) (t:Nat):List Bool:=(List.range l.length).map fun i=>decide (i∈(cA l).take t)
def Az (l:List Bool) (k:Nat):Bool:=l.getD k false
theorem oJ:(kJ l t).length=l.length:=by simp[kJ]
theorem Kr (h:i<l.length):Az (kJ l t) i=decide (i∈(cA l).take t):=by simp[kJ,Az,h]
theorem JU:kJ l 0=List.replicate l.length false:=by
 apply List.ext_getElem?
 intro i
 by_cases h:i<l.length
 ·simp[kJ,h]
 simp[kJ,h]
theorem JV (h:t<l.length):(kJ l t).set (nth (cA l) t) true=kJ l (t+1):=by
 apply List.ext_getElem?
 intro i
 rw[List.getElem?_set]
 have hlt:nth (cA l) t<l.length:=oV (f:=fG l) h
 have h1:i∈(cA l).take (t+1)↔i∈(cA l).take t∨i=nth (cA l) t:=Ks (f:=fG l) (i:=i) h
 by_cases hi:i<l.length
 ·have e2:(kJ l (t+1))[i]? =some (decide (i∈(cA l).take (t+1))):=by simp[kJ,hi]
  have e1:(kJ l t)[i]? =some (decide (i∈(cA l).take t)):=by simp[kJ,hi]
  rw[e2,e1]
  by_cases e:nth (cA l) t=i
  ·rw[if_pos e,if_pos (by rw[oJ];exact hlt),decide_eq_true (h1.2 (.inr e.symm))]
  rw[if_neg e]
  congr 1
  rw[decide_eq_decide,h1]
  exact⟨.inl,fun h9=>h9.elim id fun h8=>absurd h8.symm e⟩
 rw[if_neg (fun e=>by omega),List.getElem?_eq_none (by rw[oJ];omega),List.getElem?_eq_none (by rw[oJ];omega)]
end
def bT (xs:List Bool):List Tr:=xs.map fun b=>.v (.bool b)
theorem MO (xs:List Bool){k:Nat}(h:k<xs.length):((bT xs).map AV.t)[0+k*1]? =some (tv (.bool (Az xs k))):=by simp[bT,Az,h,tv]
theorem JW (xs:List Bool){k:Nat}{v:Bool}(h:k<xs.length):cX ((bT xs).map AV.t) (0+k*1) [tv (.bool v)]=(bT (xs.set k v)).map .t:=by
 unfold cX
 have e:0+k*1=k:=by omega
 rw[e,←List.map_take,←List.map_drop]
 show _=(List.map _ (xs.set k v)).map _
 rw[List.set_eq_take_append_cons_drop,if_pos h]
 simp[bT,tv]
theorem MP (xs:List Bool){k:Nat}{a:AV}(h:k<xs.length):0+k*1+[a].length≤((bT xs).map AV.t).length:=by simp[bT];omega
theorem FI (n:Nat):(List.replicate n (Value.bool false)).map tv=(bT (List.replicate n false)).map .t:=by simp[bT,tv]
section
variable {x:Cx}{g:Nat→FV}{ob ob':List (Option Ob)}{Q:Post}{ops:Array Oper}{rest:List Oper}{d:Nat}{ty:TypeId}{pos:String}{af:Array Edge}{gd:Option (Nat×Bool)}{T:List (Nat×TI)}
theorem FJ {t e by_ k m:Nat}{ti:Bool}{ts0:Nat}{z0:List Value}{k1 k2:IntKind}{a b:Operand}(hT:cE x.P T) (ht:bV T t=some ⟨ti,ts0,z0,.sl e 1 by_ (.bool false)⟩) (ha:lk x.n g a=.one (tv (.int k1 (m:Int)))) (hb:lk x.n g b=.one (tv (.int k2 (m:Int)))) (hby:by_≤16) (hm:m≤8796093022208) (hk:dU ob k=true):
  OS x ⟨some d,.makeSlice t a b,ty,pos,af,gd⟩ g ob [] (fun g' ob2=>g'=bG g d (.one (.sl k 0 m))∧ob2=ob++[some ⟨e,1,(List.replicate m (Value.bool false)).map tv⟩]):=by
 obtain⟨_,hel⟩:=(dG hT ht).2.2.2
 obtain⟨hu,i,hi,hz,hsize,hby',hzs,hsz⟩:=hel
 subst hby'
 have hk:=Nat.eq_of_beq_eq_true hk
 subst hk
 intro cs ts W hR K Q' kk'
 have e1:=hR.lk a
 rw[ha]at e1
 have e1:=bD e1
 have e2:=hR.lk b
 rw[hb]at e2
 have e2:=bD e2
 have hmul:i.bytes*m≤16*8796093022208:=Nat.mul_le_mul hby hm
 obtain⟨w',hrun,h1,h2⟩:=run_make_full (P:=x.P) W 0 t e i (.bool false) 1 hu hi hz hsize k1 k2 m (by omega) (by unfold maxLen;omega) (Nat.zero_le _)
 have hrun':(execOp (Act.eval ⟨ts,[]⟩) ⟨some d,.makeSlice t a b,ty,pos,af,gd⟩).run x.P W=.ok (.value (.slice (some ⟨W.heap.size,0,none⟩) m m)) w':=by
  simp[execOp,e1,e2,hrun]
 have e0:(madeCells (Value.bool false).cells (m*1)).toList=List.replicate m (.bool false):=by
  rw[Nat.mul_one]
  show(madeCells #[Value.bool false] m).toList=_
  rw[toList_madeCells_one]
 rw[e0]at h1
 generalize hus:List.replicate m (Value.bool false)=us at h1 kk'
 have hbl:Below W.heap.size W w':=(Below.refl _ _).grown h2 (Nat.le_refl _) (fun k hk=>by cases hk)
 rcases h1.2 with⟨hh,_⟩ | ⟨g1,cap,cur,hv,_,hg,hnc,hcm,hcs,htake⟩
 ·injection hh with h3;cases h3
 injection hv with q1 q2 q3
 injection q1 with q1
 injection q1 with q1
 subst q1 q3
 have hlt:W.heap.size<w'.heap.size:=(Array.getElem?_eq_some_iff.1 hg).1
 have hcur:cur.toList=us:=by
  have h9:cur.toList.length=m*1:=by simpa using hcs
  rw[←htake,List.take_of_length_le (by omega)]
 have hS:∀b∈(aI (some ⟨e,1,us.map tv⟩) ⟨some W.heap.size,m,us.map .w⟩).S,W.heap.size≤b∧b<w'.heap.size:=by
  intro b hb
  simp[aI,jU]at hb
  subst hb
  exact⟨Nat.le_refl _,hlt⟩
 have hown:∀b∈cL (ob++[some ⟨e,1,us.map tv⟩]) (cs++[⟨some W.heap.size,m,us.map .w⟩]),b∈cL ob cs∨W.heap.size≤b:=by
  intro b hb
  unfold cL aE at hb
  rw[List.zipWith_append hR.len,List.flatMap_append,List.mem_append]at hb
  rcases hb with hb | hb
  ·exact .inl hb
  exact .inr (hS b (by simpa using hb)).1
 have m1:RelC x g (ob++[some ⟨e,1,us.map tv⟩]) (cs++[⟨some W.heap.size,m,us.map .w⟩]) ts w':=by
  refine hR.push hbl _ _ ?_ hS (by simp[aI,jU]) ?_ (fun e=>by cases e)
  ·have hul:us.length=m:=by rw[←hus,List.length_replicate]
   simp only[aI,pU]
   refine⟨⟨[],?_,by simp[hul]⟩,pV _,hcm⟩
   rw[List.append_nil,hg,←hcur]
  exact oW (lU _) (uE _)
 refine eT hrun' (kk' _ _ _ _ _ ⟨rfl,rfl⟩ (m1.put d ?_) ((Aft.mk .app (fun k _ hk=>kK hk) hbl.size (fun b hlt _=>hbl.block b hlt) hown (fun _ _=>rfl):Aft [] (some d) ob cs ts W _ _ ts w').then_put _))
 refine gP ?_
 simp only[AR]
 rw[hR.len,fY]
 exact⟨by simp[hR.len],0,m,rfl,Nat.le_refl _,hcm,fun _=>rfl,fun _=>rfl⟩
theorem OU {t e by_ m:Nat}{ti:Bool}{ts0:Nat}{z0:List Value}{k1 k2:IntKind}{a b:Operand}(key:Nat) (hm:m≤8796093022208){l:List AV}(hl:(List.replicate m (Value.bool false)).map tv=l) (k:WL x ops rest (bG g d (.one (.sl key 0 m))) (ob++[some ⟨e,1,l⟩]) Q) (hT:cE x.P ttab:=by exact aA) (hw:bH ops x.n g gd=some true:=by rfl)
  (ht:bV ttab t=some ⟨ti,ts0,z0,.sl e 1 by_ (.bool false)⟩:=by rfl) (ha:lk x.n g a=.one (tv (.int k1 (m:Int))):=by rfl) (hb:lk x.n g b=.one (tv (.int k2 (m:Int))):=by rfl) (hby:by_≤16:=by decide) (hk:dU ob key=true:=by rfl):WL x ops (⟨some d,.makeSlice t a b,ty,pos,af,gd⟩::rest) g ob Q:=by
 subst hl
 exact gX (FJ hT ht ha hb hby hm hk) hw (by rintro _ _ ⟨rfl,rfl⟩;exact k)
end
section
variable {x:Cx}{g:Nat→FV}{ob:List (Option Ob)}{ws:List Zi}{z:Zi}{l:List Rat}{i k n t:Nat}
theorem Vc {i:Nat}{v v':FV}(hi:Nat.blt i x.n=true) (hg:g i=v) (h:v=v'):Sub x g ob (bG g i v') ob:=zC hi fun W N cs u hu=>by
 rw[hg]at hu
 rwa[←h]
theorem Oa (h:k<l.length):(((dS l).flatMap (Fr4.tr false)).drop (k*4)).take ((Fr4.of (aF l k)).tr false).length=(Fr4.of (aF l k)).tr false:=by
 have h1:=eE (dS l) (k:=k) (by rw[gZ];exact h)
 rwa[BN h]at h1
theorem FK (h:ws.length=i):(((ws.flatMap (cB false)).map AV.t++(cB false z).map AV.t).drop (0+i*2)).take 2=(cB false z).map AV.t:=by
 rw[List.drop_left' (by rw[List.length_map,bQ (dQ false),h];omega)]
 exact List.take_of_length_le (by simp[cB])
theorem Yz (h:i<ws.length) (hz:fI ws i=z):(((ws.flatMap (cB false)).map AV.t).drop (0+i*2)).take 2=(cB false z).map AV.t:=by
 have h1:=De (f:=cB false) (z:=2) (o:=0) (us:=cB false z) (dQ false) (kZ h) (Nat.le_of_ble_eq_true rfl) (by rw[hz];rfl)
 exact h1
theorem Qv (h:i<ws.length):cX ((ws.flatMap (cB false)).map AV.t) (0+i*2) ((cB false z).map AV.t)=((ws.set i z).flatMap (cB false)).map .t:=by
 have h1:=pW (f:=cB false) (z:=2) (o:=0) (x':=z) (us:=cB false z) (dQ false) (kZ h) (Nat.le_of_ble_eq_true rfl) (by simp[cB])
 exact h1
theorem Za (h:i<ws.length):0+i*2+((cB false z).map AV.t).length≤((ws.flatMap (cB false)).map AV.t).length:=by
 rw[List.length_map,List.length_map,bQ (dQ false)]
 show 0+i*2+2≤_
 omega
end
section
variable {l:List Rat}{i t:Nat}
theorem BO (h:i<l.length) (hb:(!(Az (kJ l t) i))=false):i∈(cA l).take t:=by
 rw[Kr h]at hb
 simpa using hb
theorem Kt (h:i<l.length) (hb:(!(Az (kJ l t) i))=true):i∉(cA l).take t:=by
 rw[Kr h]at hb
 simpa using hb
theorem BP {L:Nat}{z:List Int}(h:∀k∈z,(dg 4294967296 k.natAbs).length≤L) (hl:z.length≤1000000):(dg 4294967296 (eD z).natAbs).length≤L+1:=by
 have h1:=nH (zs:=aQ z) (k:=(aQ z).length) (L:=L) (fun a ha=>by
  obtain⟨k,hk,rfl⟩:=List.mem_map.1 ha
  exact⟨aL (by omega) _,h k hk⟩) (by rw[cM];exact hl)
 rw[List.take_length]at h1
 unfold aQ at h1
 rwa[Ba]at h1
theorem Vd {K:Int}(hK:(dg 4294967296 K.natAbs).length≤20000) (hs:∀q∈l,Sz 1000 q) (hl:l.length≤12):(dg 4294967296 (K-eD ((l.map fl).take i)).natAbs).length≤30000:=by
 have h1:=xX K (eD ((l.map fl).take i))
 have h2:=BP (L:=1000) (z:=(l.map fl).take i) (fun k hk=>by
  obtain⟨q,hq,rfl⟩:=List.mem_map.1 (List.mem_of_mem_take hk)
  exact Nat.le_trans (nF q) (hs q hq).1) (by rw[List.length_take,List.length_map];omega)
 omega
theorem Fn (hd:(aC l).den=1) (hl:l.length≤12) (ht:(t:Int)≤eO l):(dg 4294967296 (eO l-(t:Int)).natAbs).length≤1:=by
 have h1:=iV hd
 have h2:=nI hd
 exact cH (by omega) (show(eO l-(t:Int)).natAbs<4294967296^1 by omega)
theorem BQ {L:Nat}(h:∀q∈l,Sz L q):∀q∈aS l,Sz L q:=fun q hq=>by
 unfold aS at hq
 split at hq
 ·obtain⟨p,hp,rfl⟩:=List.mem_map.1 hq
  exact kI (h p hp)
 exact h q hq
theorem MQ {l:List Rat}(h:∀q∈l,Sz 1000 q) (hl:l.length≤12):Sz 13000 (aC l):=(pX h).mono (by have:=Nat.mul_le_mul hl (Nat.le_refl 1001);omega)
theorem Ku {l:List Rat}{i:Nat}(h:i<l.length):aV (l.map fl) i=fl (aF l i):=by simp[aV,aF,h]
end
theorem dR {a:Fr4}{p:Rat}(ha:Qn a p):aD false Tryz.prog 74 [] [qF a] (aO (qF (.of p))):=xY ha
theorem Zb {a b:Fr4}{p q:Rat}(ha:Qn a p) (hb:Qn b q):aD true Tryz.prog 96 [] [qF a,qF b] (aO (.one (tv (.int .i64 (p-q).num.sign)))):=by
 refine bP Tryz.func96 rfl Tryz.ntmps96 rfl aA rfl fun N w c0 h0=>?_
 have hs:=ha.sz;have hs':=hb.sz
 have hs1:=hs.1;have hs2:=hs.2;have hs3:=hs'.1;have hs4:=hs'.2
 have hs5:(dg 4294967296 ((p.den:Int)).natAbs).length≤68719476736:=hs2
 have hs6:(dg 4294967296 ((q.den:Int)).natAbs).length≤68719476736:=hs4
 refine sq ?_;refine rl ?_;refine bx 0 ?_;refine bx 1 ?_;refine o1 ?_;refine nl ?_
 refine md (γ:=Unit) (fun _=>cG [(2,.one (.pt 0 0)),(3,.one (.pt 1 0)),(4,.one (tv (.int .i64 ((0:Nat):Int))))]) (fun _=>([⟨48,0,((Fr4.of p).tr false).map .t⟩,⟨48,0,((Fr4.of q).tr false).map .t⟩]:List Ob).map some) (fun _=>True) ?_ fun _ _=>?_
 ·refine rd [0,1] (fun i=>[0,1,2,3,4,5].contains i) mixed ?_
  refine WO.two (i:=0) (j:=2) (by kernel_rfl) ?_ ?_
  ·refine lK 0 ?_;refine WO.two (i:=1) (j:=2) (by kernel_rfl) ?_ ?_
   ·refine cY 1 rfl (dR ha) gH ⟨aB rfl,rfl⟩ (qF (.of p)) ?_;refine WO.one (by kernel_rfl) (lK 2 ?_)
    refine aK 3 rfl (dR hb) gH ⟨aB rfl,rfl⟩ (qF (.of q)) ?_;refine dst 4 ?_;refine dst 5 ?_;refine aR ?_
    exact⟨(),trivial,aH h0 [0,1] _ _ (by decide) ⟨rfl,rfl,rfl,trivial⟩ ⟨oe rfl rfl,oe rfl rfl,rfl⟩⟩
   refine lK 2 ?_;refine aK 1 rfl (dR ha) gH ⟨aB rfl,rfl⟩ (qF (.of p)) ?_;refine aK 3 rfl (dR hb) gH ⟨aB rfl,rfl⟩ (qF (.of q)) ?_;refine dst 4 ?_;refine dst 5 ?_
   refine aR ?_;exact⟨(),trivial,aH h0 [0,1] _ _ (by decide) ⟨rfl,rfl,rfl,trivial⟩ ⟨oe rfl rfl,oe rfl rfl,rfl⟩⟩
  refine lK 2 ?_;refine WO.one (by kernel_rfl) (lK 0 ?_)
  refine aK 1 rfl (dR ha) gH ⟨aB rfl,rfl⟩ (qF (.of p)) ?_;refine aK 3 rfl (dR hb) gH ⟨aB rfl,rfl⟩ (qF (.of q)) ?_;refine dst 4 ?_;refine dst 5 ?_;refine aR ?_
  exact⟨(),trivial,aH h0 [0,1] _ _ (by decide) ⟨rfl,rfl,rfl,trivial⟩ ⟨oe rfl rfl,oe rfl rfl,rfl⟩⟩
 refine sq ?_;refine rd [0,1] (fun i=>[11].contains i) mixed ?_
 refine dv 0 ?_;refine aX 1 ?_;refine dv 2 ?_;refine aX 3 ?_;refine dv 5 ?_;refine aX 6 ?_;refine dv 7 ?_;refine aX 8 ?_;have hn1:=cT (p.num) ((q.den:Int))
 refine aK 4 rfl (qZ (eP hs) (dB hs')) sM ⟨aB rfl,aB rfl,rfl⟩ (kF ((p.num*(q.den:Int)))) ?_;have hn2:=cT (q.num) ((p.den:Int))
 refine aK 9 rfl (qZ (eP hs') (dB hs)) sM ⟨aB rfl,aB rfl,rfl⟩ (kF ((q.num*(p.den:Int)))) ?_
 refine aK 10 rfl (uF (Zn.of (k:=(p.num*(q.den:Int))) (by omega)) (Zn.of (k:=(q.num*(p.den:Int))) (by omega))) xZ ⟨aB rfl,aB rfl,rfl⟩ (.one (tv (.int .i64 ((p.num*(q.den:Int))-(q.num*(p.den:Int))).sign))) ?_
 refine dH 11 (by kernel_rfl) rfl rfl aA rfl (by trivial) ?_ (fun h=>by first | rfl | cases h)
 refine aR ?_;refine rt ?_;exact en (.inl rfl) rfl (aW (cF _)) (by decide) (fun _=>trivial) (by rw[←Qw];rfl)
theorem JX {a b:Fr4}{p q:Rat}(ha:Qn a p) (hb:Qn b q):aD true Tryz.prog 47 [] [qF a,qF b] (aO (qO (p*q))):=by
 refine bP Tryz.func47 rfl Tryz.ntmps47 rfl aA rfl fun N w c0 h0=>?_
 have hs:=ha.sz;have hs':=hb.sz
 have hs1:=hs.1;have hs2:=hs.2;have hs3:=hs'.1;have hs4:=hs'.2
 have hs5:(dg 4294967296 ((p.den:Int)).natAbs).length≤68719476736:=hs2
 have hs6:(dg 4294967296 ((q.den:Int)).natAbs).length≤68719476736:=hs4
 refine sq ?_;refine rl ?_;refine bx 0 ?_;refine bx 1 ?_;refine al 2 ?_;refine nl ?_
 refine md (γ:=Unit) (fun _=>cG [(2,.one (.pt 0 0)),(3,.one (.pt 1 0)),(4,.one (.pt 2 0))]) (fun _=>([⟨48,0,((Fr4.of p).tr false).map .t⟩,⟨48,0,((Fr4.of q).tr false).map .t⟩,⟨48,0,[tv (.bool false),tv (.slice none 0 0),tv (.bool false),tv (.slice none 0 0)]⟩]:List Ob).map some) (fun _=>True) ?_ fun _ _=>?_
 ·refine rd [0,1,2] (fun i=>[0,1,2,3,4,5].contains i) mixed ?_
  refine WO.two (i:=0) (j:=2) (by kernel_rfl) ?_ ?_
  ·refine lK 0 ?_;refine WO.two (i:=1) (j:=2) (by kernel_rfl) ?_ ?_
   ·refine cY 1 rfl (dR ha) gH ⟨aB rfl,rfl⟩ (qF (.of p)) ?_;refine WO.one (by kernel_rfl) (lK 2 ?_)
    refine aK 3 rfl (dR hb) gH ⟨aB rfl,rfl⟩ (qF (.of q)) ?_;refine dst 4 ?_;refine dst 5 ?_;refine aR ?_
    exact⟨(),trivial,aH h0 [0,1,2] _ _ (by decide) ⟨rfl,rfl,rfl,trivial⟩ ⟨oe rfl rfl,oe rfl rfl,oe rfl rfl,rfl⟩⟩
   refine lK 2 ?_;refine aK 1 rfl (dR ha) gH ⟨aB rfl,rfl⟩ (qF (.of p)) ?_;refine aK 3 rfl (dR hb) gH ⟨aB rfl,rfl⟩ (qF (.of q)) ?_;refine dst 4 ?_;refine dst 5 ?_
   refine aR ?_;exact⟨(),trivial,aH h0 [0,1,2] _ _ (by decide) ⟨rfl,rfl,rfl,trivial⟩ ⟨oe rfl rfl,oe rfl rfl,oe rfl rfl,rfl⟩⟩
  refine lK 2 ?_;refine WO.one (by kernel_rfl) (lK 0 ?_)
  refine aK 1 rfl (dR ha) gH ⟨aB rfl,rfl⟩ (qF (.of p)) ?_;refine aK 3 rfl (dR hb) gH ⟨aB rfl,rfl⟩ (qF (.of q)) ?_;refine dst 4 ?_;refine dst 5 ?_;refine aR ?_
  exact⟨(),trivial,aH h0 [0,1,2] _ _ (by decide) ⟨rfl,rfl,rfl,trivial⟩ ⟨oe rfl rfl,oe rfl rfl,oe rfl rfl,rfl⟩⟩
 refine sq ?_;refine rd [0,1,2] (fun i=>[11].contains i) mixed ?_
 refine dv 0 ?_;refine aX 1 ?_;refine dv 2 ?_;refine aX 3 ?_;refine dv 5 ?_;refine aX 6 ?_;refine dv 7 ?_;refine aX 8 ?_;have hn1:=cT (p.num) (q.num)
 refine aK 4 rfl (qZ (eP hs) (eP hs')) sM ⟨aB rfl,aB rfl,rfl⟩ (kF ((p.num*q.num))) ?_;have hn2:=cT ((p.den:Int)) ((q.den:Int))
 refine aK 9 rfl (qZ (dB hs) (dB hs')) sM ⟨aB rfl,aB rfl,rfl⟩ (kF (((p.den:Int)*(q.den:Int)))) ?_
 refine jJ 3 10 rfl (Df (Zn.of (k:=(p.num*q.num)) (by omega)) (Zn.of (k:=((p.den:Int)*(q.den:Int))) (by omega)) (den_nz p q)) Oc ⟨aB rfl,aB rfl,rfl⟩ ?_
 refine dst 11 ?_;refine aR ?_;refine rt ?_
 exact en (.inl rfl) rfl (aW (.agg (.cons (.id rfl) (.cons (.sl (trs:=aP (dg 4294967296 (Rat.divInt (p.num*q.num) ((p.den:Int)*(q.den:Int))).num.natAbs)) rfl rfl (bE _) (bB _)) (.cons (.id rfl) (.cons (.sl (trs:=aP (dg 4294967296 (Rat.divInt (p.num*q.num) ((p.den:Int)*(q.den:Int))).den)) rfl rfl (bE _) (bB _)) .nil)))))) (by decide) (fun _=>uG _) (congrArg qO (Zc p q))
theorem FL {a b:Fr4}{p q:Rat}(ha:Qn a p) (hb:Qn b q):aD true Tryz.prog 117 [] [qF a,qF b] (aO (.one (tv (.bool (decide (p<q)))))):=by
 refine bP Tryz.func117 rfl Tryz.ntmps117 rfl aA rfl fun N w c0 h0=>?_
 refine sq ?_;refine rl ?_;refine bx 0 ?_;refine bx 1 ?_;refine o1 ?_;refine nl ?_;refine sq ?_;refine rl ?_;refine ld ?_;refine o1 ?_;refine ld ?_
 refine ca (Zb hb ha) FM ⟨aB rfl,aB rfl,rfl⟩ (.one (tv (.int .i64 (q-p).num.sign))) ?_;refine o1 ?_;refine o1 ?_;refine nl ?_;refine rt ?_
 exact en (.inl rfl) rfl (aW (cF _)) (by decide) (fun _=>trivial) (congrArg (fun z=>FV.one (tv (.bool z))) (Kv p q))
theorem FN {a:Fr4}:aD false Tryz.prog 116 [] [qF a] (aO (.one (.t (.f 117 [.a (a.tr false)] [])))):=by
 refine bP Tryz.func116 rfl Tryz.ntmps116 rfl aA rfl fun N w c0 h0=>?_
 refine sq ?_;refine rl ?_;refine bx 0 ?_;refine o1 ?_;refine nl ?_;refine sq ?_;refine rl ?_;refine ld ?_;refine o1 ?_;refine o1 ?_;refine nl ?_;refine rt ?_
 exact en (.inl rfl) rfl (aW (.one (.id rfl))) (by decide) (fun h=>by cases h) rfl
theorem BR {a:Fr4}{p:Rat}{xs:List Fr4}(ha:Qn a p) (hx:∀x∈xs,x.ok) (hl:xs.length≤1099511627776):aD false Tryz.prog 115 [] [qF a,.one (.t (sQ false xs)),.one (.t (.f 116 [] []))] (aO (qF (.of (gA p (xs.map Fr4.q))))):=by
 refine bP Tryz.func115 rfl Tryz.ntmps115 rfl aA rfl fun N w c0 h0=>?_
 have hz:∀x∈xs,Sz 68719476736 x.q:=fun x h=>(show Qn x x.q from⟨hx x h,rfl⟩).sz
 refine sq ?_;refine rl ?_;refine bx 0 ?_;refine al 1 ?_;refine nl ?_;refine sq ?_;refine rl ?_;refine ld ?_;refine ca (dR ha) gH ⟨aB rfl,rfl⟩ (qF (.of p)) ?_
 refine ca (mO (z:=0) (by omega) (by omega)) Bb ⟨a1 rfl,rfl⟩ (qF (.of ((0:Int):Rat))) ?_
 refine ca (Qx ha.sz) Od ⟨aB rfl,aB rfl,rfl⟩ (qF (.of p)) ?_;refine al 2 ?_;refine st ?_;refine nl ?_;refine sq ?_;refine sq ?_;refine rl ?_;(iterate 3 refine o1 ?_);refine nl ?_
 refine bl ?_
 refine lp (γ:=Nat) (fun k=>cG [(2,.one (.t (.f 116 [] []))),(6,.one (.pt 0 0)),(7,.one (.pt 1 0)),(14,.one (.t (sQ false xs))),(15,.one (tv (.int .i64 ((xs.length:Nat):Int)))),(16,.one (tv (.int .i64 ((k:Nat):Int))))]) (fun k=>[(⟨48,0,[tv (.bool false),tv (.slice none 0 0),tv (.bool false),tv (.slice none 0 0)]⟩:Ob),⟨48,0,((Fr4.of (gA p ((xs.take k).map Fr4.q))).tr false).map .t⟩].map some) (fun k=>k≤xs.length∧Sz 68719476736 (gA p ((xs.take k).map Fr4.q))) (fun k=>xs.length-k) 0 ⟨Nat.zero_le _,ha.sz⟩ (aH h0 [1,2] _ _ (by decide) ⟨rfl,rfl,rfl,rfl,rfl,rfl,trivial⟩ ⟨oe rfl rfl,bI rfl,rfl⟩) fun k hk=>?_
 refine sq ?_;refine rl ?_;refine o1 ?_;refine nl ?_;refine sq ?_;refine bO rfl (fun h1=>?_) (fun h1=>?_)
 ·refine sk ?_;refine sq ?_;refine bl ?_;refine sq ?_;refine rl ?_;refine o1 ?_;refine fB ((aN xs (k)).tr false) (eE xs (k:=k) (by omega)) ?_
  refine al 2 ?_;refine st ?_;refine nl ?_;refine sq ?_;refine rd [0,1,2] (fun i=>[].contains i) mixed ?_
  refine dv 0 ?_;refine aX 1 ?_;refine dv 2 ?_;refine aX 4 ?_
  refine FO 3 3 [.agg [tv (.bool (aG (gA p ((xs.take k).map Fr4.q)).num)),.t (sU false (dg 4294967296 (gA p ((xs.take k).map Fr4.q)).num.natAbs)),tv (.bool false),.t (sU false (dg 4294967296 (gA p ((xs.take k).map Fr4.q)).den))]] rfl rfl (FN (a:=.of (gA p ((xs.take k).map Fr4.q)))) JY ⟨rfl,rfl⟩ ?_
  refine FO 5 3 [qF (aN xs (k))] rfl rfl (FL (a:=.of (gA p ((xs.take k).map Fr4.q))) (b:=(aN xs (k))) (Qn.of (p:=(gA p ((xs.take k).map Fr4.q))) hk.2) ⟨hx _ (aT (by omega)),rfl⟩) JZ ⟨rfl,rfl⟩ ?_
  refine aR ?_;refine bO rfl (fun h2=>?_) (fun h2=>?_)
  ·refine rl ?_;refine ld ?_;refine ca (dR ⟨hx _ (aT (by omega)),rfl⟩) gH ⟨aB rfl,rfl⟩ (qF (.of (aN xs (k)).q)) ?_
   refine ca (mO (z:=0) (by omega) (by omega)) Bb ⟨a1 rfl,rfl⟩ (qF (.of ((0:Int):Rat))) ?_
   refine ca (Qx (hz _ (aT (by omega)))) Od ⟨aB rfl,aB rfl,rfl⟩ (qF (.of (aN xs (k)).q)) ?_
   refine st ?_;refine nl ?_;refine rl ?_;refine o1 ?_;refine WL.cast (t:=30) (u':=.int .i64 ((k+1:Nat):Int)) rfl (aJ (by omega)) ?_
   refine o1 ?_;refine nl ?_;have hst:(gA p ((xs.take (k+1)).map Fr4.q))=(aN xs k).q:=by rw[oX (by omega),Dg];exact if_pos h2
   exact⟨k+1,by omega,⟨by omega,by rw[hst];exact hz _ (aT (by omega))⟩,aH h0 [0,1] _ _ (by decide) ⟨rfl,rfl,rfl,rfl,rfl,rfl,trivial⟩ ⟨oe rfl rfl,bI (congrArg (fun q=>some (⟨48,0,((Fr4.of q).tr false).map .t⟩:Ob)) hst.symm),rfl⟩⟩
  refine sk ?_;refine rl ?_;refine o1 ?_;refine WL.cast (t:=30) (u':=.int .i64 ((k+1:Nat):Int)) rfl (aJ (by omega)) ?_
  refine o1 ?_;refine nl ?_;have hst:(gA p ((xs.take (k+1)).map Fr4.q))=(gA p ((xs.take k).map Fr4.q)):=by rw[oX (by omega),Dg];exact if_neg h2
  exact⟨k+1,by omega,⟨by omega,by rw[hst];exact hk.2⟩,aH h0 [0,1] _ _ (by decide) ⟨rfl,rfl,rfl,rfl,rfl,rfl,trivial⟩ ⟨oe rfl rfl,bI (congrArg (fun q=>some (⟨48,0,((Fr4.of q).tr false).map .t⟩:Ob)) hst.symm),rfl⟩⟩
 refine ex ?_;refine sq ?_;refine rl ?_;refine ld ?_;refine st ?_;refine nl ?_;refine rt ?_
 exact en (.inl rfl) rfl (aW (.agg (.cons (.id rfl) (.cons (.id rfl) (.cons (.id rfl) (.cons (.id rfl) .nil)))))) (by decide) (fun h=>by cases h) (by rw[List.take_of_length_le (by omega)];rfl)
theorem KA {a:Fr4}{p:Rat}{xs:List Fr4}(ha:Qn a p) (hx:∀x∈xs,x.ok) (hl:xs.length≤1099511627776):aD false Tryz.prog 81 [] [qF a,.one (.t (sQ false xs))] (aO (qF (.of (gA p (xs.map Fr4.q))))):=by
 refine bP Tryz.func81 rfl Tryz.ntmps81 rfl aA rfl fun N w c0 h0=>?_
 refine sq ?_;refine rl ?_;refine bx 0 ?_;refine al 1 ?_;refine nl ?_;refine sq ?_;refine rl ?_;refine ld ?_;refine o1 ?_
 refine ca (BR ha hx hl) KB ⟨aB rfl,a1 rfl,a1 rfl,rfl⟩ (qF (.of (gA p (xs.map Fr4.q)))) ?_;refine st ?_;refine nl ?_;refine rt ?_
 exact en (.inl rfl) rfl (aW (.agg (.cons (.id rfl) (.cons (.id rfl) (.cons (.id rfl) (.cons (.id rfl) .nil)))))) (by decide) (fun h=>by cases h) (rfl)
theorem KC:(Fr4.of ((0:Int):Rat)).ok:=(Qn.of (p:=((0:Int):Rat)) ((kL (z:=0) (by omega) (by omega)).mono (M:=68719476736) (by omega))).1
theorem FP {a:Fr4}{p:Rat}(ha:Qn a p):aD false Tryz.prog 81 [] [qF a,.one (.t (sQ false [Fr4.of ((0:Int):Rat)]))] (aO (qF (.of (bC p)))):=by
 have h:=KA (a:=a) (xs:=[Fr4.of ((0:Int):Rat)]) ha (fun x hx=>by rw[List.mem_singleton]at hx;rw[hx];exact KC) (by simp)
 have e:[Fr4.of ((0:Int):Rat)].map Fr4.q=[0]:=by rw[List.map_cons,Fr4.q_of];rfl
 rwa[e]at h
theorem zE {a b:Zi}{k k':Int}(ha:Zn a k) (hb:Zn b k'):aD false Tryz.prog 83 [] [gF a,gF b] (aO (.tup [qF (.of (Rat.divInt k k')),.one (tv (.int .i64 (if k'=0 then 20 else 0)))])):=by
 refine bP Tryz.func83 rfl Tryz.ntmps83 rfl aA rfl fun N9 w9 c0 h0=>?_
 refine sq ?_;refine rl ?_;refine bx 0 ?_;refine bx 1 ?_;refine al 2 ?_;refine o1 ?_;refine nl ?_;refine sq ?_;refine sq ?_;refine rl ?_;refine ld ?_
 refine ca (nJ (hb).g) uH ⟨aB rfl,rfl⟩ (.one (tv (.int .i64 (k').sign))) ?_;refine o1 ?_;refine nl ?_;refine bO rfl (fun h1=>?_) (fun h1=>?_)
 ·refine sq ?_;refine rl ?_;refine o1 ?_;refine ca (KD) Oe rfl (kF 1) ?_;refine o1 ?_;refine st ?_;refine o1 ?_;refine nl ?_;refine rt ?_
  have hk0:k'=0:=Int.sign_eq_zero_iff_zero.1 h1
  have hd0:Rat.divInt k k'=0:=by rw[hk0];simp
  exact en (.inl rfl) rfl (iJ (.cons (.agg (.cons (.id rfl) (.cons .nilf (.cons (.id rfl) (.cons (.id rfl) .nil))))) (.cons (cF _) .nil))) (by decide) (fun h=>by cases h) (by rw[if_pos hk0,hd0];exact congrArg (fun f=>FV.tup [f,.one (tv (.int .i64 20))]) MJ)
 refine sk ?_;refine sq ?_;have hk0:k'≠0:=fun h9=>h1 (by rw[h9];rfl)
 refine rl ?_;refine ld ?_;refine ld ?_;refine ca (Df ha hb hk0) Oc ⟨aB rfl,aB rfl,rfl⟩ (qF (.of (Rat.divInt k k'))) ?_;refine st ?_;refine o1 ?_;refine nl ?_;refine rt ?_
 exact en (.inl rfl) rfl (iJ (.cons (.agg (.cons (.id rfl) (.cons (.id rfl) (.cons (.id rfl) (.cons (.id rfl) .nil))))) (.cons (cF _) .nil))) (by decide) (fun h=>by cases h) (by rw[if_neg hk0];rfl)
theorem KE {a b:Fr4}{p q:Rat}(ha:Qn a p) (hb:Qn b q):aD false Tryz.prog 46 [] [qF a,qF b] (aO (.tup [qF (.of (p/q)),.one (tv (.int .i64 (if q=0 then 20 else 0)))])):=by
 refine bP Tryz.func46 rfl Tryz.ntmps46 rfl aA rfl fun N w c0 h0=>?_
 have hs:=ha.sz;have hs':=hb.sz
 have hs1:=hs.1;have hs2:=hs.2;have hs3:=hs'.1;have hs4:=hs'.2
 have hs5:(dg 4294967296 ((p.den:Int)).natAbs).length≤68719476736:=hs2
 have hs6:(dg 4294967296 ((q.den:Int)).natAbs).length≤68719476736:=hs4
 refine sq ?_;refine rl ?_;refine bx 0 ?_;refine bx 1 ?_;refine al 2 ?_;refine o1 ?_;refine nl ?_
 refine md (γ:=Unit) (fun _=>cG [(2,.one (.pt 0 0)),(3,.one (.pt 1 0)),(4,.one (.pt 2 0)),(5,.one (tv (.int .i64 ((0:Nat):Int))))]) (fun _=>([⟨48,0,((Fr4.of p).tr false).map .t⟩,⟨48,0,((Fr4.of q).tr false).map .t⟩,⟨48,0,[tv (.bool false),tv (.slice none 0 0),tv (.bool false),tv (.slice none 0 0)]⟩]:List Ob).map some) (fun _=>True) ?_ fun _ _=>?_
 ·refine rd [0,1,2] (fun i=>[0,1,2,3,4,5].contains i) mixed ?_
  refine WO.two (i:=0) (j:=2) (by kernel_rfl) ?_ ?_
  ·refine lK 0 ?_;refine WO.two (i:=1) (j:=2) (by kernel_rfl) ?_ ?_
   ·refine cY 1 rfl (dR ha) gH ⟨aB rfl,rfl⟩ (qF (.of p)) ?_;refine WO.one (by kernel_rfl) (lK 2 ?_)
    refine aK 3 rfl (dR hb) gH ⟨aB rfl,rfl⟩ (qF (.of q)) ?_;refine dst 4 ?_;refine dst 5 ?_;refine aR ?_
    exact⟨(),trivial,aH h0 [0,1,2] _ _ (by decide) ⟨rfl,rfl,rfl,rfl,trivial⟩ ⟨oe rfl rfl,oe rfl rfl,oe rfl rfl,rfl⟩⟩
   refine lK 2 ?_;refine aK 1 rfl (dR ha) gH ⟨aB rfl,rfl⟩ (qF (.of p)) ?_;refine aK 3 rfl (dR hb) gH ⟨aB rfl,rfl⟩ (qF (.of q)) ?_;refine dst 4 ?_;refine dst 5 ?_
   refine aR ?_;exact⟨(),trivial,aH h0 [0,1,2] _ _ (by decide) ⟨rfl,rfl,rfl,rfl,trivial⟩ ⟨oe rfl rfl,oe rfl rfl,oe rfl rfl,rfl⟩⟩
  refine lK 2 ?_;refine WO.one (by kernel_rfl) (lK 0 ?_)
  refine aK 1 rfl (dR ha) gH ⟨aB rfl,rfl⟩ (qF (.of p)) ?_;refine aK 3 rfl (dR hb) gH ⟨aB rfl,rfl⟩ (qF (.of q)) ?_;refine dst 4 ?_;refine dst 5 ?_;refine aR ?_
  exact⟨(),trivial,aH h0 [0,1,2] _ _ (by decide) ⟨rfl,rfl,rfl,rfl,trivial⟩ ⟨oe rfl rfl,oe rfl rfl,oe rfl rfl,rfl⟩⟩
 refine sq ?_;refine rd [0,1,2] (fun i=>[13,14].contains i) mixed ?_
 refine dv 0 ?_;refine aX 1 ?_;refine dv 2 ?_;refine aX 3 ?_;refine dv 5 ?_;refine aX 6 ?_;refine dv 7 ?_;refine aX 8 ?_;have hn1:=cT (p.num) ((q.den:Int))
 refine aK 4 rfl (qZ (eP hs) (dB hs')) sM ⟨aB rfl,aB rfl,rfl⟩ (kF ((p.num*(q.den:Int)))) ?_;have hn2:=cT ((p.den:Int)) (q.num)
 refine aK 9 rfl (qZ (dB hs) (eP hs')) sM ⟨aB rfl,aB rfl,rfl⟩ (kF (((p.den:Int)*q.num))) ?_
 refine aK 10 rfl (zE (Zn.of (k:=(p.num*(q.den:Int))) (by omega)) (Zn.of (k:=((p.den:Int)*q.num)) (by omega))) Fo ⟨aB rfl,aB rfl,rfl⟩ (.tup [qF (.of (Rat.divInt ((p.num*(q.den:Int))) (((p.den:Int)*q.num)))),.one (tv (.int .i64 (if(((p.den:Int)*q.num))=0 then 20 else 0)))]) ?_
 refine df 11 ?_;refine df 12 ?_;refine dst 13 ?_;refine dH 14 (by kernel_rfl) rfl rfl aA rfl (by trivial) ?_ (fun h=>by first | rfl | cases h)
 refine aR ?_;refine rt ?_
 exact en (.inl rfl) rfl (iJ (.cons (.agg (.cons (.id rfl) (.cons (.id rfl) (.cons (.id rfl) (.cons (.id rfl) .nil))))) (.cons (cF _) .nil))) (by decide) (fun h=>by cases h) (by have e9:(if((p.den:Int)*q.num)=0 then(20:Int)else 0)=if q=0 then 20 else 0:=(by simp only[Fp]);rw[e9,Of];rfl)
theorem Zd {xs:List Fr4}{B:Nat}(hB:2+xs.length*(B+1)≤68719476736) (hx:∀x∈xs,x.ok) (hz:∀x∈xs,Sz B x.q) (hl:xs.length≤1073741823):aD false Tryz.prog 43 [] [.one (.t (sQ false xs))] (aO (qF (.of (aC (xs.map Fr4.q))))):=by
 refine bP Tryz.func43 rfl Tryz.ntmps43 rfl aA rfl fun N9 w9 c0 h0=>?_
 have h00:((0:Int):Rat)=aC ((xs.take 0).map Fr4.q):=by simp[aC]
 refine sq ?_;refine rl ?_;refine al 0 ?_;refine nl ?_;refine sq ?_;refine rl ?_;refine ca (mO (z:=0) (by omega) (by omega)) Bb ⟨a1 rfl,rfl⟩ (qF (.of ((0:Int):Rat))) ?_
 refine al 1 ?_;refine st ?_;refine nl ?_;refine sq ?_;refine sq ?_;refine rl ?_;(iterate 3 refine o1 ?_);refine nl ?_;refine bl ?_
 refine lp (γ:=Nat) (fun k=>cG [(2,.one (.pt 0 0)),(3,.one (.pt 1 0)),(7,.one (.t (sQ false xs))),(8,.one (tv (.int .i64 ((xs.length:Nat):Int)))),(9,.one (tv (.int .i64 ((k:Nat):Int))))]) (fun k=>[(⟨48,0,[tv (.bool false),tv (.slice none 0 0),tv (.bool false),tv (.slice none 0 0)]⟩:Ob),⟨48,0,((Fr4.of (aC ((xs.take (k)).map Fr4.q))).tr false).map .t⟩].map some) (fun k=>k≤xs.length∧Sz (2+k*(B+1)) (aC ((xs.take (k)).map Fr4.q))) (fun k=>xs.length-k) 0 ⟨Nat.zero_le _,by simpa[aC]using kL (z:=0) (by omega) (by omega)⟩ (aH h0 [0,1] _ _ (by decide) ⟨rfl,rfl,rfl,rfl,rfl,trivial⟩ ⟨oe rfl rfl,bI (congrArg (fun q=>some (⟨48,0,((Fr4.of q).tr false).map .t⟩:Ob)) h00),rfl⟩) fun k hk=>?_
 have hmul:k*(B+1)≤xs.length*(B+1):=Nat.mul_le_mul hk.1 (Nat.le_refl _)
 refine sq ?_;refine rl ?_;refine o1 ?_;refine nl ?_;refine sq ?_;refine bO rfl (fun h1=>?_) (fun h1=>?_)
 ·refine sk ?_;refine sq ?_;refine bl ?_;refine sq ?_;refine rl ?_;refine o1 ?_;refine fB ((aN xs (k)).tr false) (eE xs (k:=k) (by omega)) ?_
  refine al 2 ?_;refine st ?_;refine nl ?_;have hmul2:(k+1)*(B+1)≤xs.length*(B+1):=Nat.mul_le_mul (by omega) (Nat.le_refl _)
  have hmul3:(k+1)*(B+1)=k*(B+1)+(B+1):=Nat.succ_mul k (B+1)
  refine rd [0,1,2] (fun i=>[4].contains i) mixed ?_
  refine aX 0 ?_;refine aX 1 ?_;refine aK 2 rfl (dR ⟨hx _ (aT (by omega)),rfl⟩) gH ⟨aB rfl,rfl⟩ (qF (.of (aN xs (k)).q)) ?_
  refine aK 3 rfl (Og (hk.2.mono (by omega)) ((hz _ (aT (by omega))).mono (by omega))) Od ⟨aB rfl,aB rfl,rfl⟩ (qF (.of ((aC ((xs.take (k)).map Fr4.q))+(aN xs (k)).q))) ?_
  refine dst 4 ?_;refine aR ?_;refine rl ?_;refine o1 ?_;refine WL.cast (t:=17) (u':=.int .i64 ((k+1:Nat):Int)) rfl (aJ (by omega)) ?_
  refine o1 ?_;refine nl ?_;have hst:(aC ((xs.take (k+1)).map Fr4.q))=(aC ((xs.take (k)).map Fr4.q))+(aN xs (k)).q:=by rw[oX (by omega)];exact pT _ _
  exact⟨k+1,by omega,⟨by omega,by rw[hst];exact(uI hk.2 (hz _ (aT (by omega)))).mono (by omega)⟩,aH h0 [0,1] _ _ (by decide) ⟨rfl,rfl,rfl,rfl,rfl,trivial⟩ ⟨oe rfl rfl,bI (congrArg (fun q=>some (⟨48,0,((Fr4.of q).tr false).map .t⟩:Ob)) hst.symm),rfl⟩⟩
 refine ex ?_;refine sq ?_;refine rl ?_;refine ld ?_;refine st ?_;refine nl ?_;refine rt ?_
 exact en (.inl rfl) rfl (aW (.agg (.cons (.id rfl) (.cons (.id rfl) (.cons (.id rfl) (.cons (.id rfl) .nil)))))) (by decide) (fun h=>by cases h) (by rw[List.take_of_length_le (by omega)];rfl)
theorem Kw {a:Fr4}{p:Rat}(ha:Qn a p):aD false Tryz.prog 124 [] [qF a] (aO (.tup [kO (p.num.fdiv (p.den:Int)),kO (p.num.fmod (p.den:Int)),.agg [tv (.bool false),.t (sU false (dg 4294967296 p.den))]])):=by
 refine Fq Tryz.func124 rfl Tryz.ntmps124 rfl aA rfl fun N9 w9 c0 h0=>?_
 refine sq ?_;refine rl ?_;refine bx 0 ?_;refine al 1 ?_;refine al 2 ?_;refine al 3 ?_;refine nl ?_;refine sq ?_;refine sq ?_;refine rl ?_;refine ld ?_
 refine ca (Fs ha.1) Ve ⟨aB rfl,rfl⟩ (.one (tv (.bool (dD a.s a.x a.t a.y)))) ?_;refine WL.splitb (t:=6) rfl (fun h1=>?_) (fun h1=>?_)
 ·refine o1 ?_;refine nl ?_;refine eZ rfl ?_;refine sk ?_;refine sq ?_;obtain rfl:=(ha.right h1).symm
  have hd0:(p.den:Int)≠0:=by have:=p.den_pos;omega
  refine rl ?_;refine o1 ?_;refine ld ?_;refine o1 ?_;refine ld ?_;refine fS 4 (oY (eP ha.sz).g (dB ha.sz).g hd0) zG ⟨aB rfl,aB rfl,rfl⟩ ?_;(iterate 4 refine o1 ?_)
  refine st ?_;refine st ?_;refine nl ?_;refine sq ?_;refine rd [0,3] (fun i=>[6].contains i) mixed ?_
  refine dv 2 ?_;refine aX 3 ?_;refine WO.two (i:=0) (j:=1) (by kernel_rfl) ?_ ?_
  ·refine lK 0 ?_;refine WO.two (i:=1) (j:=4) (by kernel_rfl) ?_ ?_
   ·refine lK 1 ?_;refine aZ 4 (by kernel_rfl) rfl rfl aA rfl rfl rfl rfl ⟨rfl,rfl,trivial⟩ ?_
    refine aZ 5 (by kernel_rfl) rfl rfl aA rfl rfl rfl rfl ⟨rfl,rfl,trivial⟩ ?_
    refine dst 6 ?_;refine aR ?_;refine rt ?_
    exact iK <| en (.inl rfl) rfl (oZ (.cons (.agg (.cons (.id rfl) (.cons (.sl (trs:=aP (dg 4294967296 ((p.num.fdiv (p.den:Int))).natAbs)) rfl rfl (bE _) (bB _)) .nil))) (.cons (.agg (.cons (.id rfl) (.cons (.sl (trs:=aP (dg 4294967296 ((p.num.fmod (p.den:Int))).natAbs)) rfl rfl (bE _) (bB _)) .nil))) (.cons (.agg (.cons (.id rfl) (.cons (.id rfl) .nil))) .nil)))) (by simp) (fun h=>by cases h) rfl
   refine KF 4 rfl rfl aA rfl rfl rfl rfl ⟨rfl,rfl,trivial⟩ ?_;refine WO.one (by kernel_rfl) (lK 1 ?_)
   refine aZ 5 (by kernel_rfl) rfl rfl aA rfl rfl rfl rfl ⟨rfl,rfl,trivial⟩ ?_
   refine dst 6 ?_;refine aR ?_;refine rt ?_
   exact iK <| en (.inl rfl) rfl (oZ (.cons (.agg (.cons (.id rfl) (.cons (.sl (trs:=aP (dg 4294967296 ((p.num.fdiv (p.den:Int))).natAbs)) rfl rfl (bE _) (bB _)) .nil))) (.cons (.agg (.cons (.id rfl) (.cons (.sl (trs:=aP (dg 4294967296 ((p.num.fmod (p.den:Int))).natAbs)) rfl rfl (bE _) (bB _)) .nil))) (.cons (.agg (.cons (.id rfl) (.cons (.id rfl) .nil))) .nil)))) (by simp) (fun h=>by cases h) rfl
  refine lK 1 ?_;refine WO.one (by kernel_rfl) (lK 0 ?_)
  refine aZ 4 (by kernel_rfl) rfl rfl aA rfl rfl rfl rfl ⟨rfl,rfl,trivial⟩ ?_
  refine aZ 5 (by kernel_rfl) rfl rfl aA rfl rfl rfl rfl ⟨rfl,rfl,trivial⟩ ?_
  refine dst 6 ?_;refine aR ?_;refine rt ?_
  exact iK <| en (.inl rfl) rfl (oZ (.cons (.agg (.cons (.id rfl) (.cons (.sl (trs:=aP (dg 4294967296 ((p.num.fdiv (p.den:Int))).natAbs)) rfl rfl (bE _) (bB _)) .nil))) (.cons (.agg (.cons (.id rfl) (.cons (.sl (trs:=aP (dg 4294967296 ((p.num.fmod (p.den:Int))).natAbs)) rfl rfl (bE _) (bB _)) .nil))) (.cons (.agg (.cons (.id rfl) (.cons (.id rfl) .nil))) .nil)))) (by simp) (fun h=>by cases h) rfl
 refine o1 ?_;refine nl ?_;refine kM rfl ?_;refine sq ?_;refine rl ?_;refine o1 ?_;refine o1 ?_;refine ca (gI (n:=1) (by omega) (by omega)) gJ ⟨a1 rfl,rfl⟩ (kF 1) ?_
 (iterate 3 refine st ?_);refine nl ?_;refine rt ?_;have hq9:=ha.wrong h1
 subst hq9;refine xD (Qy (j:=1) (key:=4) (e:=51) (z:=1) rfl rfl rfl (.id (.sl .nil))) ?_;refine xD (Qy (j:=2) (key:=5) (e:=51) (z:=1) rfl rfl rfl (.id (.sl .nil))) ?_
 exact iK <| en (.inl rfl) rfl (oZ (.cons (.agg (.cons (.id rfl) (.cons (.sl (trs:=aP []) rfl rfl rfl rfl) .nil))) (.cons (.agg (.cons (.id rfl) (.cons (.sl (trs:=aP []) rfl rfl rfl rfl) .nil))) (.cons (.agg (.cons (.id rfl) (.cons (.id rfl) .nil))) .nil)))) (by simp) (fun h=>by cases h) rfl
theorem Vf {k k':Int}{p:Rat}:aD false Tryz.prog 101 [⟨51,1,(aP (dg 4294967296 (k).natAbs)).map .t⟩,⟨51,1,(aP (dg 4294967296 (k').natAbs)).map .t⟩] [.agg [tv (.bool (aG (k))),.sl 0 0 (dg 4294967296 (k).natAbs).length],.agg [tv (.bool (aG (k'))),.sl 1 0 (dg 4294967296 (k').natAbs).length],.agg [tv (.bool false),.t (sU false (dg 4294967296 p.den))]] (Rt [⟨51,1,(aP (dg 4294967296 (k).natAbs)).map .t⟩,⟨51,1,(aP (dg 4294967296 (k').natAbs)).map .t⟩] (.one (tv (.bool false)))):=by
 refine Ze Tryz.func101 rfl Tryz.ntmps101 rfl aA rfl fun N9 M9 w9 c0 h0=>?_
 refine sq ?_;refine rl ?_;refine bx 2 ?_;refine bx 3 ?_;refine bx 4 ?_;refine o1 ?_;refine nl ?_;refine sq ?_;refine rl ?_;refine o1 ?_;refine nl ?_;refine rt ?_
 exact Zf (lent':=[⟨51,1,(aP (dg 4294967296 (k).natAbs)).map .t⟩,⟨51,1,(aP (dg 4294967296 (k').natAbs)).map .t⟩]) (.inl rfl) rfl (aW (cF _)) (by decide) (fun _ h=>by cases h) ⟨⟨rfl,rfl⟩,⟨rfl,rfl⟩,trivial⟩ ⟨rfl,rfl,trivial⟩ ⟨rA _,rA _,trivial⟩ (fun h=>by cases h) ⟨rfl,rfl⟩
theorem Kx (xs:List Nat):((aP xs).map AV.t).take (aP xs).length=(aP xs).map .t:=List.take_of_length_le (by simp)
theorem MR {a:Fr4}{p:Rat}(ha:Qn a p):aD true Tryz.prog 100 [] [qF a,.one (.t (.f 101 [] []))] (aO (kO (fl p))):=by
 refine bP Tryz.func100 rfl Tryz.ntmps100 rfl aA rfl fun N9 w9 c0 h0=>?_
 refine sq ?_;refine rl ?_;refine bx 0 ?_;refine al 1 ?_;refine nl ?_;refine sq ?_;refine rl ?_;refine ld ?_;refine fS 2 (Kw ha) Zh ⟨aB rfl,rfl⟩ ?_;(iterate 4 refine o1 ?_)
 refine al 4 ?_;refine al 5 ?_;refine al 6 ?_;(iterate 3 refine st ?_);refine nl ?_;refine sq ?_;refine sq ?_;refine rl ?_;refine ld ?_
 refine ca (nJ (Zg.of (k:=(p.num.fmod (p.den:Int))) (Nat.le_trans (yA p) (Nat.le_trans ha.sz.2 (by omega))))) uH ⟨mI rfl (.cons .t (.cons (.sl rfl rfl (Kx _) (bB _)) .nil)),rfl⟩ (.one (tv (.int .i64 ((p.num.fmod (p.den:Int))).sign))) ?_
 refine o1 ?_;refine o1 ?_;refine WL.split (t:=17) rfl (fun h1=>?_) (fun h1=>?_)
 ·refine o1 ?_;(iterate 3 refine ld ?_)
  refine OV 7 [2,3] [.agg [tv (.bool (aG ((p.num.fdiv (p.den:Int))))),.sl 0 0 (dg 4294967296 ((p.num.fdiv (p.den:Int))).natAbs).length],.agg [tv (.bool (aG ((p.num.fmod (p.den:Int))))),.sl 1 0 (dg 4294967296 ((p.num.fmod (p.den:Int))).natAbs).length],.agg [tv (.bool false),.t (sU false (dg 4294967296 p.den))]] rfl (Vf (k:=(p.num.fdiv (p.den:Int))) (k':=(p.num.fmod (p.den:Int))) (p:=p)) KG ⟨bI rfl,bI rfl,rfl⟩ ⟨rfl,rfl,rfl,rfl⟩ (ok:=[some ⟨51,1,(aP (dg 4294967296 ((p.num.fdiv (p.den:Int))).natAbs)).map .t⟩,some ⟨51,1,(aP (dg 4294967296 ((p.num.fmod (p.den:Int))).natAbs)).map .t⟩]) ⟨bI rfl,bI rfl,rfl⟩ ?_
  refine o1 ?_;refine nl ?_;refine eZ rfl ?_;refine sk ?_;refine sq ?_;refine rl ?_;refine ld ?_;refine st ?_;refine nl ?_;refine rt ?_
  exact en (.inl rfl) rfl (aW (.agg (.cons (.id rfl) (.cons (.sl (trs:=aP (dg 4294967296 ((p.num.fdiv (p.den:Int))).natAbs)) rfl rfl (bE _) (bB _)) .nil)))) (by decide) (fun _=>uJ _) (congrArg kO (rB p))
 (iterate 5 refine eC ?_);refine o1 ?_;refine nl ?_;refine eZ rfl ?_;refine sk ?_;refine sq ?_;refine rl ?_;refine ld ?_;refine st ?_;refine nl ?_;refine rt ?_
 exact en (.inl rfl) rfl (aW (.agg (.cons (.id rfl) (.cons (.sl (trs:=aP (dg 4294967296 ((p.num.fdiv (p.den:Int))).natAbs)) rfl rfl (bE _) (bB _)) .nil)))) (by decide) (fun _=>uJ _) (congrArg kO (rB p))
theorem Bc {a:Fr4}{p:Rat}(ha:Qn a p):aD true Tryz.prog 54 [] [qF a] (aO (kO (fl p))):=by
 refine bP Tryz.func54 rfl Tryz.ntmps54 rfl aA rfl fun N9 w9 c0 h0=>?_
 refine sq ?_;refine rl ?_;refine bx 0 ?_;refine al 1 ?_;refine nl ?_;refine sq ?_;refine rl ?_;refine ld ?_;refine fS 2 (MR ha) KH ⟨aB rfl,a1 rfl,rfl⟩ ?_
 refine st ?_;refine nl ?_;refine rt ?_
 exact en (.inl rfl) rfl (aW (.agg (.cons (.id rfl) (.cons (.sl (trs:=aP (dg 4294967296 (fl p).natAbs)) rfl rfl (bE _) (bB _)) .nil)))) (by decide) (fun _=>uJ _) rfl
theorem Qz {a:Fr4}{p:Rat}(ha:Qn a p):aD false Tryz.prog 97 [] [qF a] (aO (qF (.of (fc p)))):=by
 refine bP Tryz.func97 rfl Tryz.ntmps97 rfl aA rfl fun N9 w9 c0 h0=>?_
 refine sq ?_;refine rl ?_;refine bx 0 ?_;refine al 1 ?_;refine nl ?_;refine sq ?_;refine rl ?_;refine ld ?_
 refine ca (Kw ha) Zh ⟨aB rfl,rfl⟩ (.tup [kF (p.num.fdiv (p.den:Int)),kF (p.num.fmod (p.den:Int)),.agg [tv (.bool false),.t (sU false (dg 4294967296 p.den))]]) ?_
 (iterate 4 refine o1 ?_);refine al 2 ?_;refine al 3 ?_;refine al 4 ?_;(iterate 3 refine st ?_);refine nl ?_;refine sq ?_;refine rl ?_;refine ld ?_;refine ld ?_
 refine ca (zE (Zn.of (k:=(p.num.fmod (p.den:Int))) (Nat.le_trans (yA p) (Nat.le_trans ha.sz.2 (by omega)))) (dB ha.sz)) Fo ⟨aB rfl,aB rfl,rfl⟩ (.tup [qF (.of (Rat.divInt (p.num.fmod (p.den:Int)) (p.den:Int))),.one (tv (.int .i64 (if(p.den:Int)=0 then 20 else 0)))]) ?_
 (iterate 3 refine o1 ?_);refine al 5 ?_;refine st ?_;refine o1 ?_;refine nl ?_;refine sq ?_;refine rl ?_;refine ld ?_;refine st ?_;refine nl ?_;refine rt ?_
 exact en (.inl rfl) rfl (aW (.agg (.cons (.id rfl) (.cons (.id rfl) (.cons (.id rfl) (.cons (.id rfl) .nil)))))) (by decide) (fun h=>by cases h) (congrArg (fun q=>qF (.of q)) (Ra p))
theorem Bd (k:Int):Rat.divInt k 1=(k:Rat):=by
 have h:=qK k 1 (by omega)
 rwa[show((1:Int):Rat)=1 from rfl,Rat.mul_one]at h
theorem gQ {a:Zi}{k:Int}(ha:Zn a k):aD false Tryz.prog 44 [] [gF a] (aO (qF (.of (k:Rat)))):=by
 refine bP Tryz.func44 rfl Tryz.ntmps44 rfl aA rfl fun N9 w9 c0 h0=>?_
 refine sq ?_;refine rl ?_;refine bx 0 ?_;refine al 1 ?_;refine nl ?_;refine sq ?_;refine rd [0,1] (fun i=>[8].contains i) mixed ?_
 refine aX 0 ?_;refine WO.two (i:=1) (j:=6) (by kernel_rfl) ?_ ?_
 ·refine cY 1 rfl (gI (n:=1) (by omega) (by omega)) gJ ⟨a1 rfl,rfl⟩ (kF 1) ?_
  refine WO.two (i:=2) (j:=6) (by kernel_rfl) ?_ ?_
  ·refine cY 2 rfl (zE ha (Zn.of (k:=1) (by decide))) Fo ⟨aB rfl,aB rfl,rfl⟩ (.tup [qF (.of (Rat.divInt k 1)),.one (tv (.int .i64 (if(1:Int)=0 then 20 else 0)))]) ?_
   refine df 3 ?_;refine df 4 ?_;refine df 5 ?_;refine eQ (key:=2) 6 (by kernel_rfl) rfl rfl aA rfl ⟨rfl,rfl,trivial⟩ ?_
   refine aZ 7 (by kernel_rfl) rfl rfl aA rfl rfl rfl rfl ⟨rfl,rfl,trivial⟩ ?_
   refine dH 8 (by kernel_rfl) rfl rfl aA rfl (by trivial) ?_ (fun h=>by first | rfl | cases h)
   refine aR ?_;refine sq ?_;refine rl ?_;refine ld ?_;refine st ?_;refine nl ?_;refine rt ?_
   exact en (.inl rfl) rfl (aW (.agg (.cons (.id rfl) (.cons (.id rfl) (.cons (.id rfl) (.cons (.id rfl) .nil)))))) (by decide) (fun h=>by cases h) (congrArg (fun q=>qF (.of q)) (Bd k))
  refine bX (key:=2) 6 rfl rfl aA rfl ⟨rfl,rfl,trivial⟩ ?_
  refine aK 2 rfl (zE ha (Zn.of (k:=1) (by decide))) Fo ⟨aB rfl,aB rfl,rfl⟩ (.tup [qF (.of (Rat.divInt k 1)),.one (tv (.int .i64 (if(1:Int)=0 then 20 else 0)))]) ?_
  refine df 3 ?_;refine df 4 ?_;refine df 5 ?_;refine aZ 7 (by kernel_rfl) rfl rfl aA rfl rfl rfl rfl ⟨rfl,rfl,trivial⟩ ?_
  refine dH 8 (by kernel_rfl) rfl rfl aA rfl (by trivial) ?_ (fun h=>by first | rfl | cases h)
  refine aR ?_;refine sq ?_;refine rl ?_;refine ld ?_;refine st ?_;refine nl ?_;refine rt ?_
  exact en (.inl rfl) rfl (aW (.agg (.cons (.id rfl) (.cons (.id rfl) (.cons (.id rfl) (.cons (.id rfl) .nil)))))) (by decide) (fun h=>by cases h) (congrArg (fun q=>qF (.of q)) (Bd k))
 refine bX (key:=2) 6 rfl rfl aA rfl ⟨rfl,rfl,trivial⟩ ?_;refine aK 1 rfl (gI (n:=1) (by omega) (by omega)) gJ ⟨a1 rfl,rfl⟩ (kF 1) ?_
 refine aK 2 rfl (zE ha (Zn.of (k:=1) (by decide))) Fo ⟨aB rfl,aB rfl,rfl⟩ (.tup [qF (.of (Rat.divInt k 1)),.one (tv (.int .i64 (if(1:Int)=0 then 20 else 0)))]) ?_
 refine df 3 ?_;refine df 4 ?_;refine df 5 ?_;refine aZ 7 (by kernel_rfl) rfl rfl aA rfl rfl rfl rfl ⟨rfl,rfl,trivial⟩ ?_
 refine dH 8 (by kernel_rfl) rfl rfl aA rfl (by trivial) ?_ (fun h=>by first | rfl | cases h)
 refine aR ?_;refine sq ?_;refine rl ?_;refine ld ?_;refine st ?_;refine nl ?_;refine rt ?_
 exact en (.inl rfl) rfl (aW (.agg (.cons (.id rfl) (.cons (.id rfl) (.cons (.id rfl) (.cons (.id rfl) .nil)))))) (by decide) (fun h=>by cases h) (congrArg (fun q=>qF (.of q)) (Bd k))
def nA (a:Fr4):Bool:= !dD a.s a.x a.t a.y || decide (dF a.t a.y≠1)
theorem MS {a:Fr4}{p:Rat}(_:Qn a p) (h:dD a.s a.x a.t a.y=true):decide ((dF a.t a.y-1).sign≠0)=nA a:=by
 unfold nA
 rw[h]
 have e:((dF a.t a.y-1).sign=0)↔dF a.t a.y=1:=by rw[Int.sign_eq_zero_iff_zero];omega
 simp[e]
theorem Vg (p:Rat) (h:dD (Fr4.of p).s (Fr4.of p).x (Fr4.of p).t (Fr4.of p).y=true):nA (.of p)= !decide (p.den=1):=by
 unfold nA
 rw[h]
 have e:dF (Fr4.of p).t (Fr4.of p).y=(p.den:Int):=rC p.den
 rw[e]
 have e2:((p.den:Int)≠1)↔¬p.den=1:=by omega
 simp[e2]
theorem Oh {a:Fr4}{p:Rat}(ha:Qn a p):aD true Tryz.prog 88 [] [qF a] (aO (.one (tv (.bool (nA a))))):=by
 refine bP Tryz.func88 rfl Tryz.ntmps88 rfl aA rfl fun N9 w9 c0 h0=>?_
 refine sq ?_;refine rl ?_;refine bx 0 ?_;refine o1 ?_;refine nl ?_;refine sq ?_;refine rd [0] (fun i=>[10].contains i) mixed ?_
 refine aX 0 ?_;refine aK 1 rfl (Fs ha.1) Ve ⟨aB rfl,rfl⟩ (.one (tv (.bool (dD a.s a.x a.t a.y)))) ?_;refine WD.splitb (t:=4) rfl (fun h1=>?_) (fun h1=>?_)
 ·refine df 2 ?_;refine df 3 ?_;refine dv 4 ?_;refine aX 5 ?_;refine aK 6 rfl (gI (n:=1) (by omega) (by omega)) gJ ⟨a1 rfl,rfl⟩ (kF 1) ?_
  refine aK 7 rfl (uF (sN ha) (Zn.of (k:=1) (by decide))) xZ ⟨aB rfl,aB rfl,rfl⟩ (.one (tv (.int .i64 (dF a.t a.y-1).sign))) ?_
  refine df 8 ?_;refine df 9 ?_;refine dH 10 (by kernel_rfl) rfl rfl aA rfl (by trivial) ?_ (fun h=>by first | rfl | cases h)
  refine aR ?_;refine rt ?_;have hr9:=ha.right h1
  exact en (.inl rfl) rfl (aW (cF _)) (by decide) (fun _=>trivial) (congrArg (fun z=>FV.one (tv (.bool z))) (MS ha h1))
 refine df 2 ?_;refine df 3 ?_;refine aY 4 ?_;refine aY 5 ?_;refine aY 6 ?_;refine aY 7 ?_;refine aY 8 ?_;refine df 9 ?_
 refine dH 10 (by kernel_rfl) rfl rfl aA rfl (by trivial) ?_ (fun h=>by first | rfl | cases h)
 refine aR ?_;refine rt ?_;exact en (.inl rfl) rfl (aW (cF _)) (by decide) (fun _=>trivial) (congrArg (fun z=>FV.one (tv (.bool z))) (by unfold nA;rw[h1];rfl))
section
variable {α:Type}
def rD (dl:α→Bool):List α→Nat
 | []=>0
 | x::l=>if dl x then 0 else rD dl l+1
theorem Ft {dl:α→Bool}:∀(l:List α),rD dl l≤l.length
 | []=>Nat.le_refl _
 | x::l=>by
  have:=Ft (dl:=dl) l
  unfold rD
  split <;> simp <;> omega
theorem yB {dl:α→Bool}{d:α}:∀{l:List α}{k:Nat},k≤rD dl l→k<l.length→(dl (l.getD k d)=true→rD dl l=k)∧(dl (l.getD k d)=false→k+1≤rD dl l)
 | [],_,_,h=>by simp at h
 | x::l,0,_,_=>by
  have e:(x::l).getD 0 d=x:=rfl
  rw[e]
  unfold rD
  exact⟨fun h=>by simp[h],fun h=>by simp[h]⟩
 | x::l,k+1,h,h2=>by
  have e:(x::l).getD (k+1) d=l.getD k d:=by simp
  rw[e]
  unfold rD at h⊢
  by_cases hx:dl x=true
  ·simp[hx]at h
  simp only[if_neg hx]at h⊢
  have:=yB (dl:=dl) (d:=d) (l:=l) (k:=k) (by omega) (by simpa using h2)
  exact⟨fun h=>by rw[this.1 h],fun h=>by have:=this.2 h;omega⟩
theorem Ky {dl:α→Bool}:∀(l:List α),l.any dl=decide (rD dl l<l.length)
 | []=>rfl
 | x::l=>by
  unfold rD
  by_cases hx:dl x=true
  ·simp[hx]
  simp only[if_neg hx,List.any_cons,Ky l,List.length_cons]
  simp[hx]
def Kz (dl:α→Bool) (l:List α):Int:=if rD dl l=l.length then-1 else(rD dl l:Int)
theorem BS {dl:α→Bool}(l:List α):decide (0≤Kz dl l)=l.any dl:=by
 have h:=Ft (dl:=dl) l
 rw[Ky]
 unfold Kz
 split
 ·rw[decide_eq_decide];omega
 rw[decide_eq_decide];omega
end
section
variable {lt:Nat→Nat→Bool}{A B C D:List Nat}{x y j:Nat}
def Rw9 (D A:List Nat) (x:Nat) (B C:List Nat):Prop:=D=A.reverse++x::(B++C)
theorem Rw9.at (h:Rw9 D A x B C):nth D A.length=x:=by
 subst h
 simp[nth,List.getD_eq_getElem?_getD]
theorem Rw9.len (h:Rw9 D A x B C):A.length<D.length:=by
 subst h
 simp
theorem Rw9.ahead (h:Rw9 D (y::A) x B C):nth D A.length=y:=by
 subst h
 simp[nth,List.getD_eq_getElem?_getD]
theorem Rw9.swap (h:Rw9 D (y::A) x B C):Rw9 ((D.set (A.length+1) y).set A.length x) A x (y::B) C:=by
 unfold Rw9 at h⊢
 subst h
 rw[List.reverse_cons,List.append_assoc]
 rw[List.set_append_right _ _ (by simp),List.length_reverse]
 rw[show A.length+1-A.length=1 by omega]
 rw[List.set_append_right _ _ (by simp),List.length_reverse]
 simp
theorem Vh {xs:List Nat}{i:Nat}(h:i<xs.length):kN lt (xs.take (i+1))=iE lt (nth xs i) (kN lt (xs.take i)):=by
 rw[List.take_add_one,zH h]
 exact Vi lt _ _
theorem BT (l:List Nat):(kN lt l).length=l.length:=(Fu lt l).length_eq
theorem Rb (h:lt x y=true):(iE lt x (y::A)).reverse++B=(iE lt x A).reverse++(y::B):=by
 rw[iE,if_pos h]
 simp
theorem Rc (h:∀y A',A=y::A'→lt x y=false):iE lt x A=x::A:=by
 cases A with
 | nil=>rfl
 | cons y A'=>rw[iE,if_neg (by rw[h y A' rfl];simp)]
end
def Be (f:Nat→Rat) (i k:Nat):Int:=if(f k-f i).num.sign≠0 then(f k-f i).num.sign else if i<k then-1 else if k<i then 1 else 0
theorem BU (f:Nat→Rat) (i k:Nat):decide (Be f i k<0)=fQ f i k:=by
 have h1:=tT (f k) (f i)
 unfold Be fQ
 rw[h1]
 by_cases h2:f k<f i
 ·simp[h2]
 by_cases h3:f k=f i
 ·rw[if_neg h2,if_pos h3]
  by_cases h4:i<k
  ·simp[h3,h4]
  by_cases h5:k<i
  ·simp[h3,h4,h5]
  simp[h3,h4,h5]
 rw[if_neg h2,if_neg h3]
 simp[h2,h3]
theorem FQ {xs:List Fr4}{dl:Fr4→Bool}{fd:FuncId}{fst caps:List Tr}(hok:CallOk Tryz.prog fd) (hd:∀x∈xs,aD true Tryz.prog fd [] (dI fst++[.agg ((Fr4.tr false x).map .t)]++dI caps) (aO (.one (tv (.bool (dl x)))))) (hl:xs.length≤1073741823):aD true Tryz.prog 121 [] [.one (.t (sQ false xs)),.one (.t (.f fd fst caps))] (aO (.one (tv (.int .i64 (Kz dl xs))))):=by
 refine bP Tryz.func121 rfl Tryz.ntmps121 rfl aA rfl fun N w c0 h0=>?_
 refine sq ?_;refine rl ?_;refine o1 ?_;refine nl ?_;refine sq ?_;refine sq ?_;refine rl ?_;(iterate 3 refine o1 ?_);refine nl ?_;refine bl ?_
 refine lp (γ:=Nat) (fun k=>cG [(0,.one (.t (sQ false xs))),(1,.one (.t (.f fd fst caps))),(7,.one (tv (.int .i64 ((xs.length:Nat):Int)))),(8,.one (tv (.int .i64 ((k:Nat):Int))))]) (fun k=>[].map some) (fun k=>k≤xs.length∧k≤rD dl xs) (fun k=>xs.length-k) 0 (⟨Nat.zero_le _,Nat.zero_le _⟩) (aH h0 [] _ _ (by decide) ⟨rfl,rfl,rfl,rfl,trivial⟩ rfl) fun k hk=>?_
 refine sq ?_;refine rl ?_;refine o1 ?_;refine nl ?_;refine sq ?_;refine bO rfl (fun h1=>?_) (fun h1=>?_)
 ·refine sk ?_;refine sq ?_;refine bl ?_;refine sq ?_;refine rl ?_;refine o1 ?_;refine o1 ?_;refine nl ?_;refine sq ?_;refine rl ?_;(iterate 4 refine o1 ?_)
  refine fB ((Fr4.tr false) (aN xs (k))) (dP (f:=(Fr4.tr false)) (z:=4) (o:=0) (fun _=>rfl) (dN (by omega)) (Nat.le_of_ble_eq_true rfl) rfl) ?_
  refine ce 0 [.agg ((Fr4.tr false (aN xs (k))).map .t)] rfl (hd (aN xs (k)) (aT (by omega))) hok ⟨rfl,rfl⟩ ?_
  refine nl ?_;refine xE rfl (fun h2=>?_) (fun h2=>?_)
  ·refine sq ?_;refine rl ?_;refine o1 ?_;refine o1 ?_;refine nl ?_;refine rt ?_;have hx9:=(yB hk.2 (by omega)).1 h2
   exact en (.inl rfl) rfl (aW (cF _)) (by decide) (fun _=>trivial) (congrArg (fun z=>FV.one (tv (.int .i64 z))) (by unfold Kz;rw[hx9,if_neg (by omega)]))
  refine sk ?_;refine rl ?_;refine o1 ?_;refine WL.cast (t:=18) (u':=.int .i64 ((k+1:Nat):Int)) rfl (aJ (by omega)) ?_
  refine o1 ?_;refine nl ?_;exact⟨k+1,by omega,⟨by omega,(yB hk.2 (by omega)).2 h2⟩,aH h0 [] _ _ (by decide) ⟨rfl,rfl,rfl,rfl,trivial⟩ rfl⟩
 refine ex ?_;refine sq ?_;refine rl ?_;refine o1 ?_;refine nl ?_;refine rt ?_;have hx9:=Ft (dl:=dl) xs
 exact en (.inl rfl) rfl (aW (cF _)) (by decide) (fun _=>trivial) (congrArg (fun z=>FV.one (tv (.int .i64 z))) (by unfold Kz;rw[if_pos (by omega)]))
theorem Re {xs:List Fr4}{dl:Fr4→Bool}{fd:FuncId}{fst caps:List Tr}(hok:CallOk Tryz.prog fd) (hd:∀x∈xs,aD true Tryz.prog fd [] (dI fst++[.agg ((Fr4.tr false x).map .t)]++dI caps) (aO (.one (tv (.bool (dl x)))))) (hl:xs.length≤1073741823):aD true Tryz.prog 87 [] [.one (.t (sQ false xs)),.one (.t (.f fd fst caps))] (aO (.one (tv (.bool (xs.any dl))))):=by
 refine bP Tryz.func87 rfl Tryz.ntmps87 rfl aA rfl fun N w c0 h0=>?_
 refine sq ?_;refine rl ?_;refine o1 ?_;refine nl ?_;refine sq ?_;refine rl ?_;refine o1 ?_;refine o1 ?_
 refine ca (FQ hok hd hl) KI ⟨a1 rfl,a1 rfl,rfl⟩ (.one (tv (.int .i64 (Kz dl xs)))) ?_;refine o1 ?_;refine o1 ?_;refine nl ?_;refine rt ?_
 exact en (.inl rfl) rfl (aW (cF _)) (by decide) (fun _=>trivial) (congrArg (fun z=>FV.one (tv (.bool z))) (BS xs))
theorem yC {l:List Nat}{k:Nat}(h:k<l.length):nth l k∈l:=List.mem_of_getElem? (zH h)
theorem Fv {l:List Nat}{i j x y z:Nat}(h:z∈(l.set i x).set j y):z∈l∨z=x∨z=y:=by
 rcases List.mem_or_eq_of_mem_set h with h | h
 ·rcases List.mem_or_eq_of_mem_set h with h | h
  ·exact .inl h
  exact .inr (.inl h)
 exact .inr (.inr h)
section
variable {lt:Nat→Nat→Bool}{A B C D:List Nat}{x y i:Nat}{xs:List Nat}
theorem Rw9.hd (h:Rw9 D A x B C) (hp:0<A.length):nth D (A.length-1)=A.headD 0:=by
 cases A with
 | nil=>simp at hp
 | cons y A=>exact h.ahead
theorem Rw9.swap9 (h:Rw9 D A x B C) (hp:0<A.length):Rw9 ((D.set (A.length) (nth D (A.length-1))).set (A.length-1) (nth D (A.length))) A.tail x (A.headD 0::B) C:=by
 have h1:=h.hd hp
 have h2:=h.at
 rw[h1,h2]
 cases A with
 | nil=>simp at hp
 | cons y A=>exact h.swap
theorem La (hp:0<A.length) (h:lt x (A.headD 0)=true):(iE lt x A.tail).reverse++(A.headD 0::B)=(iE lt x A).reverse++B:=by
 cases A with
 | nil=>simp at hp
 | cons y A=>exact(Rb h).symm
theorem BV (xs:List Nat):xs=(kN lt (xs.take 1)).reverse++xs.drop 1:=by
 cases xs with
 | nil=>rfl
 | cons x l=>rfl
theorem Rf (hi:i<xs.length) (h:D=(kN lt (xs.take i)).reverse++xs.drop i):Rw9 D (kN lt (xs.take i)) (nth xs i) [] (xs.drop (i+1)):=by
 unfold Rw9
 rw[h,List.nil_append]
 have e:=zH hi
 rw[List.getElem?_eq_getElem hi]at e
 rw[←Option.some.inj e,List.getElem_cons_drop]
theorem Fw (hi:i<xs.length) (h:Rw9 D A (nth xs i) B (xs.drop (i+1))) (hQ:(iE lt (nth xs i) A).reverse++B=(iE lt (nth xs i) (kN lt (xs.take i))).reverse) (hs:∀y A',A=y::A'→lt (nth xs i) y=false):D=(kN lt (xs.take (i+1))).reverse++xs.drop (i+1):=by
 rw[Vh hi,←hQ,Rc hs]
 unfold Rw9 at h
 rw[h]
 simp
end
theorem Vj {xs:List Nat}{m:Nat}{cf:Nat→Nat→Int}{lt:Nat→Nat→Bool}{fd:FuncId}{fst caps:List Tr}(hok:CallOk Tryz.prog fd) (hd:∀x y,x<m→y<m→aD true Tryz.prog fd [] (dI fst++[.one (tv (.int .i64 ((x:Nat):Int))),.one (tv (.int .i64 ((y:Nat):Int)))]++dI caps) (aO (.one (tv (.int .i64 (cf x y)))))) (hlt:∀x y,decide (cf x y<0)=lt x y) (hm:∀z∈xs,z<m) (hl:xs.length≤1073741823):aD false Tryz.prog 137 [⟨3,1,(cK xs).map .t⟩] [.one (.sl 0 0 xs.length),.one (tv (.int .i64 ((0:Nat):Int))),.one (tv (.int .i64 ((xs.length:Nat):Int))),.one (.t (.f fd fst caps))] (Rt [⟨3,1,(cK (iW lt xs)).map .t⟩] (.tup [])):=by
 refine Ze Tryz.func137 rfl Tryz.ntmps137 rfl aA rfl fun N9 M9 w9 c0 h0=>?_
 refine sq ?_;refine rl ?_;refine o1 ?_;refine o1 ?_;refine WL.cast (t:=11) (u':=.int .i64 ((0+1:Nat):Int)) rfl (aJ (by omega)) ?_
 refine o1 ?_;refine nl ?_;refine bl ?_
 refine lp (γ:=Nat×List Nat) (fun s=>cG [(0,.one (.sl 0 0 (xs.length))),(1,.one (tv (.int .i64 ((0:Nat):Int)))),(2,.one (tv (.int .i64 ((xs.length:Nat):Int)))),(3,.one (.t (.f fd fst caps))),(8,.one (tv (.int .i64 ((s.1:Nat):Int))))]) (fun s=>[(⟨3,1,(cK s.2).map .t⟩:Ob)].map some) (fun s=>1≤s.1∧s.2=(kN lt (xs.take s.1)).reverse++xs.drop s.1∧s.2.length=xs.length∧∀z∈s.2,z<m) (fun s=>xs.length-s.1) (1,xs) ⟨Nat.le_refl _,BV xs,rfl,hm⟩ (Dh h0 [0] _ _ (by decide) rfl ⟨rfl,rfl,rfl,rfl,rfl,trivial⟩ ⟨bI rfl,rfl⟩) ?_
 rintro⟨i,D0⟩ ⟨hi,hE,hDl0,hDm0⟩;dsimp only at hi hE hDl0 hDm0⊢;refine sq ?_;refine sq ?_;refine rl ?_;(iterate 3 refine o1 ?_);refine nl ?_;refine bO rfl (fun h1=>?_) (fun h1=>?_)
 ·refine sk ?_;refine sq ?_;refine bl ?_;refine sq ?_;have hR0:Rw9 D0 (kN lt (xs.take i)) (nth xs i) [] (xs.drop (i+1)):=Rf (by omega) hE
  have hlen0:(kN lt (xs.take i)).length=i:=by rw[BT,List.length_take];omega
  refine rl ?_;refine o1 ?_;refine o1 ?_;refine nl ?_;refine bl ?_;have hnx:nth xs i<m:=hm _ (yC (by omega))
  refine lp (γ:=List Nat×List Nat×List Nat) (fun s=>cG [(0,.one (.sl 0 0 (xs.length))),(1,.one (tv (.int .i64 ((0:Nat):Int)))),(2,.one (tv (.int .i64 ((xs.length:Nat):Int)))),(3,.one (.t (.f fd fst caps))),(8,.one (tv (.int .i64 ((i:Nat):Int)))),(9,.one (tv (.int .i64 ((s.1.length:Nat):Int))))]) (fun s=>[(⟨3,1,(cK s.2.2).map .t⟩:Ob)].map some) (fun s=>Rw9 s.2.2 s.1 (nth xs i) s.2.1 (xs.drop (i+1))∧(iE lt (nth xs i) s.1).reverse++s.2.1=(iE lt (nth xs i) (kN lt (xs.take i))).reverse∧s.2.2.length=xs.length∧∀z∈s.2.2,z<m) (fun s=>s.1.length) ((kN lt (xs.take i)),[],D0) ⟨hR0,by simp,hDl0,hDm0⟩ (Dh h0 [0] _ _ (by decide) rfl ⟨rfl,rfl,rfl,rfl,rfl,Zj (by dsimp only;rw[hlen0]),trivial⟩ ⟨bI rfl,rfl⟩) ?_
  rintro⟨A,B,D⟩ ⟨hR,hQ,hDl,hD2⟩;dsimp only at hR hQ hDl hD2⊢;have hAl:=hR.len
  refine sq ?_;refine sq ?_;refine rd [0] (fun i=>[].contains i) mixed ?_
  refine dv 0 ?_;refine dv 1 ?_;refine dv 2 ?_;refine dv 3 ?_;refine WD.split (t:=21) rfl rfl (fun h2=>?_) (fun h2=>?_)
  ·refine dv 4 ?_;refine dv 5 ?_;refine dv 6 ?_;refine dv 7 ?_;refine Oi 8 (kP D (k:=A.length) (by omega)) ?_
   refine dv 9 ?_;refine dv 10 ?_;refine dv 11 ?_;refine WD.cast (t:=29) (u':=.int .i64 ((A.length-1:Nat):Int)) rfl (aJ (by omega)) ?_
   refine dv 12 ?_;refine Oi 13 (kP D (k:=A.length-1) (by omega)) ?_
   refine FO 14 1 [.one (tv (.int .i64 ((nth D (A.length):Nat):Int))),.one (tv (.int .i64 ((nth D (A.length-1):Nat):Int)))] rfl rfl (hd (nth D (A.length)) (nth D (A.length-1)) (hD2 _ (yC (by omega))) (hD2 _ (yC (by omega)))) hok ⟨rfl,rfl,rfl⟩ ?_
   refine df 15 ?_;refine df 16 ?_;refine aR ?_;refine bO rfl (fun h3=>?_) (fun h3=>?_)
   ·refine sk ?_;refine sq ?_;refine bl ?_;refine rd [] (fun i=>[17].contains i) mixed ?_
    refine dv 0 ?_;refine dv 1 ?_;refine dv 2 ?_;refine dv 3 ?_;refine dv 4 ?_;refine WD.cast (t:=41) (u':=.int .i64 ((A.length-1:Nat):Int)) rfl (aJ (by omega)) ?_
    refine dv 5 ?_;refine dv 6 ?_;refine dv 7 ?_;refine WD.cast (t:=44) (u':=.int .i64 ((A.length-1:Nat):Int)) rfl (aJ (by omega)) ?_
    refine dv 8 ?_;refine dv 10 ?_;refine dv 11 ?_;refine dv 12 ?_;refine WO.two (i:=9) (j:=13) (by kernel_rfl) ?_ ?_
    ·refine Oj 9 (kP D (k:=A.length-1) (by omega)) ?_
     refine WO.one (by kernel_rfl) (Oj 13 (kP D (k:=A.length) (by omega)) ?_)
     refine dv 14 ?_;refine Ok 15 (jV D (k:=A.length) (v:=nth D (A.length-1)) (by omega)) (lV D (by omega)) ?_
     refine dv 16 ?_
     refine Fx 17 (jV (D.set (A.length) (nth D (A.length-1))) (k:=A.length-1) (v:=nth D (A.length)) (by simp only[List.length_set];omega)) (lV (D.set (A.length) (nth D (A.length-1))) (by simp only[List.length_set];omega)) ?_
     refine aR ?_;refine rl ?_;refine o1 ?_;refine o1 ?_;refine WL.cast (t:=36) (u':=.int .i64 ((A.length-1:Nat):Int)) rfl (aJ (by omega)) ?_
     refine o1 ?_;refine nl ?_;have hlt9:lt (nth xs i) (A.headD 0)=true:=by rw[←hlt,←hR.at,←hR.hd (by omega)];exact decide_eq_true h3
     exact⟨(A.tail,A.headD 0::B,(D.set (A.length) (nth D (A.length-1))).set (A.length-1) (nth D (A.length))),by dsimp only;rw[List.length_tail];omega,⟨hR.swap9 (by omega),(La (by omega) hlt9).trans hQ,by rw[List.length_set,List.length_set];exact hDl,fun z hz=>by rcases Fv hz with h9 | rfl | rfl;exact hD2 _ h9;exact hD2 _ (yC (by omega));exact hD2 _ (yC (by omega))⟩,Dh h0 [0] _ _ (by decide) rfl ⟨rfl,rfl,rfl,rfl,rfl,Zj (by rw[List.length_tail]),trivial⟩ ⟨bI rfl,rfl⟩⟩
    refine Oj 13 (kP D (k:=A.length) (by omega)) ?_
    refine WO.one (by kernel_rfl) (Oj 9 (kP D (k:=A.length-1) (by omega)) ?_)
    refine dv 14 ?_;refine Ok 15 (jV D (k:=A.length) (v:=nth D (A.length-1)) (by omega)) (lV D (by omega)) ?_
    refine dv 16 ?_
    refine Fx 17 (jV (D.set (A.length) (nth D (A.length-1))) (k:=A.length-1) (v:=nth D (A.length)) (by simp only[List.length_set];omega)) (lV (D.set (A.length) (nth D (A.length-1))) (by simp only[List.length_set];omega)) ?_
    refine aR ?_;refine rl ?_;refine o1 ?_;refine o1 ?_;refine WL.cast (t:=36) (u':=.int .i64 ((A.length-1:Nat):Int)) rfl (aJ (by omega)) ?_
    refine o1 ?_;refine nl ?_;have hlt9:lt (nth xs i) (A.headD 0)=true:=by rw[←hlt,←hR.at,←hR.hd (by omega)];exact decide_eq_true h3
    exact⟨(A.tail,A.headD 0::B,(D.set (A.length) (nth D (A.length-1))).set (A.length-1) (nth D (A.length))),by dsimp only;rw[List.length_tail];omega,⟨hR.swap9 (by omega),(La (by omega) hlt9).trans hQ,by rw[List.length_set,List.length_set];exact hDl,fun z hz=>by rcases Fv hz with h9 | rfl | rfl;exact hD2 _ h9;exact hD2 _ (yC (by omega));exact hD2 _ (yC (by omega))⟩,Dh h0 [0] _ _ (by decide) rfl ⟨rfl,rfl,rfl,rfl,rfl,Zj (by rw[List.length_tail]),trivial⟩ ⟨bI rfl,rfl⟩⟩
   refine ex ?_;have hfin:D=(kN lt (xs.take (i+1))).reverse++xs.drop (i+1):=by
    refine Fw (by omega) hR hQ ?_
    intro y A9 e9;subst e9;have hy9:=hR.hd (by simp)
    have hx9:=hR.at
    rw[←hlt];exact decide_eq_false (fun h9=>h3 (by rw[hx9,hy9];exact h9))
   refine rl ?_;refine o1 ?_;refine o1 ?_;refine WL.cast (t:=16) (u':=.int .i64 ((i+1:Nat):Int)) rfl (aJ (by omega)) ?_
   refine o1 ?_;refine nl ?_;exact⟨(i+1,D),by dsimp only;omega,⟨by omega,hfin,hDl,hD2⟩,Dh h0 [0] _ _ (by decide) rfl ⟨rfl,rfl,rfl,rfl,rfl,trivial⟩ ⟨bI rfl,rfl⟩⟩
  refine aY 4 ?_;refine aY 5 ?_;refine aY 6 ?_;refine aY 7 ?_;refine aY 8 ?_;refine aY 9 ?_;refine aY 10 ?_;refine aY 11 ?_;refine aY 12 ?_;refine aY 13 ?_;refine aY 14 ?_
  refine aY 15 ?_;refine dv 16 ?_;refine aR ?_;refine eZ rfl ?_;refine ex ?_;have hfin:D=(kN lt (xs.take (i+1))).reverse++xs.drop (i+1):=by
   refine Fw (by omega) hR hQ ?_
   intro y A9 e9;subst e9;have hy9:=hR.hd (by simp)
   have hx9:=hR.at
   exact absurd (show((0:Nat):Int)<(((y::A9).length:Nat):Int) by rw[List.length_cons];omega) h2
  refine rl ?_;refine o1 ?_;refine o1 ?_;refine WL.cast (t:=16) (u':=.int .i64 ((i+1:Nat):Int)) rfl (aJ (by omega)) ?_
  refine o1 ?_;refine nl ?_;exact⟨(i+1,D),by dsimp only;omega,⟨by omega,hfin,hDl,hD2⟩,Dh h0 [0] _ _ (by decide) rfl ⟨rfl,rfl,rfl,rfl,rfl,trivial⟩ ⟨bI rfl,rfl⟩⟩
 refine ex ?_;have hend:D0=iW lt xs:=by rw[hE,List.take_of_length_le (by omega),List.drop_of_length_le (by omega),List.append_nil];rfl
 exact Zf (lent':=[⟨3,1,(cK (iW lt xs)).map .t⟩]) (.inr rfl) rfl FS (by decide) (fun _ h=>by cases h) ⟨⟨rfl,rfl⟩,trivial⟩ ⟨congrArg (fun l=>some (⟨3,1,(cK l).map .t⟩:Ob)) hend,trivial⟩ ⟨rA _,trivial⟩ (fun h=>by cases h) ⟨rfl,rfl⟩
theorem Vk {xs:List Nat}{m:Nat}{cf:Nat→Nat→Int}{lt:Nat→Nat→Bool}{fd:FuncId}{fst caps:List Tr}(hok:CallOk Tryz.prog fd) (hd:∀x y,x<m→y<m→aD true Tryz.prog fd [] (dI fst++[.one (tv (.int .i64 ((x:Nat):Int))),.one (tv (.int .i64 ((y:Nat):Int)))]++dI caps) (aO (.one (tv (.int .i64 (cf x y)))))) (hlt:∀x y,decide (cf x y<0)=lt x y) (hm:∀z∈xs,z<m) (hl:xs.length<20):aD false Tryz.prog 123 [⟨3,1,(cK xs).map .t⟩] [.one (.sl 0 0 xs.length),.one (tv (.int .i64 ((xs.length:Nat):Int))),.one (.t (.f fd fst caps))] (Rt [⟨3,1,(cK (iW lt xs)).map .t⟩] (.tup [])):=by
 refine Ze Tryz.func123 rfl Tryz.ntmps123 rfl aA rfl fun N9 M9 w9 c0 h0=>?_
 refine sq ?_;refine rl ?_;refine o1 ?_;refine nl ?_;refine sq ?_;refine rl ?_;(iterate 3 refine o1 ?_);refine nl ?_;refine sq ?_;refine bl ?_
 refine lp (γ:=Unit) (fun _=>cG [(0,.one (.sl 0 0 (xs.length))),(1,.one (tv (.int .i64 ((xs.length:Nat):Int)))),(2,.one (.t (.f fd fst caps))),(6,.one (tv (.int .i64 ((20:Nat):Int)))),(7,.one (tv (.int .i64 ((0:Nat):Int)))),(8,.one (tv (.int .i64 ((20:Nat):Int))))]) (fun _=>[(⟨3,1,(cK xs).map .t⟩:Ob)].map some) (fun _=>True) (fun _=>0) () trivial (Dh h0 [0] _ _ (by decide) rfl ⟨rfl,rfl,rfl,rfl,rfl,rfl,trivial⟩ ⟨bI rfl,rfl⟩) fun _ _=>?_
 refine sq ?_;refine sq ?_;refine rl ?_;(iterate 3 refine o1 ?_);refine nl ?_;refine bO rfl (fun h1=>?_) (fun h1=>?_)
 ·exact absurd h1 (by omega)
 refine ex ?_;refine sq ?_;refine rl ?_;(iterate 4 refine o1 ?_)
 refine cl 1 [0] (Vj hok hd hlt hm (by omega)) KJ ⟨bI rfl,rfl⟩ ⟨rfl,rfl,rfl,rfl,rfl⟩ (ok:=[some ⟨3,1,(cK (iW lt xs)).map .t⟩]) ⟨bI rfl,rfl⟩ ?_
 refine nl ?_;refine bl ?_
 refine lp (γ:=Unit) (fun _=>cG [(0,.one (.sl 0 0 (xs.length))),(1,.one (tv (.int .i64 ((xs.length:Nat):Int)))),(2,.one (.t (.f fd fst caps))),(6,.one (tv (.int .i64 ((20:Nat):Int))))]) (fun _=>[(⟨3,1,(cK (iW lt xs)).map .t⟩:Ob)].map some) (fun _=>True) (fun _=>0) () trivial (Dh h0 [0] _ _ (by decide) rfl ⟨rfl,rfl,rfl,rfl,trivial⟩ ⟨bI rfl,rfl⟩) fun _ _=>?_
 refine sq ?_;refine sq ?_;refine rl ?_;(iterate 3 refine o1 ?_);refine nl ?_;refine bO rfl (fun h2=>?_) (fun h2=>?_)
 ·exact absurd h2 (by omega)
 refine ex ?_
 exact Zf (lent':=[⟨3,1,(cK (iW lt xs)).map .t⟩]) (.inr rfl) rfl FS (by decide) (fun _ h=>by cases h) ⟨⟨rfl,rfl⟩,trivial⟩ ⟨rfl,trivial⟩ ⟨rA _,trivial⟩ (fun h=>by cases h) ⟨rfl,rfl⟩
theorem FT {xs:List Nat}{m:Nat}{cf:Nat→Nat→Int}{lt:Nat→Nat→Bool}{fd:FuncId}{fst caps:List Tr}(hok:CallOk Tryz.prog fd) (hd:∀x y,x<m→y<m→aD true Tryz.prog fd [] (dI fst++[.one (tv (.int .i64 ((x:Nat):Int))),.one (tv (.int .i64 ((y:Nat):Int)))]++dI caps) (aO (.one (tv (.int .i64 (cf x y)))))) (hlt:∀x y,decide (cf x y<0)=lt x y) (hm:∀z∈xs,z<m) (hl:xs.length<20):aD false Tryz.prog 94 [⟨3,1,(cK xs).map .t⟩] [.one (.sl 0 0 xs.length),.one (.t (.f fd fst caps))] (Rt [⟨3,1,(cK (iW lt xs)).map .t⟩] (.tup [])):=by
 refine Ze Tryz.func94 rfl Tryz.ntmps94 rfl aA rfl fun N9 M9 w9 c0 h0=>?_
 refine rl ?_;(iterate 4 refine o1 ?_);refine cl 1 [0] (Vk hok hd hlt hm hl) KK ⟨bI rfl,rfl⟩ ⟨rfl,rfl,rfl,rfl⟩ (ok:=[some ⟨3,1,(cK (iW lt xs)).map .t⟩]) ⟨bI rfl,rfl⟩ ?_
 refine nl ?_
 exact Zf (lent':=[⟨3,1,(cK (iW lt xs)).map .t⟩]) (.inr rfl) rfl FS (by decide) (fun _ h=>by cases h) ⟨⟨rfl,rfl⟩,trivial⟩ ⟨rfl,trivial⟩ ⟨rA _,trivial⟩ (fun h=>by cases h) ⟨rfl,rfl⟩
theorem Lb {x:Int}:aD true Tryz.prog 125 [] [.one (tv (.int .i64 x))] (aO (.one (tv (.bool false)))):=by
 refine bP Tryz.func125 rfl Tryz.ntmps125 rfl aA rfl fun N9 w9 c0 h0=>?_
 refine sq ?_;refine rl ?_;refine o1 ?_;refine nl ?_;refine sq ?_;refine rl ?_;(iterate 3 refine o1 ?_)
 refine WL.cast (t:=5) (u':=.bool false) rfl (congrArg Value.bool (decide_eq_false fun h=>h rfl)) ?_
 refine o1 ?_;refine nl ?_;refine rt ?_;exact lL (.inl rfl) rfl (rfl)
theorem Rg {x y:Int}:aD true Tryz.prog 98 [] [.one (tv (.int .i64 x)),.one (tv (.int .i64 y))] (aO (.one (tv (.int .i64 (if x<y then-1 else if y<x then 1 else 0))))):=by
 refine bP Tryz.func98 rfl Tryz.ntmps98 rfl aA rfl fun N9 w9 c0 h0=>?_
 refine sq ?_;refine rl ?_;refine o1 ?_;refine nl ?_;refine sq ?_;refine rl ?_;refine o1 ?_;refine ca (Lb) Zk ⟨a1 rfl,rfl⟩ (.one (tv (.bool false))) ?_;refine o1 ?_;refine nl ?_
 refine sq ?_;refine rl ?_;refine o1 ?_;refine ca (Lb) Zk ⟨a1 rfl,rfl⟩ (.one (tv (.bool false))) ?_;refine o1 ?_;refine nl ?_;refine sq ?_;refine sq ?_;refine rl ?_;refine o1 ?_
 refine nl ?_;refine eZ rfl ?_;refine sk ?_;refine sq ?_;refine sq ?_;refine rl ?_;refine o1 ?_;refine nl ?_;refine eZ rfl ?_;refine sk ?_;refine sq ?_;refine sq ?_;refine rl ?_
 (iterate 3 refine o1 ?_);refine nl ?_;refine bO rfl (fun h1=>?_) (fun h1=>?_)
 ·refine sq ?_;refine rl ?_;refine o1 ?_;refine nl ?_;refine rt ?_
  exact en (.inl rfl) rfl (aW (cF _)) (by decide) (fun _=>trivial) (congrArg (fun z=>FV.one (tv (.int .i64 z))) (by rw[if_pos h1]))
 refine sk ?_;refine sq ?_;refine sq ?_;refine rl ?_;(iterate 3 refine o1 ?_);refine nl ?_;refine bO rfl (fun h2=>?_) (fun h2=>?_)
 ·refine sq ?_;refine rl ?_;refine o1 ?_;refine nl ?_;refine rt ?_
  exact en (.inl rfl) rfl (aW (cF _)) (by decide) (fun _=>trivial) (congrArg (fun z=>FV.one (tv (.int .i64 z))) (by rw[if_neg h1];rw[if_pos h2]))
 refine sk ?_;refine sq ?_;refine rl ?_;refine o1 ?_;refine nl ?_;refine rt ?_
 exact en (.inl rfl) rfl (aW (cF _)) (by decide) (fun _=>trivial) (congrArg (fun z=>FV.one (tv (.int .i64 z))) (by rw[if_neg h1];rw[if_neg h2]))
section
variable {x:Cx}{g:Nat→FV}{ob ob':List (Option Ob)}{cs:List Co}{ts:Array Value}{W:World}{T:List (Nat×TI)}{Q:Post}{ops:Array Oper}{rest:List Oper}{d:Nat}{ty:TypeId}{pos:String}{af:Array Edge}{gd:Option (Nat×Bool)}
theorem BW {P:Program}{ρ:Operand→Value}{dd:Option Nat}{t:TypeId}{y:Operand}{k:IntKind}{n:Int}(hy:ρ y=.int k n):(execOp ρ ⟨dd,.unOp .neg t y,ty,pos,af,gd⟩).run P W=.ok (.value (.int k (k.wrap (0-n)))) W:=by
 simp[execOp,hy,Op.unary,Op.intArith]
theorem OW {t:Nat}{a:Operand}{k:IntKind}{n:Int}(kk:WL x ops rest (bG g d (.one (tv (.int k (k.wrap (0-n)))))) ob Q) (hw:bH ops x.n g gd=some true:=by rfl) (ha:lk x.n g a=.one (tv (.int k n)):=by rfl):WL x ops (⟨some d,.unOp .neg t a,ty,pos,af,gd⟩::rest) g ob Q:=by
 refine gX (Wr:=[]) (R:=fun g' ob'=>g'=bG g d (.one (tv (.int k (k.wrap (0-n)))))∧ob'=ob) (fun cs ts W hR K Q kk=>?_) hw (by rintro _ _ ⟨rfl,rfl⟩;exact kk)
 have e1:=hR.lk a
 rw[ha]at e1
 have e1:=bD e1
 exact eT (BW e1) (kk _ _ _ _ _ ⟨rfl,rfl⟩ (hR.put d (v:=.one (tv (.int k (k.wrap (0-n))))) (gP (by simp[tv,AR,FR]))) (.put d _))
theorem Rh {a b:Nat}(ha:a<4294967296) (hb:b<4294967296):IntKind.u64.wrap ((BitVec.ofInt IntKind.u64.bits (a:Int)||| BitVec.ofInt IntKind.u64.bits ((b*4294967296:Nat):Int)).toNat:Int)=((a+b*4294967296:Nat):Int):=by
 have h1:b*4294967296 ||| a=b*4294967296+a:=by
  have:=Nat.shiftLeft_add_eq_or_of_lt (i:=32) (by simpa using ha) b
  rw[Nat.shiftLeft_eq]at this
  simpa using this.symm
 have e:IntKind.u64.bits=64:=rfl
 rw[e]
 have h2:(BitVec.ofInt 64 (a:Int)||| BitVec.ofInt 64 ((b*4294967296:Nat):Int)).toNat=a+b*4294967296:=by
  rw[BitVec.toNat_or,BitVec.ofInt_natCast,BitVec.ofInt_natCast,BitVec.toNat_ofNat,BitVec.toNat_ofNat,Nat.mod_eq_of_lt (by omega),Nat.mod_eq_of_lt (by omega),Nat.or_comm,h1,Nat.add_comm]
 rw[h2]
 simp[IntKind.wrap,IntKind.signed,IntKind.bits]
 omega
end
def lB (k:Int):Bool:=decide (-9223372036854775808≤k∧k≤9223372036854775807)
theorem BX {k:Int}(h:lB k=true):(dg 4294967296 k.natAbs).length≤2:=by
 have:=of_decide_eq_true h
 refine cH (by omega) ?_
 show k.natAbs<18446744073709551616
 omega
theorem BY {k:Int}(h:2<(dg 4294967296 k.natAbs).length):lB k=false:=by
 cases hq:lB k with
 | false=>rfl
 | true=>have:=BX hq;omega
theorem BZ {X:List Nat}{k:Nat}(hX:Lim 4294967296 X) (hk:k<2):IntKind.u64.wrap ((BitVec.ofInt IntKind.u64.bits ((vl 4294967296 (X.take k):Nat):Int)||| BitVec.ofInt IntKind.u64.bits ((nth X k*4294967296^k:Nat):Int)).toNat:Int)=((vl 4294967296 (X.take (k+1)):Nat):Int):=by
 have h0:=hX.nth (by omega) 0
 have h1:=hX.nth (by omega) 1
 rcases(show k=0∨k=1 by omega)with rfl | rfl
 ·have e:=Rh (a:=nth X 0) (b:=0) h0 (by omega)
  rw[bJ]
  simp only[List.take_zero,Ex,Nat.pow_zero,Nat.mul_one,Nat.one_mul,Nat.zero_add,Nat.zero_mul,Nat.add_zero]at e⊢
  have e2:IntKind.u64.bits=64:=rfl
  rw[e2]at e⊢
  rw[BitVec.or_comm]
  exact e
 have e:=Rh (a:=nth X 0) (b:=nth X 1) h0 h1
 have e1:vl 4294967296 (X.take 1)=nth X 0:=by
  have:=bJ 4294967296 X 0
  simpa[Ex]using this
 have e2:=bJ 4294967296 X 1
 rw[e1,Nat.pow_one,Nat.mul_comm]at e2
 rw[e1,e2,Nat.pow_one]
 exact e
theorem KL {x k:Nat}(hx:x<4294967296) (hk:k<2):IntKind.u64.wrap ((x:Int)*2^(min ((32*k:Nat):Int).toNat IntKind.u64.bits))=((x*4294967296^k:Nat):Int):=by
 rcases(show k=0∨k=1 by omega)with rfl | rfl <;> simp[IntKind.wrap,IntKind.bits,IntKind.signed] <;> omega
theorem FU {u:Nat}(h:u≤9223372036854775808):IntKind.i64.wrap (IntKind.u64.wrap (0-(u:Int)))=-(u:Int):=by
 simp[IntKind.wrap,IntKind.bits,IntKind.signed]
 omega
theorem OX {x:Cx}{g:Nat→FV}{ob:List (Option Ob)}{Q:Post}{ops:Array Oper}{rest:List Oper}{d:Nat}{ty:TypeId}{pos:String}{af:Array Edge}{gd:Option (Nat×Bool)}{t t2:Nat}{i1 i2:TI}{a:Operand}{k k':IntKind}{n z:Int}(hz:k'.wrap n=z) (kk:WL x ops rest (bG g d (.one (tv (.int k' z)))) ob Q) (hT:cE x.P ttab:=by exact aA) (hw:bH ops x.n g gd=some true:=by rfl) (h1:bV ttab t=some i1:=by rfl) (h1k:i1.kd=.it k:=by rfl) (h2:bV ttab t2=some i2:=by rfl) (h2k:i2.kd=.it k':=by rfl) (ha:lk x.n g a=.one (tv (.int k n)):=by rfl):WL x ops (⟨some d,.convert t t2 a,ty,pos,af,gd⟩::rest) g ob Q:=by
 refine gX (Wr:=[]) (R:=fun g' ob'=>g'=bG g d (.one (tv (.int k' z)))∧ob'=ob) (fun cs ts W hR K Q kk=>?_) hw (by rintro _ _ ⟨rfl,rfl⟩;exact kk)
 have e1:=hR.lk a
 rw[ha]at e1
 have e1:=bD e1
 have q1:=(dG hT h1).2.2.2
 have q2:=(dG hT h2).2.2.2
 rw[h1k]at q1
 rw[h2k]at q2
 exact eT (Kg q1 q2 e1 hz) (kk _ _ _ _ _ ⟨rfl,rfl⟩ (hR.put d (v:=.one (tv (.int k' z))) (gP (by simp[tv,AR,FR]))) (.put d _))
theorem Ri {zs:List Zi}{L:Nat}(hz:∀a∈zs,ZL L a) (hL:L≤1000000) (hl:zs.length≤1000000):aD true Tryz.prog 66 [] [.one (.t (sZ 24 zs))] (aO (kO (cR zs))):=by
 refine bP Tryz.func66 rfl Tryz.ntmps66 rfl aA rfl fun N9 w9 c0 h0=>?_
 refine sq ?_;refine rl ?_;refine al 0 ?_;refine nl ?_;refine sq ?_;refine sq ?_;refine rl ?_;(iterate 3 refine o1 ?_);refine nl ?_;refine bl ?_
 refine WP.sub (Qy (j:=0) (key:=1) (e:=51) (z:=1) rfl rfl rfl (.id (.sl .nil))) ?_
 refine lp (γ:=Nat) (fun k=>cG [(2,.one (.pt 0 0)),(5,.one (.t (sZ 24 zs))),(6,.one (tv (.int .i64 ((zs.length:Nat):Int)))),(7,.one (tv (.int .i64 ((k:Nat):Int))))]) (fun k=>[(⟨24,0,[tv (.bool (aG (cR (zs.take (k))))),.sl 1 0 (dg 4294967296 (cR (zs.take (k))).natAbs).length]⟩:Ob),⟨51,1,(aP (dg 4294967296 (cR (zs.take (k))).natAbs)).map .t⟩].map some) (fun k=>k≤zs.length∧True) (fun k=>zs.length-k) 0 ⟨Nat.zero_le _,trivial⟩ (aH h0 [0,1] _ _ (by decide) ⟨rfl,rfl,rfl,rfl,trivial⟩ ⟨oe rfl rfl,bI rfl,rfl⟩) fun k hk=>?_
 refine sq ?_;refine rl ?_;refine o1 ?_;refine nl ?_;refine sq ?_;refine bO rfl (fun h1=>?_) (fun h1=>?_)
 ·refine sk ?_;refine sq ?_;refine bl ?_;refine sq ?_;refine rl ?_;refine o1 ?_
  refine fB ((cB false) (fI zs (k))) (dP (f:=(cB false)) (z:=2) (o:=0) (dQ false) (kZ (by omega)) (Nat.le_of_ble_eq_true rfl) rfl) ?_
  refine al 2 ?_;refine st ?_;refine nl ?_;refine rl ?_;refine ld ?_;refine ld ?_
  refine fS 3 (El (Zg.of (k:=(cR (zs.take (k)))) (Nat.le_trans (nH hz hl) (by omega))) ((hz _ (Fy (by omega))).n (by omega)).g) Ol ⟨mI rfl (.cons .t (.cons (.sl rfl rfl (Kx _) (bB _)) .nil)),aB rfl,rfl⟩ ?_
  refine st ?_;refine nl ?_;refine rl ?_;refine o1 ?_;refine WL.cast (t:=14) (u':=.int .i64 ((k+1:Nat):Int)) rfl (aJ (by omega)) ?_
  refine o1 ?_;refine nl ?_;have hst:=Rj (zs:=zs) (k:=k) (by omega)
  exact⟨k+1,by omega,⟨by omega,trivial⟩,aH h0 [0,3] _ _ (by decide) ⟨rfl,rfl,rfl,rfl,trivial⟩ ⟨oe rfl (congrArg (fun z:Int=>some (⟨24,0,[tv (.bool (aG z)),.sl 3 0 (dg 4294967296 z.natAbs).length]⟩:Ob)) hst),bI (congrArg (fun z:Int=>some (⟨51,1,(aP (dg 4294967296 z.natAbs)).map .t⟩:Ob)) hst),rfl⟩⟩
 refine ex ?_;refine sq ?_;refine rl ?_;refine ld ?_;refine st ?_;refine nl ?_;refine rt ?_;have hk9:k=zs.length:=by omega
 exact en (.inl rfl) rfl (aW (.agg (.cons (.id rfl) (.cons (.sl (trs:=aP (dg 4294967296 ((cR (zs.take (k)))).natAbs)) rfl rfl (bE _) (bB _)) .nil)))) (by decide) (fun _=>uJ _) (by rw[hk9,Fz (Nat.le_refl _)];rfl)
theorem Lc {k:Int}(h:aG k=true):k<0:=of_decide_eq_true h
theorem Ld {k:Int}(h:aG k=false):¬k<0:=of_decide_eq_false h
theorem Ga {a:Zi}{k:Int}(ha:Zn a k):aD true Tryz.prog 79 [] [gF a] (aO (.tup [.one (tv (.int .i64 (if lB k then k else 0))),.one (tv (.bool (lB k)))])):=by
 refine bP Tryz.func79 rfl Tryz.ntmps79 rfl aA rfl fun N9 w9 c0 h0=>?_
 refine sq ?_;refine rl ?_;refine bx 0 ?_;refine o1 ?_;refine o1 ?_;refine nl ?_;refine sq ?_;refine rl ?_;refine ld ?_;refine ca (dJ (ha).g) dK ⟨aB rfl,rfl⟩ (kF (k)) ?_;refine al 1 ?_
 refine st ?_;refine nl ?_;refine sq ?_;refine sq ?_;refine rl ?_;refine o1 ?_;refine o1 ?_;refine ld ?_;refine o1 ?_;refine o1 ?_;refine nl ?_;refine bO rfl (fun h1=>?_) (fun h1=>?_)
 ·refine sq ?_;refine rl ?_;refine o1 ?_;refine o1 ?_;refine nl ?_;refine rt ?_;have hin:=BY (k:=k) (by omega)
  exact en (.inl rfl) rfl (iJ (.cons (cF _) (.cons (cF _) .nil))) (by decide) (fun _=>⟨trivial,trivial,trivial⟩) (by rw[hin];rfl)
 refine sk ?_;refine sq ?_;refine rl ?_;refine o1 ?_;refine nl ?_;refine sq ?_;refine sq ?_;refine rl ?_;refine o1 ?_;refine o1 ?_;refine ld ?_;refine o1 ?_;refine o1 ?_;refine nl ?_
 refine bl ?_;have hX:Lim 4294967296 (dg 4294967296 (k).natAbs):=aL (by omega) _
 refine lp (γ:=Nat) (fun s=>cG [(4,.one (.pt 0 0)),(17,.one (.t (sU false (dg 4294967296 (k).natAbs)))),(18,.one (tv (.int .i64 (((dg 4294967296 (k).natAbs).length:Nat):Int)))),(5,.one (tv (.int .u64 (((vl 4294967296 ((dg 4294967296 (k).natAbs).take s)):Nat):Int)))),(19,.one (tv (.int .i64 ((s:Nat):Int))))]) (fun s=>[(⟨105,0,[tv (.bool (aG (k))),.t (sU false (dg 4294967296 (k).natAbs))]⟩:Ob)].map some) (fun s=>s≤(dg 4294967296 (k).natAbs).length) (fun s=>(dg 4294967296 (k).natAbs).length-s) 0 (Nat.zero_le _) (aH h0 [1] _ _ (by decide) ⟨rfl,rfl,rfl,rfl,rfl,trivial⟩ ⟨oe rfl rfl,rfl⟩) ?_
 rintro i hi;refine sq ?_;refine rl ?_;refine o1 ?_;refine nl ?_;refine sq ?_;refine bO rfl (fun h2=>?_) (fun h2=>?_)
 ·refine sk ?_;refine sq ?_;refine bl ?_;refine sq ?_;refine rl ?_;refine o1 ?_;refine o1 ?_
  refine fB ([.v (.int .u32 ((nth (dg 4294967296 (k).natAbs) (i):Nat):Int))]) (kQ (dg 4294967296 (k).natAbs) (k:=i) (by omega)) ?_
  refine o1 ?_;refine o1 ?_;refine nl ?_;have hxi:=hX.nth (by omega) i
  refine rl ?_;(iterate 3 refine o1 ?_);refine WL.cast (t:=26) (u':=.int .u64 ((nth (dg 4294967296 (k).natAbs) (i):Nat):Int)) rfl (aJ (by omega)) ?_
  refine o1 ?_;refine o1 ?_;refine WL.cast (t:=28) (u':=.int .i64 ((32*i:Nat):Int)) rfl (aJ (by omega)) ?_
  refine o1 ?_;refine WL.cast (t:=29) (u':=.int .u64 (((nth (dg 4294967296 (k).natAbs) (i)*4294967296^i):Nat):Int)) rfl (aJ (KL (by omega) (by omega))) ?_
  refine o1 ?_;refine WL.cast (t:=30) (u':=.int .u64 (((vl 4294967296 ((dg 4294967296 (k).natAbs).take (i+1))):Nat):Int)) rfl (aJ (BZ hX (by omega))) ?_
  refine o1 ?_;refine nl ?_;refine rl ?_;refine o1 ?_;refine WL.cast (t:=31) (u':=.int .i64 ((i+1:Nat):Int)) rfl (aJ (by omega)) ?_
  refine o1 ?_;refine nl ?_;exact⟨i+1,by omega,by omega,aH h0 [0] _ _ (by decide) ⟨rfl,rfl,rfl,rfl,rfl,trivial⟩ ⟨oe rfl rfl,rfl⟩⟩
 refine ex ?_;refine sq ?_;refine bl ?_;refine sq ?_;have hu:vl 4294967296 ((dg 4294967296 (k).natAbs).take i)=k.natAbs:=by rw[bR _ (by omega),cC (by omega)]
 refine rl ?_;refine o1 ?_;refine o1 ?_;refine ld ?_;refine o1 ?_;refine WL.splitb (t:=36) rfl (fun h3=>?_) (fun h3=>?_)
 ·(iterate 4 refine o1 ?_);refine nl ?_;refine bO rfl (fun h4=>?_) (fun h4=>?_)
  ·refine sq ?_;refine rl ?_;refine o1 ?_;refine OW ?_;refine OX (FU (u:=(vl 4294967296 ((dg 4294967296 (k).natAbs).take i))) (by omega)) ?_
   refine o1 ?_;refine o1 ?_;refine nl ?_;refine rt ?_;have hsg:=Lc h3
   have hin:lB k=true:=decide_eq_true (by omega)
   exact en (.inl rfl) rfl (iJ (.cons (cF _) (.cons (cF _) .nil))) (by decide) (fun _=>⟨trivial,trivial,trivial⟩) (by rw[hin];exact congrArg (fun z:Int=>FV.tup [.one (tv (.int .i64 z)),.one (tv (.bool true))]) ((show-(((vl 4294967296 ((dg 4294967296 (k).natAbs).take i)):Nat):Int)=k by omega).trans (if_pos rfl).symm))
  refine sq ?_;refine rl ?_;refine o1 ?_;refine o1 ?_;refine ld ?_;refine WL.cast (t:=46) rfl (congrArg Value.bool h3) ?_;refine o1 ?_;refine o1 ?_;refine eC ?_;refine eC ?_
  refine o1 ?_;refine o1 ?_;refine nl ?_;refine eZ rfl ?_;refine sk ?_;refine sq ?_;refine rl ?_;refine o1 ?_;refine o1 ?_;refine nl ?_;refine rt ?_;have hsg:=Lc h3
  have hin:lB k=false:=decide_eq_false (by omega)
  exact en (.inl rfl) rfl (iJ (.cons (cF _) (.cons (cF _) .nil))) (by decide) (fun _=>⟨trivial,trivial,trivial⟩) (by rw[hin];rfl)
 refine eC ?_;refine eC ?_;refine o1 ?_;refine o1 ?_;refine nl ?_;refine eZ rfl ?_;refine sq ?_;refine rl ?_;refine o1 ?_;refine o1 ?_;refine ld ?_
 refine WL.cast (t:=46) rfl (congrArg Value.bool h3) ?_;(iterate 6 refine o1 ?_);refine nl ?_;refine bO rfl (fun h5=>?_) (fun h5=>?_)
 ·refine sq ?_;refine rl ?_;refine o1 ?_;refine o1 ?_ (hC:=(by simp only[gE];omega))
  refine WL.cast (t:=53) (u':=.int .i64 (((vl 4294967296 ((dg 4294967296 (k).natAbs).take i)):Nat):Int)) rfl (aJ (by omega)) ?_
  refine o1 ?_;refine o1 ?_;refine nl ?_;refine rt ?_;have hsg:=Ld h3
  have hin:lB k=true:=decide_eq_true (by omega)
  exact en (.inl rfl) rfl (iJ (.cons (cF _) (.cons (cF _) .nil))) (by decide) (fun _=>⟨trivial,trivial,trivial⟩) (by rw[hin];exact congrArg (fun z:Int=>FV.tup [.one (tv (.int .i64 z)),.one (tv (.bool true))]) ((show(((vl 4294967296 ((dg 4294967296 (k).natAbs).take i)):Nat):Int)=k by omega).trans (if_pos rfl).symm))
 refine sk ?_;refine sq ?_;refine rl ?_;refine o1 ?_;refine o1 ?_;refine nl ?_;refine rt ?_;have hsg:=Ld h3
 have hin:lB k=false:=decide_eq_false (by omega)
 exact en (.inl rfl) rfl (iJ (.cons (cF _) (.cons (cF _) .nil))) (by decide) (fun _=>⟨trivial,trivial,trivial⟩) (by rw[hin];rfl)
theorem Vl {a:Fr4}{p:Rat}(ha:Qn a p):aD false Tryz.prog 42 [] [qF a] (aO (qF (.of (bC p)))):=by
 refine bP Tryz.func42 rfl Tryz.ntmps42 rfl aA rfl fun N w c0 h0=>?_
 refine sq ?_;refine rl ?_;refine bx 0 ?_;refine al 1 ?_;refine nl ?_;refine sq ?_;refine rd [0,1] (fun i=>[3,4].contains i) mixed ?_
 refine aX 0 ?_;refine aK 1 rfl (mO (z:=0) (by omega) (by omega)) Bb ⟨a1 rfl,rfl⟩ (qF (.of ((0:Int):Rat))) ?_
 refine sO (key:=2) 2 (by kernel_rfl) rfl rfl aA rfl ⟨rfl,rfl,trivial⟩ ?_
 refine uK (i:=5) (k:=2) (t:=48) (t':=50) (z:=4) (n:=1) (l:=[Fr4.of ((0:Int):Rat)].flatMap (Fr4.tr false)) rfl rfl rfl rfl (.one .sl) (by rfl) (by rfl) ?_
 refine aK 3 rfl (FP ha) MT ⟨aB rfl,a1 rfl,rfl⟩ (qF (.of (bC p))) ?_;refine dst 4 ?_;refine aR ?_;refine rt ?_
 exact en (.inl rfl) rfl (aW (.agg (.cons (.id rfl) (.cons (.id rfl) (.cons (.id rfl) (.cons (.id rfl) .nil)))))) (by decide) (fun h=>by cases h) (rfl)
theorem lC {p:Rat}:p.num.sign<0↔p<0:=by rw[←gN];exact Int.sign_neg_iff
theorem Vm {a:Fr4}{p:Rat}(ha:Qn a p):aD true Tryz.prog 91 [] [qF a] (aO (.one (tv (.bool (decide (p<0)))))):=by
 refine bP Tryz.func91 rfl Tryz.ntmps91 rfl aA rfl fun N9 w9 c0 h0=>?_
 refine sq ?_;refine rl ?_;refine bx 0 ?_;refine o1 ?_;refine nl ?_;refine sq ?_;refine rl ?_;refine ld ?_;refine ca (rE ha) Bf ⟨aB rfl,rfl⟩ (.one (tv (.int .i64 p.num.sign))) ?_
 refine o1 ?_;refine o1 ?_;refine nl ?_;refine rt ?_;exact lL (.inl rfl) rfl (decide_eq_decide.2 lC)
theorem Bg {xs:List Fr4}(hx:∀x∈xs,x.ok) (hl:xs.length≤1073741823):aD true Tryz.prog 51 [] [.agg [.t (sQ false xs)]] (aO (.one (tv (.bool (xs.any fun x=>decide (x.q<0)))))):=by
 refine bP Tryz.func51 rfl Tryz.ntmps51 rfl aA rfl fun N9 w9 c0 h0=>?_
 refine sq ?_;refine rl ?_;refine bx 0 ?_;refine o1 ?_;refine nl ?_;refine sq ?_;refine rl ?_;refine o1 ?_;refine ld ?_
 refine ca (Re (dl:=fun x=>decide (x.q<0)) (fst:=[]) (caps:=[]) MU (fun x h=>Vm ⟨hx x h,rfl⟩) hl) FW ⟨a1 rfl,a1 rfl,rfl⟩ (.one (tv (.bool (xs.any fun x=>decide (x.q<0))))) ?_
 refine o1 ?_;refine nl ?_;refine rt ?_;exact lL (.inl rfl) rfl (rfl)
theorem cU {f:Fr4→Rat}{xs:List Fr4}{k:Nat}(h:k<xs.length):aF (xs.map f) k=f (aN xs k):=by simp[aF,aN,h]
theorem Vn {xs:List Fr4}(hx:∀x∈xs,x.ok) (hl:xs.length≤1073741822):aD false Tryz.prog 50 [] [.agg [.t (sQ false xs)]] (aO (.agg [.t (.s true 48 4 ((xs.map fun x=>-x.q)).length (((xs.map fun x=>-x.q)).flatMap cD))])):=by
 refine bP Tryz.func50 rfl Tryz.ntmps50 rfl aA rfl fun N9 w9 c0 h0=>?_
 refine sq ?_;refine rl ?_;refine bx 0 ?_;refine al 1 ?_;refine nl ?_;refine sq ?_;refine rl ?_;refine o1 ?_;refine nl ?_;refine sq ?_;refine sq ?_;refine rl ?_;refine o1 ?_;refine ld ?_
 refine o1 ?_;refine o1 ?_;refine nl ?_;refine bl ?_
 refine lp (γ:=Nat) (fun k=>cG [(2,.one (.pt 0 0)),(7,.one (.t (sQ false xs))),(8,.one (tv (.int .i64 ((xs.length:Nat):Int)))),(3,.one (.sl 1 0 (k))),(9,.one (tv (.int .i64 ((k:Nat):Int))))]) (fun k=>[(⟨42,0,[tv (.slice none 0 0)]⟩:Ob),⟨48,4,Gb ((xs.map fun x=>-x.q).take k)⟩].map some) (fun k=>k≤xs.length) (fun k=>xs.length-k) 0 (Nat.zero_le _) ((nr (i:=3) 2 48 4 rfl rfl rfl rfl).trans (aH h0 [1,2] _ _ (by decide) ⟨rfl,rfl,rfl,rfl,rfl,trivial⟩ ⟨oe rfl rfl,bI rfl,rfl⟩)) fun k hk=>?_
 refine sq ?_;refine rl ?_;refine o1 ?_;refine nl ?_;refine sq ?_;refine bO rfl (fun h1=>?_) (fun h1=>?_)
 ·refine sk ?_;refine sq ?_;refine bl ?_;refine sq ?_;refine rl ?_;refine o1 ?_;refine fB ((aN xs (k)).tr false) (eE xs (k:=k) (by omega)) ?_
  refine al 2 ?_;refine st ?_;refine nl ?_;refine rl ?_;refine o1 ?_;refine ld ?_;refine ca (KM ⟨hx _ (aT (by omega)),rfl⟩) MV ⟨aB rfl,rfl⟩ (qF (.of (-((aN xs (k)).q)))) ?_
  refine bs 3 ?_
  refine dV (j:=4) aA rfl rfl rfl rfl (.sl rfl (by rw[Le,List.length_take,List.length_map,Nat.min_eq_left (by omega)])) (.sl rfl rfl rfl) rfl rfl rfl (by omega) (by omega) ?_
  refine o1 ?_;refine nl ?_;refine rl ?_;refine o1 ?_;refine WL.cast (t:=18) (u':=.int .i64 ((k+1:Nat):Int)) rfl (aJ (by omega)) ?_
  refine o1 ?_;refine nl ?_
  have hst:Gb ((xs.map fun x=>-x.q).take k)++(cD (-(aN xs k).q)).map .t=Gb ((xs.map fun x=>-x.q).take (k+1)):=by rw[Vo,fF (by rw[List.length_map];omega),cU (by omega)]
  exact⟨k+1,by omega,by omega,aH h0 [0,4] _ _ (by decide) ⟨rfl,rfl,rfl,rfl,rfl,trivial⟩ ⟨oe rfl rfl,bI (congrArg (fun l=>some (⟨48,4,l⟩:Ob)) hst),rfl⟩⟩
 refine ex ?_;refine sq ?_;refine rl ?_;refine o1 ?_;refine o1 ?_;refine st ?_;refine nl ?_;refine rt ?_;have hk9:k=((xs.map fun x=>-x.q)).length:=by rw[List.length_map];omega
 exact en (.inl rfl) rfl (aW (.agg (.cons (.sl (trs:=((xs.map fun x=>-x.q)).flatMap cD) rfl rfl (by rw[List.take_of_length_le (l:=(xs.map fun x=>-x.q)) (by omega),hk9,←Le];exact List.take_of_length_le (Nat.le_refl _)) (by rw[bQ cS,hk9])) .nil))) (by decide) (fun h=>by cases h) (by rw[hk9];rfl)
end Go.Proofs.YthmgbcdidlkpoaaGreat
