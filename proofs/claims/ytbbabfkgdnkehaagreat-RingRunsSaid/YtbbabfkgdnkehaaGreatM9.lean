/- Part 9 of a proof: Zs to A2. -/
import Derived.Test.YtbbabfkgdnkehaaGreatM8
import Derived.Test.YtbbabfkgdnkehaaGreatM7
import Derived.Test.YtbbabfkgdnkehaaGreatM4
set_option maxRecDepth 100000
set_option linter.unusedVariables false
set_option linter.unusedSimpArgs false
namespace Go.Proofs.YtbbabfkgdnkehaaGreat
open Go Go.RowKit
def jU (dl:Int×Rat→Bool):List (Int×Rat)→Nat
 | []=>0
 | x::l=>if dl x then 0 else jU dl l+1
def eI (dl:Int×Rat→Bool) (vs:List (Int×Rat)):List (Int×Rat):=vs.filter fun x=> !dl x
def zV:List Value:=[.int .i64 0,.bool false,.slice none 0 0,.bool false,.slice none 0 0]
def oD (vs F:List (Int×Rat)):List Tr:=F.flatMap (cT false)++(iF zV (vs.length-F.length)).map .v
section
variable {dl:Int×Rat→Bool}{vs us:List (Int×Rat)}{i j k:Nat}
theorem Mf:∀(vs:List (Int×Rat)),jU dl vs≤vs.length
 | []=>bC _
 | x::l=>by
  have:=Mf l
  unfold jU
  split <;> simp <;> omega
theorem wI:∀{vs:List (Int×Rat)}{k:Nat},k≤jU dl vs→k<vs.length→(dl (aH vs k)=true→jU dl vs=k)∧(dl (aH vs k)=false→k+1≤jU dl vs)
 | [],_,_,h=>by simp at h
 | x::l,0,_,_=>by
  have e:aH (x::l) 0=x:=rfl
  rw[e]
  unfold jU
  constructor
  ·intro h;simp[h]
  intro h;simp[h]
 | x::l,k+1,h,h2=>by
  have e:aH (x::l) (k+1)=aH l k:=by simp[aH]
  rw[e]
  unfold jU at h⊢
  by_cases hx:dl x=true
  ·simp[hx]at h
  simp only[if_neg hx]at h⊢
  have:=wI (vs:=l) (k:=k) (by omega) (by simpa using h2)
  exact⟨fun h=>by rw[this.1 h],fun h=>by have:=this.2 h;omega⟩
theorem Df:∀{vs:List (Int×Rat)}{k:Nat},k≤jU dl vs→(vs.take k).filter (fun x=> !dl x)=vs.take k
 | vs,0,_=>by simp
 | [],k+1,_=>by simp
 | x::l,k+1,h=>by
  unfold jU at h
  by_cases hx:dl x=true
  ·simp[hx]at h
  simp only[if_neg hx]at h
  have:=Df (vs:=l) (k:=k) (by omega)
  simp[hx,this]
theorem Mj (h:jU dl vs=vs.length):eI dl vs=vs:=by
 have:=Df (dl:=dl) (vs:=vs) (k:=vs.length) (by omega)
 rwa[fF (bC _)]at this
theorem Cn (h:k<us.length) (x:Int×Rat):aH (us.set k x) k=x:=by simp[aH,h]
theorem Yg (h:jU dl vs<vs.length):vs.take (jU dl vs)=(vs.take (jU dl vs+1)).filter (fun x=> !dl x):=by
 have h1:dl (aH vs (jU dl vs))=true:=by
  cases hq:dl (aH vs (jU dl vs))with
  | true=>rfl
  | false=>
   have:=(wI (bC _) h).2 hq
   omega
 rw[lG h,List.filter_append,Df (bC _)]
 simp[h1]
theorem DS (h:us.take i=(vs.take j).filter (fun x=> !dl x)) (hj:j<vs.length) (hx:dl (aH vs j)=false) (hi:i<us.length):(us.set i (aH vs j)).take (i+1)=(vs.take (j+1)).filter (fun x=> !dl x):=by
 rw[lG (by simpa using hi),List.take_set_of_le (bC _),h,Cn hi,lG hj,List.filter_append]
 simp[hx]
theorem DR (h:us.take i=(vs.take j).filter (fun x=> !dl x)) (hj:j<vs.length) (hx:dl (aH vs j)=true):us.take i=(vs.take (j+1)).filter (fun x=> !dl x):=by
 rw[h,lG hj,List.filter_append]
 simp[hx]
theorem PP (h:i≠j) (x:Int×Rat):aH (us.set i x) j=aH us j:=by simp[aH,List.getElem?_set_ne h]
theorem Yh (hul:us.length=vs.length) (hi:i≤us.length) (h:us.take i=eI dl vs):eJ (eB us) (0+i*5) ((iF zV (us.length-i)).map tv)=(oD vs (eI dl vs)).map .t:=by
 have hl:(eI dl vs).length=i:=by rw[←h,eA,Nat.min_eq_left hi]
 unfold eJ oD
 rw[Nat.zero_add,GS,h,List.drop_of_length_le (by rw[lT,dF,sL];show us.length*5≤i*5+(us.length-i)*5;omega),List.append_nil,hl,hul]
 simp[tv]
theorem Yi (h:eI dl vs=vs):eB vs=(oD vs (eI dl vs)).map .t:=by
 unfold oD
 rw[h,Nat.sub_self]
 simp[iF,eB]
theorem Uu (vs F:List (Int×Rat)):((oD vs F).map AV.t).take (F.length*5)=(F.flatMap (cT false)).map .t:=by
 unfold oD
 rw[List.map_append]
 exact List.take_left' (by rw[dF,bM])
theorem nJ {fr:Int}(p:Rat) (h:k<vs.length):aS fr (vs.take (k+1)) p=kB fr (aS fr (vs.take k) p) (aH vs k):=by
 unfold aS
 rw[lG h,List.foldl_append]
 rfl
theorem Nc {α:Type}{a b us:List α}{k:Nat}{x y:α}(h:us=a++x::b) (ha:a.length=k):us.set k y=(a++[y])++b:=by
 subst h
 rw[List.set_append_right _ _ (by omega),ha,Nat.sub_self]
 simp
theorem qC (h:k<vs.length):vs.drop k=aH vs k::vs.drop (k+1):=by
 rw[List.drop_eq_getElem_cons h]
 congr 1
 simp[aH,h]
theorem Nb {a b us:List (Int×Rat)}{k:Nat}{x:Int×Rat}(h:us=a++x::b) (ha:a.length=k):aH us k=x:=by
 subst h
 unfold aH
 rw[List.getD_eq_getElem?_getD,List.getElem?_append_right (by omega),ha,Nat.sub_self]
 rfl
end
structure StOk (X:List (Int×Rat)) (n B:Nat):Prop where
 pos:∀x∈X,0<x.2
 len:X.length≤n
 size:gP (X.map Prod.snd)≤B
section
variable {X:List (Int×Rat)}{n B n' B':Nat}
theorem NJ (fr:Int) (p:Rat):∀(xs:List (Int×Rat)),gP ((aS fr xs p).1.map Prod.snd)+wt (aS fr xs p).2.2≤gP (xs.map Prod.snd)+wt p+2*xs.length:=by
 intro xs
 have key:∀(xs:List (Int×Rat)) (s:List (Int×Rat)×List (Int×Rat)×Rat),gP ((xs.foldl (kB fr) s).1.map Prod.snd)+wt (xs.foldl (kB fr) s).2.2≤gP (s.1.map Prod.snd)+wt s.2.2+gP (xs.map Prod.snd)+2*xs.length:=by
  intro xs
  induction xs with
  | nil=>intro s;simp[gP]
  | cons x xs ih=>
   intro s
   rw[List.foldl_cons]
   refine Nat.le_trans (ih _) ?_
   have e:gP ((x::xs).map Prod.snd)=wt x.2+gP (xs.map Prod.snd):=by simp[gP]
   rw[e,List.length_cons]
   by_cases hc:fr≤x.1∧0<s.2.2.num.sign
   ·have h1:=pL (s:=s) (y:=x.1) (q:=x.2) hc.1 hc.2
    have h2:=BC x.2 s.2.2
    rw[show kB fr s x=kB fr s (x.1,x.2) from rfl,h1]
    dsimp only
    rw[List.map_append,rE]
    simp only[List.map_cons,List.map_nil,gP,List.sum_cons,List.sum_nil]at h2⊢
    omega
   rw[nK hc]
   dsimp only
   rw[List.map_append,rE]
   simp only[List.map_cons,List.map_nil,gP,List.sum_cons,List.sum_nil]
   omega
 have:=key xs ([],[],p)
 have e:gP (([]:List (Int×Rat)).map Prod.snd)=0:=rfl
 unfold aS
 dsimp only at this
 rw[e]at this
 omega
theorem StOk.zU {fr:Int}{p:Rat}{L:Nat}(h:StOk X n B) (hB:B+wt p+2*n≤L):∀x∈(aS fr X p).1,Sz L x.2:=by
 intro x hx
 refine mH.2 ?_
 have h1:=NJ fr p X
 have h2:wt x.2≤gP ((aS fr X p).1.map Prod.snd):=Gq (List.mem_map.2 ⟨x,hx,rfl⟩)
 have h3:wt x.2=vD x.2+1:=rfl
 have h4:=h.size
 have h5:=h.len
 omega
end
abbrev At:=Int×Int×Fr4
section
variable {xs:List At}{k:Nat}
end
section
variable {ls:List Fr4}{k:Nat}{a:Fr4}
end
section
variable {Z:List (Int×Rat)}{rest r4:List Tr}{k:Nat}{q:Rat}{a:Fr4}
end
inductive Pts (L:Nat):List (Int×Rat)→List (Int×Rat)→List (Int×Rat)→Prop
 | nil {Z:List (Int×Rat)}:Pts L Z [] Z
 | cons {Z us Z':List (Int×Rat)}{u:Int×Rat}{k:Nat}{r:Rat}(hk:Z[k]? =some (u.1,r)) (hr:0<r) (hf:∀j,j<k→¬((aH Z j).1=u.1∧0<(aH Z j).2)) (hu:0<u.2) (hle:u.2≤r) (hs:Sz L (r-u.2)) (h:Pts L (Z.set k (u.1,r-u.2)) us Z'):Pts L Z (u::us) Z'
def Asc (L:List (Int×Rat)):Prop:=(L.map Prod.fst).Pairwise (· < ·)
def XP (Z:List (Int×Rat)):List (Int×Rat):=Z.filter fun x=>decide (0<x.2)
inductive UseOf:List (Int×Rat)→List (Int×Rat)→List (Int×Rat)→Prop
 | nil:UseOf [] [] []
 | skip {x:Int×Rat}{vs us vs':List (Int×Rat)}(h:UseOf vs us vs'):UseOf (x::vs) us (x::vs')
 | part {y:Int}{q m:Rat}{vs us vs':List (Int×Rat)}(h0:0<m) (h1:m<q) (h:UseOf vs us vs'):UseOf ((y,q)::vs) ((y,m)::us) ((y,q-m)::vs')
 | all {y:Int}{q:Rat}{vs us vs':List (Int×Rat)}(h0:0<q) (h:UseOf vs us vs'):UseOf ((y,q)::vs) ((y,q)::us) vs'
section
variable {Z vs us vs':List (Int×Rat)}{L:Nat}
end
theorem Ij (a:Rat) (l:List Rat):mR (a::l)=a+mR l:=by
 have key:∀(l:List Rat) (a:Rat),l.foldl (· + ·) a=a+l.foldl (· + ·) 0:=by
  intro l
  induction l with
  | nil=>intro a;show a=a+0;grind
  | cons b l ih=>
   intro a
   rw[List.foldl_cons,List.foldl_cons,ih (a+b),ih (0+b)]
   grind
 unfold mR
 rw[List.foldl_cons,key]
 grind
section
variable {fr:Int}{vs:List (Int×Rat)}{r:Rat}{x:Int×Rat}
theorem nO (fr:Int):∀(vs a b:List (Int×Rat)) (r:Rat),vs.foldl (kB fr) (a,b,r)=(a++(aS fr vs r).1,b++(aS fr vs r).2.1,(aS fr vs r).2.2)
 | [],a,b,r=>by simp[aS]
 | x::vs,a,b,r=>by
  unfold aS
  rw[List.foldl_cons,List.foldl_cons]
  by_cases hc:fr≤x.1∧0<r.num.sign
  ·rw[show kB fr (a,b,r) x=_ from pL (s:=(a,b,r)) (y:=x.1) (q:=x.2) hc.1 hc.2,show kB fr ([],[],r) x=_ from pL (s:=([],[],r)) (y:=x.1) (q:=x.2) hc.1 hc.2]
   rw[nO fr vs _ _ _,nO fr vs _ _ _]
   simp
  rw[nK (s:=(a,b,r)) hc,nK (s:=([],[],r)) hc,nO fr vs _ _ _,nO fr vs _ _ _]
  simp
theorem GU (h1:fr≤x.1) (h2:0<r):aS fr (x::vs) r=((x.1,x.2-aJ x.2 [r])::(aS fr vs (r-aJ x.2 [r])).1,(x.1,aJ x.2 [r])::(aS fr vs (r-aJ x.2 [r])).2.1,(aS fr vs (r-aJ x.2 [r])).2.2):=by
 have:aS fr (x::vs) r=vs.foldl (kB fr) (kB fr ([],[],r) x):=rfl
 rw[this,show kB fr ([],[],r) x=_ from pL (s:=([],[],r)) (y:=x.1) (q:=x.2) h1 ((kA r).2 h2),nO]
 rfl
theorem Tw (h:¬(fr≤x.1∧0<r)):aS fr (x::vs) r=(x::(aS fr vs r).1,(aS fr vs r).2.1,(aS fr vs r).2.2):=by
 have:aS fr (x::vs) r=vs.foldl (kB fr) (kB fr ([],[],r) x):=rfl
 rw[this,nK (s:=([],[],r)) (by rwa[kA]),nO]
 rfl
structure UseP (fr:Int) (r:Rat) (vs us vs':List (Int×Rat)) (r':Rat):Prop where
 use:UseOf vs us vs'
 yrs:∀u∈us,fr≤u.1
 sum:r=mR (us.map Prod.snd)+r'
 low:0≤r→0≤r'
 non:r≤0→us=[]
 full:∀z∈vs',fr≤z.1→r'≤0∧∀u∈us,u.1≤z.1
end
section
variable {Z Z' us:List (Int×Rat)}{L k:Nat}{u:Int×Rat}
end
section
variable {α:Type}
def dD (dl:α→Bool):List α→Nat
 | []=>0
 | x::l=>if dl x then 0 else dD dl l+1
theorem yQ {dl:α→Bool}:∀(l:List α),dD dl l≤l.length
 | []=>bC _
 | x::l=>by
  have:=yQ (dl:=dl) l
  unfold dD
  split <;> simp <;> omega
theorem mS {dl:α→Bool}{d:α}:∀{l:List α}{k:Nat},k≤dD dl l→k<l.length→(dl (l.getD k d)=true→dD dl l=k)∧(dl (l.getD k d)=false→k+1≤dD dl l)
 | [],_,_,h=>by simp at h
 | x::l,0,_,_=>by
  have e:(x::l).getD 0 d=x:=rfl
  rw[e]
  unfold dD
  exact⟨fun h=>by simp[h],fun h=>by simp[h]⟩
 | x::l,k+1,h,h2=>by
  have e:(x::l).getD (k+1) d=l.getD k d:=by simp
  rw[e]
  unfold dD at h⊢
  by_cases hx:dl x=true
  ·simp[hx]at h
  simp only[if_neg hx]at h⊢
  have:=mS (dl:=dl) (d:=d) (l:=l) (k:=k) (by omega) (by simpa using h2)
  exact⟨fun h=>by rw[this.1 h],fun h=>by have:=this.2 h;omega⟩
theorem Tx {dl:α→Bool}:∀(l:List α),l.any dl=decide (dD dl l<l.length)
 | []=>rfl
 | x::l=>by
  unfold dD
  by_cases hx:dl x=true
  ·simp[hx]
  simp only[if_neg hx,List.any_cons,Tx l,List.length_cons]
  simp[hx]
def pY (dl:α→Bool) (l:List α):Int:=if dD dl l=l.length then-1 else(dD dl l:Int)
theorem Rf {dl:α→Bool}(l:List α):decide (0≤pY dl l)=l.any dl:=by
 have h:=yQ (dl:=dl) l
 rw[Tx]
 unfold pY
 split
 ·rw[decide_eq_decide];omega
 rw[decide_eq_decide];omega
end
section
variable {α:Type}{key:α→Int}
def Fk (key:α→Int) (x:α):List α→List α
 | []=>[x]
 | y::l=>if key x≤key y then x::y::l else y::Fk key x l
def xY (key:α→Int):List α→List α
 | []=>[]
 | x::l=>Fk key x (xY key l)
def Srd (key:α→Int) (l:List α):Prop:=l.Pairwise fun x y=>key x≤key y
def Kp (key:α→Int) (A B:List α):Prop:=∀y,A.filter (fun x=>decide (key x=y))=B.filter (fun x=>decide (key x=y))
variable {A B C D P Q U V M:List α}{x y:α}
theorem Kp.refl:Kp key A A:=fun _=>rfl
theorem Kp.symm (h:Kp key A B):Kp key B A:=fun y=>(h y).symm
theorem Kp.trans (h:Kp key A B) (h2:Kp key B C):Kp key A C:=fun y=>(h y).trans (h2 y)
theorem Kp.app (h:Kp key A B) (h2:Kp key C D):Kp key (A++C) (B++D):=fun y=>by rw[List.filter_append,List.filter_append,h y,h2 y]
theorem Kp.mem (h:Kp key A B):x∈A↔x∈B:=by
 have h1:=h (key x)
 have e:∀l:List α,x∈l↔x∈l.filter (fun z=>decide (key z=key x)):=fun l=>by simp[List.mem_filter]
 rw[e A,e B,h1]
theorem Kp.comm (h:∀x∈U,∀y∈V,key x≠key y):Kp key (U++V) (V++U):=by
 intro z
 rw[List.filter_append,List.filter_append]
 by_cases h1:U.filter (fun x=>decide (key x=z))=[]
 ·rw[h1,List.nil_append,List.append_nil]
 obtain⟨u,hu⟩:=List.exists_mem_of_ne_nil _ h1
 rw[List.mem_filter]at hu
 have h2:V.filter (fun x=>decide (key x=z))=[]:=by
  rw[List.filter_eq_nil_iff]
  intro v hv h3
  exact h u hu.1 v hv ((of_decide_eq_true hu.2).trans (of_decide_eq_true h3).symm)
 rw[h2,List.nil_append,List.append_nil]
theorem Pm:∀l:List α,Kp key (Fk key x l) (x::l)
 | []=>fun _=>rfl
 | y::l=>by
  unfold Fk
  split
  ·exact .refl
  rename_i h
  have h1:Kp key (y::Fk key x l) (y::x::l):=Kp.app (A:=[y]) (B:=[y]) .refl (Pm l)
  refine h1.trans ?_
  exact Kp.app (A:=[y,x]) (B:=[x,y]) (Kp.comm (U:=[y]) (V:=[x]) fun a ha b hb=>by rw[List.mem_singleton]at ha hb;subst ha;subst hb;omega) .refl
theorem qK:∀l:List α,Kp key (xY key l) l
 | []=>.refl
 | x::l=>(Pm _).trans (Kp.app (A:=[x]) (B:=[x]) .refl (qK l))
theorem Ty:∀{l:List α},Srd key l→Srd key (Fk key x l)
 | [],_=>List.pairwise_singleton _ _
 | y::l,h=>by
  have h1:=List.pairwise_cons.1 h
  unfold Fk
  split
  ·rename_i hx
   refine List.pairwise_cons.2 ⟨fun z hz=>?_,h⟩
   rcases List.mem_cons.1 hz with rfl | hz
   ·exact hx
   exact Int.le_trans hx (h1.1 z hz)
  rename_i hx
  refine List.pairwise_cons.2 ⟨fun z hz=>?_,Ty h1.2⟩
  rcases List.mem_cons.1 ((Pm l).mem.1 hz)with rfl | hz
  ·omega
  exact h1.1 z hz
theorem pS:∀l:List α,Srd key (xY key l)
 | []=>List.Pairwise.nil
 | _::l=>Ty (pS l)
theorem Tz:∀l:List α,(Fk key x l).length=l.length+1
 | []=>rfl
 | y::l=>by
  unfold Fk
  split
  ·rfl
  rw[List.length_cons,Tz l,List.length_cons]
theorem Hv:∀l:List α,(xY key l).length=l.length
 | []=>rfl
 | x::l=>by rw[xY,Tz,Hv l,List.length_cons]
theorem Srd.uniq:∀{A B:List α},Srd key A→Srd key B→Kp key A B→A=B
 | [],[],_,_,_=>rfl
 | [],y::B,_,_,h=>by
  have:=h (key y)
  simp at this
 | x::A,[],_,_,h=>by
  have:=h (key x)
  simp at this
 | x::A,y::B,hA,hB,h=>by
  have h1:=List.pairwise_cons.1 hA
  have h2:=List.pairwise_cons.1 hB
  have hx:x∈y::B:=h.mem.1 (List.mem_cons_self ..)
  have hy:y∈x::A:=h.mem.2 (List.mem_cons_self ..)
  have e1:key y≤key x:=by
   rcases List.mem_cons.1 hx with rfl | h3
   ·omega
   exact h2.1 x h3
  have e2:key x≤key y:=by
   rcases List.mem_cons.1 hy with rfl | h3
   ·omega
   exact h1.1 y h3
  have h3:=h (key x)
  rw[List.filter_cons,if_pos (by simp),List.filter_cons,if_pos (by simp;omega)]at h3
  injection h3 with e3 h3
  subst e3
  rw[Srd.uniq h1.2 h2.2 fun z=>by
   have h4:=h z
   rw[List.filter_cons,List.filter_cons]at h4
   split at h4
   ·injection h4
   exact h4]
theorem sW (h:Srd key A) (hk:Kp key A B):xY key B=A:=Srd.uniq (pS B) h ((qK B).trans hk.symm)
theorem Pn (h:Srd key A):xY key A=A:=sW h .refl
theorem Srd.app (hA:Srd key A) (hB:Srd key B) (h:∀x∈A,∀y∈B,key x≤key y):Srd key (A++B):=List.pairwise_append.2 ⟨hA,hB,h⟩
theorem Srd.l (h:Srd key (A++B)):Srd key A:=(List.pairwise_append.1 h).1
theorem Srd.r (h:Srd key (A++B)):Srd key B:=(List.pairwise_append.1 h).2.1
theorem Srd.le (h:Srd key (A++B)):∀x∈A,∀y∈B,key x≤key y:=(List.pairwise_append.1 h).2.2
theorem BO (hX:Srd key (A++B)) (hY:Srd key (C++D)) (h1:∀x∈A,∀y∈D,key x≤key y) (h2:∀x∈B,∀y∈C,key y<key x):xY key ((A++B)++(C++D))=xY key (A++C)++xY key (B++D):=by
 refine sW (Srd.app (pS _) (pS _) fun x hx y hy=>?_) ?_
 ·rcases List.mem_append.1 ((qK _).mem.1 hx)with hx | hx <;> rcases List.mem_append.1 ((qK _).mem.1 hy)with hy | hy
  ·exact hX.le x hx y hy
  ·exact h1 x hx y hy
  ·exact Int.le_of_lt (h2 y hy x hx)
  exact hY.le x hx y hy
 refine((qK _).app (qK _)).trans ?_
 have e1:A++C++(B++D)=A++((C++B)++D):=by simp
 have e2:(A++B)++(C++D)=A++((B++C)++D):=by simp
 rw[e1,e2]
 exact Kp.refl.app ((Kp.comm fun x hx y hy=>by have:=h2 y hy x hx;omega).app .refl)
theorem Uq {D:List α}{a b:Nat}(h:a≤b) (hb:b≤D.length):∃P S Q,D=P++(S++Q)∧P.length=a∧S.length=b-a∧Q.length=D.length-b:=by
 refine⟨D.take a,(D.drop a).take (b-a),D.drop b,?_,by rw[eA];omega,by rw[eA,List.length_drop];omega,by rw[List.length_drop]⟩
 have:D.drop b=(D.drop a).drop (b-a):=by rw[List.drop_drop,show a+(b-a)=b by omega]
 rw[this,List.take_append_drop,List.take_append_drop]
theorem wG {D:List α}{a:Nat}(h:a≤D.length):∃P Q,D=P++Q∧P.length=a∧Q.length=D.length-a:=⟨D.take a,D.drop a,(List.take_append_drop a D).symm,by rw[eA];omega,by rw[List.length_drop]⟩
theorem Po {d:α}:(P++x::Q).getD P.length d=x:=by simp[List.getD_eq_getElem?_getD]
theorem JK:(P++x::Q).set P.length y=P++y::Q:=by simp
theorem TQ {i j:Nat}(hi:P.length=i) (hj:P.length+1+M.length=j):((P++(x::(M++y::Q))).set i y).set j x=P++(y::(M++x::Q)):=by
 subst hi
 subst hj
 rw[JK,List.set_append_right _ _ (by omega),show P.length+1+M.length-P.length=M.length+1 by omega,List.set_cons_succ,JK]
theorem TR {i j:Nat}(hi:P.length=i) (hj:P.length+1+M.length=j):((P++(x::(M++y::Q))).set j x).set i y=P++(y::(M++x::Q)):=by
 rw[List.set_comm _ _ (by omega),TQ hi hj]
theorem Pp {i:Nat}{d:α}(hi:P.length=i):(P++(x::(M++y::Q))).getD i d=x:=by subst hi;exact Po
theorem Wn {j:Nat}{d:α}(hj:P.length+1+M.length=j):(P++(x::(M++y::Q))).getD j d=y:=by
 subst hj
 have:=Po (P:=P++(x::M)) (x:=y) (Q:=Q) (d:=d)
 rw[cO,List.length_cons,show P.length+(M.length+1)=P.length+1+M.length by omega]at this
 simpa using this
theorem nA {i:Nat}{d:α}(h:P.length≤i):(P++Q).getD i d=Q.getD (i-P.length) d:=by simp[List.getD_eq_getElem?_getD,List.getElem?_append_right h]
theorem nP {i:Nat}{d:α}(h:i<P.length):(P++Q).getD i d=P.getD i d:=by simp[List.getD_eq_getElem?_getD,List.getElem?_append_left h]
theorem mP {l:List α}{i:Nat}{d:α}(h:i<l.length):l.getD i d∈l:=by rw[List.getD_eq_getElem?_getD,dC h];exact List.getElem_mem h
theorem Srd.get {l:List α}{i j:Nat}{d:α}(h:Srd key l) (hij:i≤j) (hj:j<l.length):key (l.getD i d)≤key (l.getD j d):=by
 rcases Nat.eq_or_lt_of_le hij with rfl | h1
 ·omega
 have:=(List.pairwise_iff_getElem.1 h) i j (by omega) hj h1
 rw[List.getD_eq_getElem?_getD,dC (by omega),List.getD_eq_getElem?_getD,dC hj]
 exact this
end
section
variable {α:Type}{f:α→List Tr}{z k o:Nat}{xs:List α}{x x':α}{us:List Tr}
theorem GV (h:k<xs.length):xs=xs.take k++xs[k]::xs.drop (k+1):=by
 rw[←List.drop_eq_getElem_cons h,List.take_append_drop]
theorem dN (hf:∀x,(f x).length=z) (h:xs[k]? =some x) (hm:o+us.length≤z) (hx:f x'=(f x).take o++us++(f x).drop (o+us.length)):eJ ((xs.flatMap f).map AV.t) (0+k*z+o) (us.map AV.t)=((xs.set k x').flatMap f).map .t:=by
 obtain⟨hk,rfl⟩:=List.getElem?_eq_some_iff.1 h
 rw[←Nk,Nat.zero_add]
 congr 1
 have hA:((xs.take k).flatMap f).length=k*z:=by rw[bE hf,eA,Nat.min_eq_left (by omega)]
 have e:xs.flatMap f=(xs.take k).flatMap f++(f xs[k]++(xs.drop (k+1)).flatMap f):=by
  conv=>lhs;rw[GV hk]
  rw[List.flatMap_append,List.flatMap_cons]
 have hl:=hf xs[k]
 rw[List.set_eq_take_append_cons_drop,if_pos hk,List.flatMap_append,List.flatMap_cons,hx,e]
 generalize (xs.take k).flatMap f=A at*
 generalize (xs.drop (k+1)).flatMap f=C at*
 generalize f xs[k]=X at*
 unfold eJ
 rw[List.take_append,List.drop_append,hA,fF (l:=A) (by omega),List.drop_of_length_le (l:=A) (by omega),show k*z+o-k*z=o by omega,show k*z+o+us.length-k*z=o+us.length by omega,List.take_append,List.drop_append,show o-X.length=0 by omega,show o+us.length-X.length=0 by omega]
 simp
theorem eP (hf:∀x,(f x).length=z) (h:k<xs.length) (hm:o+us.length≤z):0+k*z+o+(us.map AV.t).length≤((xs.flatMap f).map AV.t).length:=by
 rw[dF,dF,bE hf]
 have:=Nat.mul_le_mul (show k+1≤xs.length by omega) (bC z)
 rw[Nat.add_mul]at this
 omega
end
structure Wv where
 y:Int
 e:Int
 q:Rat
def pT:Wv:=⟨0,0,0⟩
def Wo:List Tr:=[.v (.bool false),.v (.slice none 0 0),.v (.bool false),.v (.slice none 0 0)]
def aQ (x:Wv):List Tr:=.v (.int .i64 x.y)::.v (.int .i64 x.e)::((Fr4.of x.q).tr false++(Wo++(Wo++Wo)))
theorem bK (x:Wv):(aQ x).length=18:=rfl
def aE (l:List Wv) (i:Nat):Wv:=l.getD i pT
section
variable {l D P S Q U V M X Y xs:List Wv}{i j k t n a b s:Nat}{x:Wv}
theorem cB (h:i<l.length):l[i]? =some (aE l i):=by simp[aE,h]
def DM (a b:Int):Int:=if a<b then-1 else if b<a then 1 else 0
theorem lS {a b:Int}:DM a b<0↔a<b:=by
 unfold DM
 by_cases h:a<b
 ·simp[h]
 by_cases h2:b<a
 ·simp[h,h2]
 simp[h,h2]
abbrev dV:List Wv→List Wv:=xY Wv.y
def SwP (P U M V Q:List Wv) (i:Nat) (D:List Wv):Prop:=∃U1 U2 V1 V2,U=U1++U2∧V=V1++V2∧U1.length=i∧V1.length=i∧D=P++((V1++U2)++(M++((U1++V2)++Q)))
theorem SwP.zero:SwP P U M V Q 0 (P++(U++(M++(V++Q)))):=⟨[],U,[],V,rfl,rfl,rfl,rfl,rfl⟩
theorem SwP.len (h:SwP P U M V Q i D):D.length=P.length+U.length+M.length+V.length+Q.length:=by
 obtain⟨U1,U2,V1,V2,rfl,rfl,h1,h2,rfl⟩:=h
 simp only[cO]
 omega
theorem SwP.step (h:SwP P U M V Q i D) (hU:U.length=n) (hV:V.length=n) (hi:i<n) (ha:P.length=a) (hb:a+n+M.length=b):SwP P U M V Q (i+1) ((D.set (a+i) (aE D (b+i))).set (b+i) (aE D (a+i))):=by
 obtain⟨U1,U2,V1,V2,rfl,rfl,h1,h2,rfl⟩:=h
 rw[cO]at hU hV
 cases U2 with
 | nil=>simp at hU;omega
 | cons u U2=>
  cases V2 with
  | nil=>simp at hV;omega
  | cons v V2=>
   rw[List.length_cons]at hU hV
   have e:P++((V1++u::U2)++(M++((U1++v::V2)++Q)))=(P++V1)++(u::((U2++(M++U1))++v::(V2++Q))):=by simp
   have e1:(P++V1).length=a+i:=by rw[cO];omega
   have e2:(P++V1).length+1+(U2++(M++U1)).length=b+i:=by simp only[cO];omega
   refine⟨U1++[u],U2,V1++[v],V2,by simp,by simp,by simp[h1],by simp[h2],?_⟩
   rw[e,aE,aE,Pp e1,Wn e2,TQ e1 e2]
   simp
theorem SwP.fin (h:SwP P U M V Q n D) (hU:U.length=n) (hV:V.length=n):D=P++(V++(M++(U++Q))):=by
 obtain⟨U1,U2,V1,V2,rfl,rfl,h1,h2,rfl⟩:=h
 rw[cO]at hU hV
 have e1:U2=[]:=List.eq_nil_of_length_eq_zero (by omega)
 have e2:V2=[]:=List.eq_nil_of_length_eq_zero (by omega)
 subst e1
 subst e2
 simp
def Ro (m i j:Nat) (D T:List Wv):Prop:=∃P L R Q,D=P++(L++(R++Q))∧P.length+i=m∧L.length=i∧R.length=j∧T=P++(R++(L++Q))
variable {m:Nat}{T:List Wv}
theorem Ro.len (h:Ro m i j D T):m+j≤D.length∧i≤m∧T.length=D.length:=by
 obtain⟨P,L,R,Q,rfl,h1,h2,h3,rfl⟩:=h
 simp only[cO]
 omega
theorem Ro.gt (h:Ro m i j D T) (hij:j<i):∃P U M V Q,D=P++(U++(M++(V++Q)))∧P.length=m-i∧U.length=j∧V.length=j∧m-i+j+M.length=m∧Ro m (i-j) j (P++(V++(M++(U++Q)))) T:=by
 obtain⟨P,L,R,Q,rfl,h1,h2,h3,rfl⟩:=h
 obtain⟨U,M,rfl,h4,h5⟩:=wG (D:=L) (a:=j) (by omega)
 rw[cO]at h2 h5
 exact⟨P,U,M,R,Q,by simp,by omega,h4,h3,by omega,P++R,M,U,Q,by simp,by rw[cO];omega,by omega,h4,by simp⟩
theorem Ro.lt (h:Ro m i j D T) (hij:i<j):∃P U M V Q,D=P++(U++(M++(V++Q)))∧P.length=m-i∧U.length=i∧V.length=i∧m-i+i+M.length=m+j-i∧Ro m i (j-i) (P++(V++(M++(U++Q)))) T:=by
 obtain⟨P,L,R,Q,rfl,h1,h2,h3,rfl⟩:=h
 obtain⟨M,V,rfl,h4,h5⟩:=wG (D:=R) (a:=j-i) (by omega)
 rw[cO]at h3 h5
 exact⟨P,L,M,V,Q,by simp,by omega,h2,by omega,by omega,P,V,M,L++Q,by simp,h1,by omega,by omega,by simp⟩
theorem Ro.eq (h:Ro m i i D T):∃P U V Q,D=P++(U++([]++(V++Q)))∧P.length=m-i∧U.length=i∧V.length=i∧m-i+i+([]:List Wv).length=m∧P++(V++([]++(U++Q)))=T:=by
 obtain⟨P,L,R,Q,rfl,h1,h2,h3,rfl⟩:=h
 exact⟨P,L,R,Q,by simp,by omega,h2,h3,by simp;omega,by simp⟩
def Ins (P S Q D:List Wv) (t j:Nat):Prop:=∃A1 A2,D=P++(A1++(aE S t::(A2++(S.drop (t+1)++Q))))∧A1++A2=dV (S.take t)∧P.length+A1.length=j∧∀z∈A2,(aE S t).y<z.y
theorem Ins.start (ht:t<S.length) (h:D=P++(dV (S.take t)++(S.drop t++Q))):Ins P S Q D t (P.length+t):=by
 refine⟨dV (S.take t),[],?_,by simp,by rw[Hv,eA];omega,fun z hz=>by cases hz⟩
 have e:=cB ht
 rw[dC ht]at e
 rw[h,←Option.some.inj e,List.drop_eq_getElem_cons ht]
 rfl
theorem Ins.len (h:Ins P S Q D t j):P.length≤j∧j<D.length:=by
 obtain⟨A1,A2,rfl,h1,h2,h3⟩:=h
 simp only[cO,List.length_cons]
 omega
theorem Ins.at (h:Ins P S Q D t j):aE D j=aE S t:=by
 obtain⟨A1,A2,rfl,h1,h2,h3⟩:=h
 rw[←List.append_assoc]
 have e:(P++A1).length=j:=by rw[cO,h2]
 subst e
 exact Po
theorem Ins.step (h:Ins P S Q D t j) (hj:P.length<j) (hc:(aE D j).y<(aE D (j-1)).y):Ins P S Q ((D.set j (aE D (j-1))).set (j-1) (aE D j)) t (j-1):=by
 have hat:=h.at
 obtain⟨A1,A2,hD,h1,h2,h3⟩:=h
 rcases List.eq_nil_or_concat A1 with rfl | ⟨B,z,rfl⟩
 ·simp at h2;omega
 rw[List.concat_eq_append]at*
 rw[cO,List.length_singleton]at h2
 have e:P++((B++[z])++(aE S t::(A2++(S.drop (t+1)++Q))))=(P++B)++(z::([]++aE S t::(A2++(S.drop (t+1)++Q)))):=by simp
 have e1:(P++B).length=j-1:=by rw[cO];omega
 have e2:(P++B).length+1+([]:List Wv).length=j:=by simp only[cO,List.length_nil];omega
 rw[hD,e]at hc⊢
 have hz:aE ((P++B)++(z::([]++aE S t::(A2++(S.drop (t+1)++Q))))) (j-1)=z:=Pp e1
 have hy:aE ((P++B)++(z::([]++aE S t::(A2++(S.drop (t+1)++Q))))) j=aE S t:=Wn e2
 rw[hz,hy]at hc⊢
 refine⟨B,z::A2,?_,by rw[←h1];simp,by omega,fun w hw=>?_⟩
 ·rw[TR e1 e2]
  simp
 rcases List.mem_cons.1 hw with rfl | hw
 ·exact hc
 exact h3 w hw
theorem Ins.stop (h:Ins P S Q D t j) (ht:t<S.length) (hs:j≤P.length∨¬(aE D j).y<(aE D (j-1)).y):D=P++(dV (S.take (t+1))++(S.drop (t+1)++Q)):=by
 have hat:=h.at
 obtain⟨A1,A2,hD,h1,h2,h3⟩:=h
 have e:S.take (t+1)=S.take t++[aE S t]:=by rw[List.take_add_one,cB ht];rfl
 have hs9:=pS (key:=Wv.y) (S.take t)
 have h1':A1++A2=xY Wv.y (S.take t):=h1
 rw[←h1']at hs9
 have hle:∀z∈A1,z.y≤(aE S t).y:=by
  intro z hz
  rcases hs with hs | hs
  ·have:A1=[]:=List.eq_nil_of_length_eq_zero (by omega)
   rw[this]at hz
   cases hz
  rcases List.eq_nil_or_concat A1 with rfl | ⟨B,w,rfl⟩
  ·cases hz
  rw[List.concat_eq_append]at*
  have e0:P++((B++[w])++(aE S t::(A2++(S.drop (t+1)++Q))))=(P++B)++(w::([]++aE S t::(A2++(S.drop (t+1)++Q)))):=by simp
  rw[cO,List.length_singleton]at h2
  have e1:(P++B).length=j-1:=by rw[cO];omega
  have hw9:aE D (j-1)=w:=by rw[hD,e0];exact Pp e1
  rw[hat,hw9]at hs
  rcases List.mem_append.1 hz with hz | hz
  ·have:=(hs9.l).le z hz w (List.mem_singleton.2 rfl)
   omega
  rw[List.mem_singleton.1 hz]
  omega
 have hsr:dV (S.take (t+1))=A1++(aE S t::A2):=by
  refine sW ?_ ?_
  ·refine Srd.app hs9.l (List.pairwise_cons.2 ⟨fun z hz=>Int.le_of_lt (h3 z hz),hs9.r⟩) fun x hx y hy=>?_
   rcases List.mem_cons.1 hy with rfl | hy
   ·exact hle x hx
   exact hs9.le x hx y hy
  rw[e]
  have k1:Kp Wv.y (A1++([aE S t]++A2)) (A1++(A2++[aE S t])):=Kp.refl.app (Kp.comm fun x hx y hy=>by have:=h3 y hy;rw[List.mem_singleton]at hx;subst hx;omega)
  refine Kp.trans (B:=A1++(A2++[aE S t])) k1 ?_
  rw[←List.append_assoc,h1']
  exact(qK _).app .refl
 rw[hsr,hD]
 simp
end
section
variable {l D P S Q U V M X Y xs:List Wv}{i j k t n a b c s m p lo hi:Nat}{x:Wv}
theorem iR:(dV l).length=l.length:=Hv l
def B1 (P:List Wv) (x:Wv) (Y Q:List Wv) (k:Nat) (D:List Wv):Prop:=∃Y1 Y2,Y=Y1++Y2∧D=P++(Y1++(x::(Y2++Q)))∧P.length+Y1.length=k
theorem B1.zero:B1 P x Y Q P.length (P++(x::(Y++Q))):=⟨[],Y,rfl,rfl,rfl⟩
theorem B1.len (h:B1 P x Y Q k D):D.length=P.length+1+Y.length+Q.length:=by
 obtain⟨Y1,Y2,rfl,rfl,h⟩:=h
 simp only[cO,List.length_cons]
 omega
theorem B1.step (h:B1 P x Y Q k D) (hk:k<P.length+Y.length):B1 P x Y Q (k+1) ((D.set k (aE D (k+1))).set (k+1) (aE D k)):=by
 obtain⟨Y1,Y2,rfl,rfl,h⟩:=h
 rw[cO]at hk
 cases Y2 with
 | nil=>simp at hk;omega
 | cons y Y2=>
  have e:P++(Y1++(x::(y::Y2++Q)))=(P++Y1)++(x::([]++y::(Y2++Q))):=by simp
  have e1:(P++Y1).length=k:=by rw[cO];omega
  have e2:(P++Y1).length+1+([]:List Wv).length=k+1:=by simp only[cO,List.length_nil];omega
  refine⟨Y1++[y],Y2,by simp,?_,by simp;omega⟩
  rw[e,aE,aE,Pp e1,Wn e2,TQ e1 e2]
  simp
theorem B1.fin (h:B1 P x Y Q k D) (hk:P.length≤k) (hk2:k≤P.length+Y.length) (hY:Srd Wv.y Y) (h1:∀c,c<k-P.length→(aE Y c).y<x.y) (h2:∀c,k-P.length≤c→c<Y.length→x.y≤(aE Y c).y):D=P++(dV (x::Y)++Q):=by
 obtain⟨Y1,Y2,rfl,rfl,h⟩:=h
 have e1:∀z∈Y1,z.y<x.y:=by
  intro z hz
  obtain⟨c,hc,rfl⟩:=List.getElem_of_mem hz
  have:=h1 c (by omega)
  rw[aE,nP hc,List.getD_eq_getElem?_getD,dC hc]at this
  exact this
 have e2:∀z∈Y2,x.y≤z.y:=by
  intro z hz
  obtain⟨c,hc,rfl⟩:=List.getElem_of_mem hz
  have:=h2 (Y1.length+c) (by omega) (by rw[cO];omega)
  rw[aE,nA (by omega),show Y1.length+c-Y1.length=c by omega,List.getD_eq_getElem?_getD,dC hc]at this
  exact this
 have e3:dV (x::(Y1++Y2))=Y1++(x::Y2):=by
  refine sW ?_ ?_
  ·refine Srd.app hY.l (List.pairwise_cons.2 ⟨e2,hY.r⟩) fun u hu v hv=>?_
   rcases List.mem_cons.1 hv with rfl | hv
   ·exact Int.le_of_lt (e1 u hu)
   exact hY.le u hu v hv
  have k1:Kp Wv.y ((Y1++[x])++Y2) (([x]++Y1)++Y2):=(Kp.comm fun u hu v hv=>by have:=e1 u hu;rw[List.mem_singleton]at hv;subst hv;omega).app .refl
  simpa using k1
 rw[e3]
 simp
def B2 (P X:List Wv) (x:Wv) (Q:List Wv) (k:Nat) (D:List Wv):Prop:=∃X1 X2,X=X1++X2∧D=P++(X1++(x::(X2++Q)))∧P.length+X1.length=k
theorem B2.zero:B2 P X x Q (P.length+X.length) (P++(X++(x::Q))):=⟨X,[],by simp,rfl,rfl⟩
theorem B2.len (h:B2 P X x Q k D):D.length=P.length+1+X.length+Q.length∧k≤P.length+X.length:=by
 obtain⟨Y1,Y2,rfl,rfl,h⟩:=h
 simp only[cO,List.length_cons]
 omega
theorem B2.step (h:B2 P X x Q k D) (hk:P.length<k):B2 P X x Q (k-1) ((D.set k (aE D (k-1))).set (k-1) (aE D k)):=by
 obtain⟨X1,X2,rfl,rfl,h⟩:=h
 rcases List.eq_nil_or_concat X1 with rfl | ⟨B,z,rfl⟩
 ·simp at h;omega
 rw[List.concat_eq_append]at*
 rw[cO,List.length_singleton]at h
 have e:P++((B++[z])++(x::(X2++Q)))=(P++B)++(z::([]++x::(X2++Q))):=by simp
 have e1:(P++B).length=k-1:=by rw[cO];omega
 have e2:(P++B).length+1+([]:List Wv).length=k:=by simp only[cO,List.length_nil];omega
 refine⟨B,z::X2,by simp,?_,by omega⟩
 rw[e,aE,aE,Pp e1,Wn e2,TR e1 e2]
 simp
theorem B2.fin (h:B2 P X x Q k D) (hX:Srd Wv.y X) (h1:∀c,c<k-P.length→(aE X c).y≤x.y) (h2:∀c,k-P.length≤c→c<X.length→x.y<(aE X c).y):D=P++(dV (X++[x])++Q):=by
 obtain⟨Y1,Y2,rfl,rfl,h⟩:=h
 have e1:∀z∈Y1,z.y≤x.y:=by
  intro z hz
  obtain⟨c,hc,rfl⟩:=List.getElem_of_mem hz
  have:=h1 c (by omega)
  rw[aE,nP hc,List.getD_eq_getElem?_getD,dC hc]at this
  exact this
 have e2:∀z∈Y2,x.y<z.y:=by
  intro z hz
  obtain⟨c,hc,rfl⟩:=List.getElem_of_mem hz
  have:=h2 (Y1.length+c) (by omega) (by rw[cO];omega)
  rw[aE,nA (by omega),show Y1.length+c-Y1.length=c by omega,List.getD_eq_getElem?_getD,dC hc]at this
  exact this
 have e3:dV ((Y1++Y2)++[x])=Y1++(x::Y2):=by
  refine sW ?_ ?_
  ·refine Srd.app hX.l (List.pairwise_cons.2 ⟨fun z hz=>Int.le_of_lt (e2 z hz),hX.r⟩) fun u hu v hv=>?_
   rcases List.mem_cons.1 hv with rfl | hv
   ·exact e1 u hu
   exact hX.le u hu v hv
  have k1:Kp Wv.y (Y1++([x]++Y2)) (Y1++(Y2++[x])):=Kp.refl.app (Kp.comm fun u hu v hv=>by have:=e2 v hv;rw[List.mem_singleton]at hu;subst hu;omega)
  simpa using k1
 rw[e3]
 simp
theorem oT (h:i<X.length) (hD:D=P++(X++(Y++Q))):aE D (P.length+i)=aE X i:=by
 subst hD
 rw[aE,nA (by omega),show P.length+i-P.length=i by omega,nP h,aE]
theorem oU (h:i<Y.length) (hD:D=P++(X++(Y++Q))):aE D (P.length+X.length+i)=aE Y i:=by
 subst hD
 rw[aE,nA (by omega),nA (by omega),nP (by omega),aE]
 congr 1
 omega
structure Cut (D:List Wv) (p lo hi s r:Nat):Prop where
 b:lo≤s∧s≤r∧r≤hi
 l:∀c,lo≤c→c<s→(aE D c).y≤(aE D (p-c)).y
 u:∀c,r≤c→c<hi→(aE D (p-c)).y<(aE D c).y
theorem Cut.start (h:lo≤hi):Cut D p lo hi lo hi:=⟨by omega,fun c h1 h2=>by omega,fun c h1 h2=>by omega⟩
section
variable {r:Nat}(hD:D=P++(X++(Y++Q))) (hX:Srd Wv.y X) (hY:Srd Wv.y Y) (h:Cut D p lo hi s r) (ha:P.length≤lo) (hm:hi≤P.length+X.length) (hp1:∀c,lo≤c→c<hi→P.length+X.length≤p-c∧p-c<P.length+X.length+Y.length∧c≤p)
include hD hX hY h ha hm hp1
theorem Cut.up (h1:s≤c) (h2:c<r) (hc:¬(aE D (p-c)).y<(aE D c).y):Cut D p lo hi (c+1) r:=by
 have hb:=h.b
 refine⟨by omega,fun d h3 h4=>?_,h.u⟩
 by_cases hd:d<s
 ·exact h.l d h3 hd
 have e1:=oT (P:=P) (X:=X) (Y:=Y) (Q:=Q) (i:=c-P.length) (by omega) hD
 have e2:=oT (P:=P) (X:=X) (Y:=Y) (Q:=Q) (i:=d-P.length) (by omega) hD
 have q1:=hp1 c (by omega) (by omega)
 have q2:=hp1 d (by omega) (by omega)
 have e3:=oU (P:=P) (X:=X) (Y:=Y) (Q:=Q) (i:=p-c-(P.length+X.length)) (by omega) hD
 have e4:=oU (P:=P) (X:=X) (Y:=Y) (Q:=Q) (i:=p-d-(P.length+X.length)) (by omega) hD
 rw[show P.length+(c-P.length)=c by omega]at e1
 rw[show P.length+(d-P.length)=d by omega]at e2
 rw[show P.length+X.length+(p-c-(P.length+X.length))=p-c by omega]at e3
 rw[show P.length+X.length+(p-d-(P.length+X.length))=p-d by omega]at e4
 rw[e1,e3]at hc
 rw[e2,e4]
 have k1:=hX.get (d:=pT) (i:=d-P.length) (j:=c-P.length) (by omega) (by omega)
 have k2:=hY.get (d:=pT) (i:=p-c-(P.length+X.length)) (j:=p-d-(P.length+X.length)) (by omega) (by omega)
 unfold aE at hc⊢
 omega
theorem Cut.dn (h1:s≤c) (h2:c<r) (hc:(aE D (p-c)).y<(aE D c).y):Cut D p lo hi s c:=by
 have hb:=h.b
 refine⟨by omega,h.l,fun d h3 h4=>?_⟩
 by_cases hd:r≤d
 ·exact h.u d hd h4
 have e1:=oT (P:=P) (X:=X) (Y:=Y) (Q:=Q) (i:=c-P.length) (by omega) hD
 have e2:=oT (P:=P) (X:=X) (Y:=Y) (Q:=Q) (i:=d-P.length) (by omega) hD
 have q1:=hp1 c (by omega) (by omega)
 have q2:=hp1 d (by omega) (by omega)
 have e3:=oU (P:=P) (X:=X) (Y:=Y) (Q:=Q) (i:=p-c-(P.length+X.length)) (by omega) hD
 have e4:=oU (P:=P) (X:=X) (Y:=Y) (Q:=Q) (i:=p-d-(P.length+X.length)) (by omega) hD
 rw[show P.length+(c-P.length)=c by omega]at e1
 rw[show P.length+(d-P.length)=d by omega]at e2
 rw[show P.length+X.length+(p-c-(P.length+X.length))=p-c by omega]at e3
 rw[show P.length+X.length+(p-d-(P.length+X.length))=p-d by omega]at e4
 rw[e1,e3]at hc
 rw[e2,e4]
 have k1:=hX.get (d:=pT) (i:=c-P.length) (j:=d-P.length) (by omega) (by omega)
 have k2:=hY.get (d:=pT) (i:=p-d-(P.length+X.length)) (j:=p-c-(P.length+X.length)) (by omega) (by omega)
 unfold aE at hc⊢
 omega
theorem Cut.fin (hr:r≤s) (hlo:lo=P.length∨p+1-lo=P.length+X.length+Y.length) (hhi:hi=P.length+X.length∨p+1-hi=P.length+X.length) (hs1:P.length+X.length≤p+1-s∧p+1-s≤P.length+X.length+Y.length∧s≤p+1):
  ∃A B C E,X=A++B∧Y=C++E∧P.length+A.length=s∧P.length+X.length+C.length=p+1-s∧dV (X++Y)=dV (A++C)++dV (B++E):=by
 have hb:=h.b
 obtain⟨A,B,hX2,hA,hB⟩:=wG (D:=X) (a:=s-P.length) (by omega)
 obtain⟨C,E,hY2,hC,hE⟩:=wG (D:=Y) (a:=p+1-s-(P.length+X.length)) (by omega)
 refine⟨A,B,C,E,hX2,hY2,by omega,by omega,?_⟩
 have hXl:X.length=A.length+B.length:=by rw[hX2,cO]
 have hYl:Y.length=C.length+E.length:=by rw[hY2,cO]
 have gX:∀i,i<X.length→aE D (P.length+i)=aE X i:=fun i hi=>oT hi hD
 have gY:∀i,i<Y.length→aE D (P.length+X.length+i)=aE Y i:=fun i hi=>oU hi hD
 have hXs:=hX
 have hYs:=hY
 rw[hX2]at hXs
 rw[hY2]at hYs
 have key:=BO hXs hYs (fun x hx y hy=>?_) (fun x hx y hy=>?_)
 ·rw[hX2,hY2]
  exact key
 ·-- A before E
  obtain⟨i,hi,rfl⟩:=List.getElem_of_mem hx
  obtain⟨j,hj,rfl⟩:=List.getElem_of_mem hy
  have hlt:lo<s:=by omega
  have h9:=h.l (s-1) (by omega) (by omega)
  have q9:=hp1 (s-1) (by omega) (by omega)
  have e1:=gX (s-1-P.length) (by omega)
  have e2:=gY (p-(s-1)-(P.length+X.length)) (by omega)
  rw[show P.length+(s-1-P.length)=s-1 by omega]at e1
  rw[show P.length+X.length+(p-(s-1)-(P.length+X.length))=p-(s-1) by omega]at e2
  rw[e1,e2]at h9
  have k1:=hX.get (d:=pT) (i:=i) (j:=s-1-P.length) (by omega) (by omega)
  have k2:=hY.get (d:=pT) (i:=p-(s-1)-(P.length+X.length)) (j:=C.length+j) (by omega) (by omega)
  have e3:X.getD i pT=A[i]:=by rw[hX2,nP hi,List.getD_eq_getElem?_getD,dC hi];rfl
  have e4:Y.getD (C.length+j) pT=E[j]:=by rw[hY2,nA (by omega),show C.length+j-C.length=j by omega,List.getD_eq_getElem?_getD,dC hj];rfl
  rw[e3]at k1
  rw[e4]at k2
  unfold aE at h9
  omega
 obtain⟨i,hi9,rfl⟩:=List.getElem_of_mem hx
 obtain⟨j,hj,rfl⟩:=List.getElem_of_mem hy
 have hlt:s<hi:=by omega
 have h9:=h.u s (by omega) (by omega)
 have q9:=hp1 s (by omega) (by omega)
 have e1:=gX (s-P.length) (by omega)
 have e2:=gY (p-s-(P.length+X.length)) (by omega)
 rw[show P.length+(s-P.length)=s by omega]at e1
 rw[show P.length+X.length+(p-s-(P.length+X.length))=p-s by omega]at e2
 rw[e1,e2]at h9
 have k1:=hX.get (d:=pT) (i:=s-P.length) (j:=A.length+i) (by omega) (by omega)
 have k2:=hY.get (d:=pT) (i:=j) (j:=p-s-(P.length+X.length)) (by omega) (by omega)
 have e3:X.getD (A.length+i) pT=B[i]:=by rw[hX2,nA (by omega),show A.length+i-A.length=i by omega,List.getD_eq_getElem?_getD,dC hi9];rfl
 have e4:Y.getD j pT=C[j]:=by rw[hY2,nP hj,List.getD_eq_getElem?_getD,dC hj];rfl
 rw[e3]at k1
 rw[e4]at k2
 unfold aE at h9
 omega
end
theorem Ua (h1:P.length=a) (h2:a+S.length=b) (hk:k+n≤a∨b≤k):((P++(dV S++Q)).drop k).take n=((P++(S++Q)).drop k).take n:=by
 rcases hk with hk | hk
 ·rw[List.drop_append_of_le_length (by omega),List.take_append_of_le_length (by rw[List.length_drop];omega),List.drop_append_of_le_length (by omega),List.take_append_of_le_length (by rw[List.length_drop];omega)]
 have e1:∀Z:List Wv,Z.length=S.length→(P++(Z++Q)).drop k=Q.drop (k-b):=fun Z hZ=>by
  rw[List.drop_append,List.drop_of_length_le (by omega),List.drop_append,List.drop_of_length_le (by omega),List.nil_append,List.nil_append]
  congr 1
  omega
 rw[e1 _ iR,e1 _ rfl]
theorem TS (h1:P.length=a):((P++(S++Q)).drop a).take S.length=S:=by
 subst h1
 simp
theorem TT:Kp Wv.y (P++(dV S++Q)) (P++(S++Q)):=Kp.refl.app ((qK S).app .refl)
end
section
variable {l D P S Q U V M X Y xs A B C E:List Wv}{i j k t n a b c s m p lo hi r:Nat}{x y:Wv}{f:Nat→Prop}
structure Bis (f:Nat→Prop) (lo hi s r:Nat):Prop where
 b:lo≤s∧s≤r∧r≤hi
 l:∀c,lo≤c→c<s→f c
 u:∀c,r≤c→c<hi→¬f c
theorem Bis.start (h:lo≤hi):Bis f lo hi lo hi:=⟨by omega,fun c h1 h2=>by omega,fun c h1 h2=>by omega⟩
theorem Bis.up (h:Bis f lo hi s r) (hf:∀c d,lo≤c→c≤d→d<hi→f d→f c) (h1:s≤c) (h2:c<r) (hc:f c):Bis f lo hi (c+1) r:=by
 have hb:=h.b
 exact⟨by omega,fun d h3 h4=>hf d c h3 (by omega) (by omega) hc,h.u⟩
theorem Bis.dn (h:Bis f lo hi s r) (hf:∀c d,lo≤c→c≤d→d<hi→f d→f c) (h1:s≤c) (h2:c<r) (hc:¬f c):Bis f lo hi s c:=by
 have hb:=h.b
 exact⟨by omega,h.l,fun d h3 h4 hd=>hc (hf c d (by omega) h3 h4 hd)⟩
theorem XI (hD:D=P++(X++(Y++Q))) (hX:Srd Wv.y X) (ha:P.length=a) (hm:a+X.length=m):∀c d,a≤c→c≤d→d<m→(aE D c).y≤(aE D d).y:=by
 intro c d h1 h2 h3
 have e1:=oT (P:=P) (X:=X) (Y:=Y) (Q:=Q) (i:=c-P.length) (by omega) hD
 have e2:=oT (P:=P) (X:=X) (Y:=Y) (Q:=Q) (i:=d-P.length) (by omega) hD
 rw[show P.length+(c-P.length)=c by omega]at e1
 rw[show P.length+(d-P.length)=d by omega]at e2
 rw[e1,e2]
 exact hX.get (by omega) (by omega)
theorem XG (hD:D=P++(X++(Y++Q))) (hY:Srd Wv.y Y) (ha:P.length=a) (hm:a+X.length=m) (hb:m+Y.length=b):∀c d,m≤c→c≤d→d<b→(aE D c).y≤(aE D d).y:=by
 intro c d h1 h2 h3
 have e1:=oU (P:=P) (X:=X) (Y:=Y) (Q:=Q) (i:=c-m) (by omega) hD
 have e2:=oU (P:=P) (X:=X) (Y:=Y) (Q:=Q) (i:=d-m) (by omega) hD
 rw[show P.length+X.length+(c-m)=c by omega]at e1
 rw[show P.length+X.length+(d-m)=d by omega]at e2
 rw[e1,e2]
 exact hY.get (by omega) (by omega)
theorem XH (hx:xs=P++([x]++(Y++Q))) (ha:P.length=a) (hm:m=a+1) (hb:m+Y.length=b) (hY:Srd Wv.y Y) (h:Bis (fun c=>(aE xs c).y<(aE xs a).y) m b i j) (hj:j≤i) (hB:B1 P x Y Q (i-1) D):D=P++(dV (x::Y)++Q):=by
 subst hm
 have hb9:=h.b
 have ex:aE xs a=x:=by
  have:=oT (P:=P) (X:=[x]) (Y:=Y) (Q:=Q) (i:=0) (by simp) hx
  rw[ha]at this
  exact this
 have eY:∀c,c<Y.length→aE xs (a+1+c)=aE Y c:=fun c hc=>by
  have:=oU (P:=P) (X:=[x]) (Y:=Y) (Q:=Q) (i:=c) hc hx
  rw[ha]at this
  exact this
 refine hB.fin (by omega) (by omega) hY (fun c hc=>?_) fun c h1 h2=>?_
 ·have:=h.l (a+1+c) (by omega) (by omega)
  rw[ex,eY c (by omega)]at this
  exact this
 have:=h.u (a+1+c) (by omega) (by omega)
 rw[ex,eY c h2]at this
 omega
theorem XJ (hx:xs=P++(X++([x]++Q))) (ha:P.length=a) (hm:a+X.length=m) (hX:Srd Wv.y X) (h:Bis (fun c=>¬(aE xs m).y<(aE xs c).y) a m i j) (hj:j≤i) (hB:B2 P X x Q i D):D=P++(dV (X++[x])++Q):=by
 have hb9:=h.b
 have ex:aE xs m=x:=by
  have:=oU (P:=P) (X:=X) (Y:=[x]) (Q:=Q) (i:=0) (by simp) hx
  rw[ha,hm]at this
  exact this
 have eX:∀c,c<X.length→aE xs (a+c)=aE X c:=fun c hc=>by
  have:=oT (P:=P) (X:=X) (Y:=[x]) (Q:=Q) (i:=c) hc hx
  rw[ha]at this
  exact this
 refine hB.fin hX (fun c hc=>?_) fun c h1 h2=>?_
 ·have:=h.l (a+c) (by omega) (by omega)
  rw[ex,eX c (by omega)]at this
  omega
 have:=h.u (a+c) (by omega) (by omega)
 rw[ex,eX c h2]at this
 omega
theorem PF (hx:xs=P++((A++B)++((C++E)++Q))) (h1:P.length+A.length=s) (h2:s+B.length=m) (h3:m+C.length=n):Ro m (m-s) (n-m) xs (P++(A++(C++(B++(E++Q))))):=⟨P++A,B,C,E++Q,by rw[hx];simp,by rw[cO];omega,by omega,by omega,by simp⟩
theorem PG (hx:xs=P++((A++B)++((C++E)++Q))) (h:B.length=0∨C.length=0):xs=P++(A++(C++(B++(E++Q)))):=by
 rcases h with h | h
 ·rw[List.eq_nil_of_length_eq_zero h]at hx⊢
  rw[hx]
  simp
 rw[List.eq_nil_of_length_eq_zero h]at hx⊢
 rw[hx]
 simp
theorem Xy (hA:Srd Wv.y A) (hC:Srd Wv.y C) (h:A.length=0∨C.length=0):dV (A++C)=A++C:=by
 rcases h with h | h
 ·rw[List.eq_nil_of_length_eq_zero h,List.nil_append]
  exact Pn hC
 rw[List.eq_nil_of_length_eq_zero h,List.append_nil]
 exact Pn hA
theorem DN:dV (S.take 1)=S.take 1:=by
 cases S with
 | nil=>rfl
 | cons x S=>rfl
def Blk9 (s t:Nat) (D:List Wv):Prop:=∀k,k<t→Srd Wv.y ((D.drop (k*s)).take s)
def All9 (s:Nat) (D:List Wv):Prop:=∀k,Srd Wv.y ((D.drop (k*s)).take s)
theorem Srd.take {l:List Wv}(h:Srd Wv.y l) (n:Nat):Srd Wv.y (l.take n):=List.Pairwise.sublist (List.take_sublist n l) h
theorem Blk9.out (h:Blk9 s t (P++(S++Q))) (hP:P.length=t*s):Blk9 s t (P++(dV S++Q)):=by
 intro k hk
 have h1:(k+1)*s≤t*s:=Nat.mul_le_mul_right s hk
 rw[Nat.succ_mul]at h1
 rw[Ua (a:=t*s) (b:=t*s+S.length) hP rfl (.inl h1)]
 exact h k hk
theorem Blk9.step (h:Blk9 s t (P++(S++Q))) (hP:P.length=t*s) (hS:S.length=s):Blk9 s (t+1) (P++(dV S++Q)):=by
 intro k hk
 rcases Nat.lt_succ_iff_lt_or_eq.1 hk with hk | rfl
 ·exact h.out hP k hk
 have:=TS (P:=P) (S:=dV S) (Q:=Q) (a:=k*s) hP
 rw[iR,hS]at this
 rw[this]
 exact pS _
theorem Blk9.all (h:Blk9 s t (P++(S++[]))) (hP:P.length=t*s) (hS:S.length≤s):All9 s (P++(dV S++[])):=by
 intro k
 rcases Nat.lt_trichotomy k t with hk | rfl | hk
 ·exact h.out hP k hk
 ·rw[List.append_nil,←hP,List.drop_append_of_le_length (bC _),List.drop_length,List.nil_append]
  exact(pS _).take _
 have h1:(t+1)*s≤k*s:=Nat.mul_le_mul_right s hk
 rw[Nat.succ_mul]at h1
 rw[List.drop_of_length_le (by rw[List.append_nil,cO,iR];omega),List.take_nil]
 exact List.Pairwise.nil
structure Mg9 (s t:Nat) (D:List Wv):Prop where
 l:Blk9 (2*s) t D
 u:∀k,2*t≤k→Srd Wv.y ((D.drop (k*s)).take s)
theorem Mg9.start (h:All9 s D):Mg9 s 0 D:=⟨fun k hk=>by omega,fun k _=>h k⟩
theorem xQ:2*t*s=t*(2*s):=by rw[Nat.mul_comm 2 t,Nat.mul_assoc]
theorem Mg9.px (h:Mg9 s t (P++(X++(Y++Q)))) (hP:P.length=t*(2*s)) (hX:X.length=s):Srd Wv.y X:=by
 have h1:=h.u (2*t) (bC _)
 rw[xQ,←hP,List.drop_append_of_le_length (bC _),List.drop_length,List.nil_append,←hX,List.take_append_of_le_length (bC _),List.take_length]at h1
 exact h1
theorem Mg9.py (h:Mg9 s t (P++(X++(Y++Q)))) (hP:P.length=t*(2*s)) (hX:X.length=s) (hY:Y.length≤s) (hQ:Y.length=s∨Q=[]):Srd Wv.y Y:=by
 have h1:=h.u (2*t+1) (by omega)
 rw[Nat.succ_mul,xQ,←hP]at h1
 rw[←List.append_assoc,List.drop_append_of_le_length (by rw[cO];omega),←hX,←cO,List.drop_length,List.nil_append]at h1
 rcases hQ with hQ | rfl
 ·rw[hX,←hQ,List.take_append_of_le_length (bC _),List.take_length]at h1
  exact h1
 rw[List.append_nil,fF (by omega)]at h1
 exact h1
theorem Mg9.step (h:Mg9 s t (P++(S++Q))) (hP:P.length=t*(2*s)) (hS:S.length=2*s):Mg9 s (t+1) (P++(dV S++Q)):=by
 refine⟨h.l.step hP hS,fun k hk=>?_⟩
 have h1:(2*(t+1))*s≤k*s:=Nat.mul_le_mul_right s hk
 rw[xQ,Nat.succ_mul]at h1
 rw[Ua (a:=t*(2*s)) (b:=t*(2*s)+S.length) hP rfl (.inr (by omega))]
 exact h.u k (by omega)
theorem Mg9.all2 (h:Mg9 s t D) (hD:D.length≤t*(2*s)+s):All9 (2*s) D:=by
 intro k
 rcases Nat.lt_or_ge k t with hk | hk
 ·exact h.l k hk
 have h1:t*(2*s)≤k*(2*s):=Nat.mul_le_mul_right _ hk
 have h2:=h.u (2*k) (by omega)
 rw[xQ]at h2
 rw[fF (by rw[List.length_drop];omega)]at h2⊢
 exact h2
theorem All9.fin (h:All9 s D) (hs:D.length≤s) (hk:Kp Wv.y D xs):dV xs=D:=by
 have h1:=h 0
 rw[Nat.zero_mul,List.drop_zero,fF hs]at h1
 exact sW h1 hk
theorem Ut (h:Kp Wv.y (P++(S++Q)) xs):Kp Wv.y (P++(dV S++Q)) xs:=TT.trans h
end
structure Ur where
 v:Int
 e:Int
 y:Int
 n:Rat
def lW (U:List Ur) (p:Ur→Bool):Rat:=mR ((U.filter p).map Ur.n)
theorem wM {U:List Ur}{u:Ur}{p:Ur→Bool}:lW (U++[u]) p=if p u then lW U p+u.n else lW U p:=by
 unfold lW
 rw[List.filter_append,List.map_append]
 split
 ·rename_i h
  rw[List.filter_cons_of_pos h]
  exact AZ _ _
 rename_i h
 rw[List.filter_cons_of_neg h]
 simp
def cS (U:List Ur) (y e:Int):Rat:=lW U fun u=>decide (u.v=y)&&decide (u.e=e)
def cV (U:List Ur) (y:Int):Rat:=lW U fun u=>decide (u.y=y)
def dQ (U:List Ur) (y e:Int):Rat:=lW U fun u=>decide (u.y=y)&&decide (u.e=e)
structure Rg where
 f:Nat
 E:Nat
 mem:Nat→Nat→Bool
 base:Nat→Nat→Rat
 lim:Nat→Rat
namespace Rg
def isV (R:Rg) (y e:Nat):Bool:= !R.mem y e&&decide (R.base y e<0)
def los (R:Rg) (y e:Nat):Rat:=bif R.isV y e then-(R.base y e)else 0
def left (R:Rg) (U:List Ur) (y e:Nat):Rat:=R.los y e-cS U y e
def room (R:Rg) (U:List Ur) (e t:Nat):Rat:=aJ (R.base t e-dQ U t e) [R.lim t-cV U t]
def us (U:List Ur) (y e:Int) (t:Nat) (n:Rat):List Ur:=if 0<n then U++[⟨y,e,t,n⟩]else U
def use (R:Rg) (U:List Ur) (y e t:Nat):List Ur:=us U y e t (aJ (R.left U y e) [R.room U e t])
def vl (R:Rg):Nat→List (Nat×Nat)
 | 0=>[]
 | y+1=>R.vl y++((List.range R.E).filter (R.isV y)).map fun e=>(y,e)
def may (R:Rg) (t:Nat) (p:Nat×Nat):Bool:=decide (t≤p.1+R.f)&&R.mem t p.2
def step (R:Rg) (U:List Ur) (t:Nat):List Ur:=((R.vl t).filter (R.may t)).foldl (fun U p=>R.use U p.1 p.2 t) U
def run (R:Rg):Nat→List Ur
 | 0=>[]
 | t+1=>R.step (R.run t) t
def DE (R:Rg) (y:Nat):Nat→Nat
 | 0=>1
 | e+1=>R.DE y e*(R.base y e).den
def DY (R:Rg):Nat→Nat
 | 0=>1
 | y+1=>R.DY y*((R.lim y).den*R.DE y R.E)
structure Ok (R:Rg) (N:Nat):Prop where
 base:∀y e,y<N→e<R.E→Sz 4 (R.base y e)
 lim:∀y,y<N→Sz 4 (R.lim y)
 l0:∀y,y<N→0≤R.lim y
 n:N≤10
 e:R.E≤6
 f:R.f≤40
structure Iv (R:Rg) (N:Nat) (U:List Ur):Prop where
 v:∀y e,y<N→e<R.E→(0≤R.left U y e∧R.left U y e≤R.los y e)∧Mu (R.DY N) (R.left U y e)
 b:∀t e,t<N→e<R.E→(0≤dQ U t e∧dQ U t e≤BL (R.base t e))∧Mu (R.DY N) (dQ U t e)
 y:∀t,t<N→(0≤cV U t∧cV U t≤R.lim t)∧Mu (R.DY N) (cV U t)
end Rg
section
variable {R:Rg}{U:List Ur}{N y y' e e' t t' k n:Nat}{m:Rat}{I J:List Nat}
open Rg
theorem Ac {y e y' e':Int}:cS (U++[⟨y,e,(t:Int),m⟩]) y' e'=if y=y'∧e=e' then cS U y' e'+m else cS U y' e':=by
 unfold cS
 rw[wM]
 simp only[Bool.and_eq_true,decide_eq_true_eq]
theorem Fw {y e:Int}{t':Int}:cV (U++[⟨y,e,(t:Int),m⟩]) t'=if(t:Int)=t' then cV U t'+m else cV U t':=by
 unfold cV
 rw[wM]
 simp only[decide_eq_true_eq]
theorem Ad {y e:Int}{t' e':Int}:dQ (U++[⟨y,e,(t:Int),m⟩]) t' e'=if(t:Int)=t'∧e=e' then dQ U t' e'+m else dQ U t' e':=by
 unfold dQ
 rw[wM]
 simp only[Bool.and_eq_true,decide_eq_true_eq]
theorem wE {y e:Int}(h:¬0<m):us U y e t m=U:=if_neg h
theorem lF {y e:Int}(h:0<m):us U y e t m=U++[⟨y,e,t,m⟩]:=if_pos h
theorem Ub (h:0≤m):R.left (us U y e t m) y e=R.left U y e-m:=by
 by_cases hp:0<m
 ·rw[lF hp]
  unfold Rg.left
  rw[Ac,if_pos ⟨rfl,rfl⟩]
  grind
 rw[wE hp]
 grind
theorem nY (h:¬(y=y'∧e=e')):R.left (us U y e t m) y' e'=R.left U y' e':=by
 by_cases hp:0<m
 ·rw[lF hp]
  unfold Rg.left
  rw[Ac,if_neg (by omega)]
 rw[wE hp]
theorem zO (h:¬(y=y'∧e=e')):R.left (R.use U y e t) y' e'=R.left U y' e':=nY h
theorem BP:0≤R.los y e:=by
 unfold Rg.los Rg.isV
 cases R.mem y e
 ·by_cases h:R.base y e<0
  ·simp[h]
   grind
  simp[h]
 simp
theorem Dv (h:R.isV y e=false):R.los y e=0:=by unfold Rg.los;rw[h];rfl
theorem uZ (h:R.isV y e=true):R.los y e=-(R.base y e)∧0<R.los y e:=by
 have e1:R.los y e=-(R.base y e):=by unfold Rg.los;rw[h];rfl
 refine⟨e1,?_⟩
 rw[e1]
 unfold Rg.isV at h
 simp at h
 grind
theorem gK {p:Nat×Nat}:∀{t:Nat},p∈R.vl t↔p.1<t∧p.2<R.E∧R.isV p.1 p.2=true
 | 0=>by simp[Rg.vl]
 | t+1=>by
  unfold Rg.vl
  rw[List.mem_append,gK (t:=t)]
  constructor
  ·rintro(h | h)
   ·exact⟨by omega,h.2⟩
   obtain⟨e,he,rfl⟩:=List.mem_map.1 h
   rw[List.mem_filter,List.mem_range]at he
   exact⟨by dsimp only;omega,he⟩
  rintro⟨h1,h2,h3⟩
  by_cases h:p.1<t
  ·exact .inl ⟨h,h2,h3⟩
  refine .inr (List.mem_map.2 ⟨p.2,?_,?_⟩)
  ·rw[List.mem_filter,List.mem_range]
   have:p.1=t:=by omega
   rw[←this]
   exact⟨h2,h3⟩
  exact Prod.ext (by dsimp only;omega) rfl
def TU (p q:Nat×Nat):Prop:=p.1<q.1∨(p.1=q.1∧p.2<q.2)
theorem Pq:∀t:Nat,(R.vl t).Pairwise TU
 | 0=>List.Pairwise.nil
 | t+1=>by
  unfold Rg.vl
  refine List.pairwise_append.2 ⟨Pq t,?_,fun p hp q hq=>?_⟩
  ·rw[List.pairwise_map]
   exact(List.pairwise_lt_range.filter _).imp fun h=>.inr ⟨rfl,h⟩
  obtain⟨e,he,rfl⟩:=List.mem_map.1 hq
  exact .inl (gK.1 hp).1
theorem hG (t:Nat):(R.vl t).Nodup:=(Pq t).imp fun h e=>by subst e;unfold TU at h;omega
theorem lK (h:R.E≤6):∀t:Nat,(R.vl t).length≤6*t
 | 0=>bC _
 | t+1=>by
  have h1:=lK h t
  have h2:=List.length_filter_le (R.isV t) (List.range R.E)
  unfold Rg.vl
  rw[cO,dF]
  rw[List.length_range]at h2
  omega
theorem BQ:∀e,0<R.DE y e
 | 0=>Nat.one_pos
 | e+1=>Nat.mul_pos (BQ e) (R.base y e).den_pos
theorem BR:∀t,0<R.DY t
 | 0=>Nat.one_pos
 | t+1=>Nat.mul_pos (BR t) (Nat.mul_pos (R.lim t).den_pos (BQ _))
theorem JL:∀{k:Nat},e<k→Mu (R.DE y k) (R.base y e)
 | k+1,h=>by
  rcases Nat.lt_succ_iff_lt_or_eq.1 h with h | rfl
  ·exact(JL h).up'
  exact(Mu.self _).up
theorem Hw:∀{N:Nat},y<N→e<R.E→Mu (R.DY N) (R.base y e)
 | N+1,h,he=>by
  rcases Nat.lt_succ_iff_lt_or_eq.1 h with h | rfl
  ·exact(Hw h he).up'
  exact((JL he).up).up
theorem Uc:∀{N:Nat},y<N→Mu (R.DY N) (R.lim y)
 | N+1,h=>by
  rcases Nat.lt_succ_iff_lt_or_eq.1 h with h | rfl
  ·exact(Uc h).up'
  exact((Mu.self _).up').up
theorem Hz (h:y<N) (he:e<R.E):Mu (R.DY N) (R.los y e):=by
 unfold Rg.los
 cases R.isV y e
 ·exact Mu.zero
 exact(Hw h he).neg
theorem TV (h:∀e,e<k→Sz 4 (R.base y e)):(dg 4294967296 (R.DE y k)).length≤1+4*k:=by
 induction k with
 | zero=>exact dK (by omega) (by simp[Rg.DE])
 | succ k ih=>
  have h1:=ih fun e he=>h e (by omega)
  have h2:=(h k (by omega)).2
  have h4:=oS (R.DE y k) (R.base y k).den
  unfold Rg.DE
  omega
theorem BS (hE:R.E≤6):∀{N:Nat},(∀y e,y<N→e<R.E→Sz 4 (R.base y e))→(∀y,y<N→Sz 4 (R.lim y))→(dg 4294967296 (R.DY N)).length≤1+29*N
 | 0,_,_=>dK (by omega) (by simp[Rg.DY])
 | N+1,h,h'=>by
  have h1:=BS hE (N:=N) (fun y e hy he=>h y e (by omega) he) fun y hy=>h' y (by omega)
  have h2:=(h' N (by omega)).2
  have h3:=TV (R:=R) (y:=N) (k:=R.E) fun e he=>h N e (by omega) he
  have h4:=oS (R.DY N) ((R.lim N).den*R.DE N R.E)
  have h5:=oS (R.lim N).den (R.DE N R.E)
  show(dg 4294967296 (R.DY N*((R.lim N).den*R.DE N R.E))).length≤_
  omega
theorem Rg.Ok.sz (h:R.Ok N){q:Rat}(h0:0≤q) (hB:q≤(BB:Rat)) (hm:Mu (R.DY N) q):Sz 300 q:=hm.sz h0 hB (BR N) (by have:=BS h.e h.base h.lim;have:=h.n;have:=TP;omega)
theorem BT:(0:Rat)≤(BB:Rat):=by exact_mod_cast Nat.zero_le BB
theorem Rg.Ok.los_le (h:R.Ok N) (hy:y<N) (he:e<R.E):R.los y e≤(BB:Rat):=by
 have h1:-(R.base y e)≤(BB:Rat):=Wm (uV (h.base y e hy he))
 have:=BT
 unfold Rg.los
 cases R.isV y e
 ·exact this
 exact h1
theorem Rg.Ok.abv_le (h:R.Ok N) (hy:y<N) (he:e<R.E):BL (R.base y e)≤(BB:Rat):=by
 have h1:=Wm (h.base y e hy he)
 have:=BT
 rw[Pg]
 split <;> grind
theorem Rg.Ok.sz_los (h:R.Ok N) (hy:y<N) (he:e<R.E):Sz 300 (R.los y e):=h.sz BP (h.los_le hy he) (Hz hy he)
theorem Rg.Iv.sz_left (hI:R.Iv N U) (h:R.Ok N) (hy:y<N) (he:e<R.E):Sz 300 (R.left U y e):=h.sz (hI.v y e hy he).1.1 (Rat.le_trans (hI.v y e hy he).1.2 (h.los_le hy he)) (hI.v y e hy he).2
theorem Rg.Iv.sz_eIn (hI:R.Iv N U) (h:R.Ok N) (ht:t<N) (he:e<R.E):Sz 300 (dQ U t e):=h.sz (hI.b t e ht he).1.1 (Rat.le_trans (hI.b t e ht he).1.2 (h.abv_le ht he)) (hI.b t e ht he).2
theorem Rg.Iv.sz_yIn (hI:R.Iv N U) (h:R.Ok N) (ht:t<N):Sz 300 (cV U t):=h.sz (hI.y t ht).1.1 (Rat.le_trans (hI.y t ht).1.2 (Wm (h.lim t ht))) (hI.y t ht).2
theorem TW:cS U y e=R.los y e-R.left U y e:=by unfold Rg.left;grind
theorem Rg.Iv.sz_vOf (hI:R.Iv N U) (h:R.Ok N) (hy:y<N) (he:e<R.E):Sz 300 (cS U y e):=by
 obtain⟨⟨h1,h2⟩,h3⟩:=hI.v y e hy he
 have h4:=h.los_le hy he
 rw[TW (R:=R)]
 exact h.sz (by grind) (by grind) ((Hz hy he).sub h3)
theorem Rg.Iv.nil (h:R.Ok N):R.Iv N []:=by
 refine⟨fun y e hy he=>?_,fun t e ht he=>?_,fun t ht=>?_⟩
 ·have e1:R.left [] y e=R.los y e:=by
   unfold Rg.left
   show R.los y e-0=_
   grind
  rw[e1]
  exact⟨⟨BP,Rat.le_refl⟩,Hz hy he⟩
 ·exact⟨⟨Rat.le_refl,TL _⟩,.zero⟩
 exact⟨⟨Rat.le_refl,h.l0 t ht⟩,.zero⟩
theorem GW:R.room U e t≤R.base t e-dQ U t e:=pF _ _
theorem GX:R.room U e t≤R.lim t-cV U t:=Pj _ _
theorem Rg.Iv.us (hI:R.Iv N U) (hy:y<N) (he:e<R.E) (ht:t<N) (h1:m≤R.left U y e) (h2:m≤R.room U e t) (hm:Mu (R.DY N) m):R.Iv N (us U y e t m):=by
 by_cases h0:0<m
 ·have h3:=Rat.le_trans h2 GW
  have h4:=Rat.le_trans h2 GX
  refine⟨fun y' e' hy' he'=>?_,fun t' e' ht' he'=>?_,fun t' ht'=>?_⟩
  ·obtain⟨⟨k1,k2⟩,k3⟩:=hI.v y' e' hy' he'
   by_cases hq:y=y'∧e=e'
   ·obtain⟨rfl,rfl⟩:=hq
    rw[Ub (by grind)]
    exact⟨⟨by grind,by grind⟩,k3.sub hm⟩
   rw[nY hq]
   exact⟨⟨k1,k2⟩,k3⟩
  ·obtain⟨⟨k1,k2⟩,k3⟩:=hI.b t' e' ht' he'
   rw[lF h0,Ad]
   split
   ·rename_i hq
    have e1:t=t':=by omega
    have e2:e=e':=by omega
    subst e1
    subst e2
    refine⟨⟨by grind,?_⟩,k3.add hm⟩
    rw[TM (by grind)]
    grind
   exact⟨⟨k1,k2⟩,k3⟩
  obtain⟨⟨k1,k2⟩,k3⟩:=hI.y t' ht'
  rw[lF h0,Fw]
  split
  ·rename_i hq
   have e1:t=t':=by omega
   subst e1
   exact⟨⟨by grind,by grind⟩,k3.add hm⟩
  exact⟨⟨k1,k2⟩,k3⟩
 rw[wE h0]
 exact hI
theorem Mb (hI:R.Iv N U) (he:e<R.E) (ht:t<N):Mu (R.DY N) (R.room U e t):=((Hw ht he).sub (hI.b t e ht he).2).min ((Uc ht).sub (hI.y t ht).2)
theorem Rg.Iv.use (hI:R.Iv N U) (hy:y<N) (he:e<R.E) (ht:t<N):R.Iv N (R.use U y e t):=hI.us hy he ht (pF _ _) (Pj _ _) ((hI.v y e hy he).2.min (Mb hI he ht))
theorem Rg.Iv.fold (ht:t<N):∀(L:List (Nat×Nat)){U:List Ur},R.Iv N U→(∀p∈L,p.1<N∧p.2<R.E)→R.Iv N (L.foldl (fun U p=>R.use U p.1 p.2 t) U)
 | [],_,h,_=>h
 | p::L,U,h,hL=>by
  have h1:=hL p (List.mem_cons_self ..)
  exact Rg.Iv.fold ht L (h.use h1.1 h1.2 ht) fun q hq=>hL q (List.mem_cons_of_mem _ hq)
theorem Rg.Iv.step (hI:R.Iv N U) (ht:t<N):R.Iv N (R.step U t):=hI.fold ht _ fun p hp=>by
 have:=gK.1 (List.mem_filter.1 hp).1
 exact⟨by omega,this.2.1⟩
theorem Rg.Ok.run (h:R.Ok N):∀{k:Nat},k≤N→R.Iv N (R.run k)
 | 0,_=>.nil h
 | k+1,hk=>(Rg.Ok.run h (k:=k) (by omega)).step (by omega)
end
def Rg.wl (R:Rg) (U:List Ur) (e:Nat) (I:List Nat):List (Int×Rat):=I.filterMap fun y=>if 0<R.left U y e then some ((y:Int),R.left U y e)else none
def Rg.I (R:Rg) (t:Nat):List Nat:=List.range' (t-R.f) (t-(t-R.f))
def Rg.J (R:Rg) (t:Nat):List Nat:=(R.I t++[t]).filter fun(i:Nat)=> !(!decide ((i:Int)<(t:Int)-(R.f:Int)+1))
section
variable {R:Rg}{U U':List Ur}{N y y' e e' t t' k n:Nat}{m:Rat}{I J:List Nat}
open Rg
theorem kN {i:Nat}:i∈R.I k↔i<k∧k≤i+R.f:=by
 unfold Rg.I
 rw[List.mem_range'_1]
 omega
theorem Ul:(R.I k).Pairwise (· < ·):=List.pairwise_lt_range' ..
theorem uX:(R.I k).length≤k:=by
 unfold Rg.I
 rw[List.length_range']
 omega
theorem jY (h:0<R.left U y e):R.wl U e (y::I)=((y:Int),R.left U y e)::R.wl U e I:=by
 unfold Rg.wl
 rw[List.filterMap_cons,if_pos h]
theorem mI (h:¬0<R.left U y e):R.wl U e (y::I)=R.wl U e I:=by
 unfold Rg.wl
 rw[List.filterMap_cons,if_neg h]
theorem Ch:∀{I:List Nat},(∀i∈I,R.left U i e=R.left U' i e)→R.wl U e I=R.wl U' e I
 | [],_=>rfl
 | i::I,h=>by
  have e1:=h i (List.mem_cons_self ..)
  have ih:=Ch (I:=I) fun j hj=>h j (List.mem_cons_of_mem _ hj)
  by_cases hp:0<R.left U i e
  ·rw[jY hp,jY (by rw[←e1];exact hp),e1,ih]
  rw[mI hp,mI (by rw[←e1];exact hp),ih]
theorem KO:R.wl U e (I++J)=R.wl U e I++R.wl U e J:=by simp[Rg.wl]
theorem jG {x:Int×Rat}:x∈R.wl U e I↔∃i∈I,x=((i:Int),R.left U i e)∧0<R.left U i e:=by
 unfold Rg.wl
 rw[List.mem_filterMap]
 constructor
 ·rintro⟨i,hi,h⟩
  split at h
  ·rename_i hp
   injection h with h
   exact⟨i,hi,h.symm,hp⟩
  cases h
 rintro⟨i,hi,rfl,hp⟩
 exact⟨i,hi,if_pos hp⟩
theorem uW:(R.wl U e I).length≤I.length:=List.length_filterMap_le ..
theorem Fl {p:Int→Bool}:(R.wl U e I).filter (fun x=>p x.1)=R.wl U e (I.filter fun(i:Nat)=>p (i:Int)):=by
 induction I with
 | nil=>rfl
 | cons i I ih=>
  by_cases hp:0<R.left U i e
  ·rw[jY hp]
   cases hq:p (i:Int)with
   | true=>rw[List.filter_cons_of_pos (by exact hq),List.filter_cons_of_pos (by exact hq),jY hp,ih]
   | false=>rw[List.filter_cons_of_neg (by simp[hq]),List.filter_cons_of_neg (by simp[hq]),ih]
  rw[mI hp,ih]
  cases hq:p (i:Int)with
  | true=>rw[List.filter_cons_of_pos (by exact hq),mI hp]
  | false=>rw[List.filter_cons_of_neg (by simp[hq])]
theorem NK:R.I (k+1)=(R.I k++[k]).filter fun(i:Nat)=> !decide ((i:Int)<(k:Int)-(R.f:Int)+1):=by
 have e1:R.I k++[k]=List.range' (k-R.f) (k+1-(k-R.f)):=by
  unfold Rg.I
  rw[show k+1-(k-R.f)=(k-(k-R.f))+1 by omega,List.range'_concat,show k-R.f+1*(k-(k-R.f))=k by omega]
 rw[e1]
 unfold Rg.I
 by_cases h:k<R.f
 ·rw[show k+1-R.f=0 by omega,show k-R.f=0 by omega]
  symm
  rw[List.filter_eq_self]
  intro i hi
  simp
  omega
 rw[show k+1-(k-R.f)=R.f+1 by omega,List.range'_succ,List.filter_cons_of_neg (by simp;omega),show k+1-(k+1-R.f)=R.f by omega,show k-R.f+1=k+1-R.f by omega]
 symm
 rw[List.filter_eq_self]
 intro i hi
 have:=List.mem_range'_1.1 hi
 simp
 omega
theorem RF:eI (fun x:Int×Rat=>decide (x.1<(t:Int)-(R.f:Int)+1)) (R.wl U e (R.I t++[t]))=R.wl U e (R.I (t+1)):=by
 unfold eI
 rw[Fl (p:=fun z=> !decide (z<(t:Int)-(R.f:Int)+1)),NK]
theorem RG:eI (fun x:Int×Rat=> !decide (x.1<(t:Int)-(R.f:Int)+1)) (R.wl U e (R.I t++[t]))=R.wl U e (R.J t):=by
 unfold eI
 rw[Fl (p:=fun z=> !(!decide (z<(t:Int)-(R.f:Int)+1)))]
 rfl
theorem Lq {i:Nat}:i∈R.J t↔i+R.f=t:=by
 unfold Rg.J
 rw[List.mem_filter,List.mem_append,kN,List.mem_singleton]
 simp only[Bool.not_not,decide_eq_true_eq]
 omega
theorem Jl {fr:Int}:∀l:List (Int×Rat),aS fr l 0=(l,[],0)
 | []=>rfl
 | x::l=>by
  rw[Tw (fun h=>by exact absurd h.2 (by grind)),Jl l]
theorem Qt (hm:0<m) (hle:m≤R.left U y e):∀{I:List Nat},(∀i∈I,0≤R.left U i e)→I.Pairwise (· < ·)→y∈I→(aS (y:Int) (R.wl U e I) m).1.filter (fun x=> !nX x.1 x.2)=R.wl (us U y e t m) e I
 | [],_,_,h=>by cases h
 | i::I,h0,hp,h=>by
  have hp1:=List.pairwise_cons.1 hp
  have fl:∀L:List (Int×Rat),(∀x∈L,0<x.2)→L.filter (fun x=> !nX x.1 x.2)=L:=fun L hL=>by
   rw[List.filter_eq_self]
   intro x hx
   simp only[nX,Bool.not_eq_true',decide_eq_false_iff_not]
   have:=(kA _).2 (hL x hx)
   omega
  by_cases hi:i=y
  ·subst hi
   have hpos:0<R.left U i e:=by grind
   rw[jY hpos,GU (x:=((i:Int),R.left U i e)) (Int.le_refl _) hm]
   have hq:aJ (R.left U i e) [m]=m:=by rw[Kq];split <;> grind
   dsimp only
   rw[hq,show m-m=(0:Rat) by grind,Jl]
   dsimp only
   have hrest:R.wl (us U i e t m) e I=R.wl U e I:=Ch fun j hj=>nY (by have:=hp1.1 j hj;omega)
   have hfl:=fl (R.wl U e I) fun x hx=>by
    obtain⟨j,_,rfl,h9⟩:=jG.1 hx
    exact h9
   have hl:=Ub (R:=R) (U:=U) (y:=i) (e:=e) (t:=t) (m:=m) (by grind)
   by_cases hz:0<R.left U i e-m
   ·rw[List.filter_cons_of_pos (by simp only[nX,Bool.not_eq_true',decide_eq_false_iff_not];have:=(kA _).2 hz;omega),hfl,jY (by rw[hl];exact hz),hl,hrest]
   have hz0:R.left U i e-m=0:=by grind
   rw[List.filter_cons_of_neg (by rw[hz0];simp[nX]),hfl,mI (by rw[hl];exact hz),hrest]
  have hyI:y∈I:=by
   rcases List.mem_cons.1 h with h | h
   ·exact absurd h.symm hi
   exact h
  have hlt:=hp1.1 y hyI
  have ih:=Qt (I:=I) hm hle (fun j hj=>h0 j (List.mem_cons_of_mem _ hj)) hp1.2 hyI
  have hsame:=nY (R:=R) (U:=U) (t:=t) (m:=m) (y:=y) (e:=e) (y':=i) (e':=e) (by omega)
  by_cases hpos:0<R.left U i e
  ·rw[jY hpos,Tw (x:=((i:Int),R.left U i e)) (fun h9=>by have:=h9.1;dsimp only at this;omega)]
   dsimp only
   rw[List.filter_cons_of_pos (by simp only[nX,Bool.not_eq_true',decide_eq_false_iff_not];have:=(kA _).2 hpos;omega),ih,jY (by rw[hsame];exact hpos),hsame]
  rw[mI hpos,ih,mI (by rw[hsame];exact hpos)]
def Rg.wv (R:Rg) (U:List Ur) (p:Nat×Nat):Wv:=⟨p.1,p.2,R.left U p.1 p.2⟩
def Rg.wt0 (R:Rg) (U:List Ur) (t k:Nat):List Wv:=(List.range k).flatMap fun e=>bif R.mem t e then(R.wl U e (R.I t)).map fun x=>(⟨x.1,e,x.2⟩:Wv)else []
def Rg.wt (R:Rg) (U:List Ur) (t:Nat):List (Nat×Nat):=(R.vl t).filter fun p=>R.may t p&&decide (0<R.left U p.1 p.2)
theorem NL {x:Wv}:x∈R.wt0 U t k↔∃y e:Nat,e<k∧R.mem t e=true∧y∈R.I t∧0<R.left U y e∧x=⟨y,e,R.left U y e⟩:=by
 unfold Rg.wt0
 rw[List.mem_flatMap]
 constructor
 ·rintro⟨e,he,hx⟩
  rw[List.mem_range]at he
  cases hm:R.mem t e
  ·rw[hm]at hx
   cases hx
  rw[hm]at hx
  obtain⟨z,hz,rfl⟩:=List.mem_map.1 hx
  obtain⟨y,hy,rfl,hp⟩:=jG.1 hz
  exact⟨y,e,he,hm,hy,hp,rfl⟩
 rintro⟨y,e,he,hm,hy,hp,rfl⟩
 refine⟨e,List.mem_range.2 he,?_⟩
 rw[hm]
 exact List.mem_map.2 ⟨((y:Int),R.left U y e),jG.2 ⟨y,hy,rfl,hp⟩,rfl⟩
theorem BU {α:Type}{f:α→Int}:∀{A B:List α},A.Pairwise (fun x y=>f x<f y)→B.Pairwise (fun x y=>f x<f y)→(∀x,x∈A↔x∈B)→A=B
 | [],[],_,_,_=>rfl
 | [],y::B,_,_,h=>absurd ((h y).2 (List.mem_cons_self ..)) (by simp)
 | x::A,[],_,_,h=>absurd ((h x).1 (List.mem_cons_self ..)) (by simp)
 | x::A,y::B,hA,hB,h=>by
  have h1:=List.pairwise_cons.1 hA
  have h2:=List.pairwise_cons.1 hB
  have e1:x=y:=by
   rcases List.mem_cons.1 ((h x).1 (List.mem_cons_self ..))with h3 | h3
   ·exact h3
   rcases List.mem_cons.1 ((h y).2 (List.mem_cons_self ..))with h4 | h4
   ·exact h4.symm
   have:=h1.1 y h4
   have:=h2.1 x h3
   omega
  subst e1
  congr 1
  refine BU h1.2 h2.2 fun z=>?_
  constructor
  ·intro hz
   rcases List.mem_cons.1 ((h z).1 (List.mem_cons_of_mem _ hz))with rfl | h3
   ·exact absurd (h1.1 z hz) (by omega)
   exact h3
  intro hz
  rcases List.mem_cons.1 ((h z).2 (List.mem_cons_of_mem _ hz))with rfl | h3
  ·exact absurd (h2.1 z hz) (by omega)
  exact h3
theorem Qz (hI:I.Pairwise (· < ·)):(R.wl U e I).Pairwise fun x y=>x.1<y.1:=by
 induction I with
 | nil=>exact List.Pairwise.nil
 | cons i I ih=>
  have h1:=List.pairwise_cons.1 hI
  by_cases hp:0<R.left U i e
  ·rw[jY hp]
   refine List.pairwise_cons.2 ⟨fun x hx=>?_,ih h1.2⟩
   obtain⟨j,hj,rfl,_⟩:=jG.1 hx
   have:=h1.1 j hj
   dsimp only
   omega
  rw[mI hp]
  exact ih h1.2
theorem NM:(R.wt0 U t k).Pairwise fun x y=>x.e<y.e∨(x.e=y.e∧x.y<y.y):=by
 unfold Rg.wt0
 refine List.pairwise_flatMap.2 ⟨fun e _=>?_,List.pairwise_lt_range.imp fun{a b} h x hx y hy=>?_⟩
 ·cases R.mem t e
  ·exact List.Pairwise.nil
  show((R.wl U e (R.I t)).map fun x=>(⟨x.1,e,x.2⟩:Wv)).Pairwise _
  rw[List.pairwise_map]
  exact(Qz Ul).imp fun h=>.inr ⟨rfl,h⟩
 have hx1:x.e=(a:Int):=by
  cases h9:R.mem t a <;> rw[h9]at hx
  ·cases hx
  obtain⟨z,_,rfl⟩:=List.mem_map.1 hx
  rfl
 have hy1:y.e=(b:Int):=by
  cases h9:R.mem t b <;> rw[h9]at hy
  ·cases hy
  obtain⟨z,_,rfl⟩:=List.mem_map.1 hy
  rfl
 omega
theorem BV:((R.wt U t).map (R.wv U)).Pairwise fun x y=>x.y<y.y∨(x.y=y.y∧x.e<y.e):=by
 rw[List.pairwise_map]
 refine List.Pairwise.imp (fun{p q} h=>?_) ((Pq t).filter _)
 unfold TU at h
 unfold Rg.wv
 dsimp only
 omega
theorem QB (hI:R.Iv N U) (ht:t≤N):dV (R.wt0 U t R.E)=(R.wt U t).map (R.wv U):=by
 refine sW (BV.imp fun h=>by omega) fun z=>?_
 refine BU (f:=Wv.e) ?_ ?_ fun x=>?_
 ·refine List.Pairwise.imp_of_mem (fun{a b} ha hb h=>?_) (BV.filter _)
  have h1:=of_decide_eq_true (List.mem_filter.1 ha).2
  have h2:=of_decide_eq_true (List.mem_filter.1 hb).2
  omega
 ·refine List.Pairwise.imp_of_mem (fun{a b} ha hb h=>?_) (NM.filter _)
  have h1:=of_decide_eq_true (List.mem_filter.1 ha).2
  have h2:=of_decide_eq_true (List.mem_filter.1 hb).2
  omega
 rw[List.mem_filter,List.mem_filter,NL,List.mem_map]
 constructor
 ·rintro⟨⟨p,hp,rfl⟩,hz⟩
  refine⟨⟨p.1,p.2,?_⟩,hz⟩
  unfold Rg.wt at hp
  rw[List.mem_filter,gK]at hp
  obtain⟨⟨h1,h2,h3⟩,h4⟩:=hp
  unfold Rg.may at h4
  simp only[Bool.and_eq_true,decide_eq_true_eq]at h4
  exact⟨h2,h4.1.2,kN.2 ⟨h1,h4.1.1⟩,h4.2,rfl⟩
 rintro⟨⟨y,e,h1,h2,h3,h4,rfl⟩,hz⟩
 refine⟨⟨(y,e),?_,rfl⟩,hz⟩
 have h5:=kN.1 h3
 have h6:=(hI.v y e (by omega) h1).1.2
 have h7:R.isV y e=true:=by
  cases h8:R.isV y e
  ·rw[Dv h8]at h6
   grind
  rfl
 unfold Rg.wt
 rw[List.mem_filter,gK]
 refine⟨⟨h5.1,h1,h7⟩,?_⟩
 unfold Rg.may
 simp only[Bool.and_eq_true,decide_eq_true_eq]
 exact⟨⟨h5.2,h2⟩,h4⟩
theorem GY (h:R.left U y e≤0):R.use U y e t=U:=wE (by have:=pF (R.left U y e) (R.room U e t);grind)
theorem LH (hI:R.Iv N U) (ht:t<N):R.step U t=(R.wt U t).foldl (fun U p=>R.use U p.1 p.2 t) U:=by
 have gen:∀(L:List (Nat×Nat)) (V:List Ur),L.Nodup→(∀p∈L,R.left V p.1 p.2=R.left U p.1 p.2)→(L.filter (R.may t)).foldl (fun U p=>R.use U p.1 p.2 t) V=(L.filter fun p=>R.may t p&&decide (0<R.left U p.1 p.2)).foldl (fun U p=>R.use U p.1 p.2 t) V:=by
  intro L
  induction L with
  | nil=>intro V _ _;rfl
  | cons p L ih=>
   intro V hn hV
   obtain⟨hp,hn⟩:=List.nodup_cons.1 hn
   have hVp:=hV p (List.mem_cons_self ..)
   cases hm:R.may t p
   ·rw[List.filter_cons_of_neg (by simp[hm]),List.filter_cons_of_neg (by simp[hm])]
    exact ih V hn fun q hq=>hV q (List.mem_cons_of_mem _ hq)
   rw[List.filter_cons_of_pos hm]
   by_cases h0:0<R.left U p.1 p.2
   ·rw[List.filter_cons_of_pos (by simp[hm,h0]),List.foldl_cons,List.foldl_cons]
    refine ih _ hn fun q hq=>?_
    rw[zO (fun h9=>hp (by rw[show p=q from Prod.ext h9.1 h9.2];exact hq))]
    exact hV q (List.mem_cons_of_mem _ hq)
   rw[List.filter_cons_of_neg (by simp[hm,h0]),List.foldl_cons,GY (by rw[hVp];grind)]
   exact ih V hn fun q hq=>hV q (List.mem_cons_of_mem _ hq)
 exact gen _ U (hG t) fun _ _=>rfl
theorem wC {p:Nat×Nat}:∀(L:List (Nat×Nat)) (V:List Ur),p∉L→R.left (L.foldl (fun U p=>R.use U p.1 p.2 t) V) p.1 p.2=R.left V p.1 p.2
 | [],_,_=>rfl
 | q::L,V,h=>by
  rw[List.foldl_cons,wC L _ fun h9=>h (List.mem_cons_of_mem _ h9)]
  exact zO fun h9=>h (by rw[show p=q from(Prod.ext h9.1 h9.2).symm];exact List.mem_cons_self ..)
end
def fd (n v:Nat):List Nat:=(List.range n).map fun i=>v/10^i%10
section
variable {xs:List Nat}
end
theorem BW {xs:List Nat}(hx:xs.length≤4398046511104):aG false Tryz.prog 150 [] [.one (.t (sI false xs))] (aU (.one (.t (sI false (trim xs))))):=by
 refine cC Tryz.func150 rfl Tryz.ntmps150 rfl aB rfl fun N w c0 h0=>?_
 refine sq (rl (o1 ?_));refine nl (sq (bl ?_))
 refine lp (γ:=List Nat) (fun zs=>bS [(0,.one (.t (sI false zs)))]) (fun _=>([]:List Ob).map some) (fun zs=>trim zs=trim xs∧zs.length≤xs.length) (fun zs=>zs.length) xs ⟨rfl,bC _⟩ (aW h0 [] rfl) fun zs hz=>?_
 refine sq (sq (rl ?_));(iterate 4 refine o1 ?_);refine WL.split (t:=6) rfl (fun h1=>?_) (fun h1=>?_)
 ·(iterate 4 refine o1 ?_);refine aZ 10 (zs.length-1) ?_
  refine o1 ?_;refine eE ([.v (.int .i64 ((nth zs (zs.length-1):Nat):Int))]) (gJ zs (k:=zs.length-1) (by omega)) ?_
  refine o1 ?_;refine o1 ?_;refine nl ?_;refine bL rfl (fun h2=>?_) (fun h2=>?_)
  ·refine sk (bl (rl ?_));(iterate 4 refine o1 ?_);refine aZ 18 (zs.length-1) ?_
   refine o1 ?_;refine o1 ?_;refine nl ?_
   exact⟨zs.take (zs.length-1),by rw[eA];omega,⟨(by rw[yB (xs:=zs) (k:=zs.length) (by omega) (bC _) (by omega),List.take_length];exact hz.1),by rw[eA];omega⟩,kM h0 [] _ _ (by decide) ⟨congrArg some (Xb (by omega)).symm,trivial⟩ rfl⟩
  refine ex (sq (rl (o1 ?_)));refine o1 ?_;refine nl (rt ?_);refine en (.inl rfl) rfl (bD (.one (.id rfl))) (by decide) (fun h=>by cases h) ?_
  have hx:trim xs=zs:=by
   rw[←hz.1];have h9:=sY (xs:=zs) (k:=zs.length) (by omega) (bC _) (by omega)
   rwa[List.take_length]at h9
  rw[hx];rfl
 (iterate 7 refine dL ?_);refine o1 ?_;refine nl (gD rfl (ex (sq (rl (o1 ?_)))));refine o1 ?_;refine nl (rt ?_)
 refine en (.inl rfl) rfl (bD (.one (.id rfl))) (by decide) (fun h=>by cases h) ?_
 have hx:trim xs=zs:=by
  have h9:zs=[]:=List.eq_nil_of_length_eq_zero (by omega)
  rw[←hz.1,h9];rfl
 rw[hx];rfl
theorem lP {xs:List Nat}(hx:xs.length≤1099511627776) (hl:Lim 4294967296 xs):aG false Tryz.prog 134 [] [.one (.t (sU false xs))] (aU (.one (.t (sI false (dg 65536 (vl 4294967296 xs)))))):=by
 refine cC Tryz.func134 rfl Tryz.ntmps134 rfl aB rfl fun N w c0 h0=>?_
 refine sq (rl (o1 ?_));refine nl (sq (rl (o1 ?_)));refine nl (sq (sq (rl (o1 ?_))));refine nl (bl ?_)
 refine lp (γ:=Nat) (fun k=>bS [(0,.one (.t (sU false xs))),(3,.one (.sl 0 0 (2*k))),(4,.one (tv (.int .i64 ((k:Nat):Int))))]) (fun k=>[(⟨3,1,(fH (hv (xs.take k))).map .t⟩:Ob)].map some) (fun k=>k≤xs.length) (fun k=>xs.length-k) 0 (Nat.zero_le _) ((nr (i:=3) 0 3 1 rfl rfl rfl rfl).trans (aW h0 [0] ⟨aC (l:=[]) rfl,rfl⟩)) fun k hk=>?_
 have hn:=hl.nth (by omega) k
 refine sq (sq (rl ?_));(iterate 4 refine o1 ?_);refine nl ?_;refine bL rfl (fun h1=>?_) (fun h1=>?_)
 ·refine sk (sq (bl ?_));refine rd [] (fun i=>[15].contains i) mixed ?_
  refine dv 0 ?_;refine dv 1 ?_;refine dv 2 ?_;refine dv 3 ?_;refine fM 4 ([.v (.int .u32 ((nth xs (k):Nat):Int))]) (nR xs (k:=k) (by omega)) ?_
  refine dv 5 ?_;refine WD.cast (t:=16) (u':=.int .u32 ((nth xs k%65536:Nat):Int)) rfl (dZ (lR _ 65536)) ?_;refine dv 6 ?_;refine dv 7 ?_;refine dv 8 ?_;refine dv 9 ?_
  refine fM 10 ([.v (.int .u32 ((nth xs (k):Nat):Int))]) (nR xs (k:=k) (by omega)) ?_
  refine dv 11 ?_ (hC:=(iT 65536 (by omega) (by simp only[jD];omega)))
  refine WD.cast (t:=22) (u':=.int .u32 ((nth xs k/65536:Nat):Int)) rfl (dZ (gR _ 65536)) ?_;refine dv 12 ?_;refine iU (key:=1) 13 (by kernel_rfl) rfl rfl aB rfl trivial ?_
  refine HF (j:=2) 14 rfl aB rfl rfl rfl (.sl rfl (by rw[dF,iV,rV,eA];omega)) (.sl rfl rfl rfl) rfl rfl (by omega) (by omega) rfl rfl (by kernel_rfl) rfl ?_
  refine eQ 15 (by kernel_rfl) rfl rfl aB rfl (by trivial) ?_ (fun h=>by first | rfl | cases h)
  refine aV ?_;refine rl ?_;(iterate 3 refine o1 ?_);refine nl ?_
  exact⟨k+1,by omega,by omega,aW h0 [2] ⟨nS rfl (iW _ [nth xs k%65536,nth xs k/65536]) (Qq (by omega)).symm,rfl⟩⟩
 refine ex (sq (rl (WL.sub (Bn (i:=3) (zs':=hv xs) rfl rfl rfl (by rw[rV,eA];omega) (by rw[fF (by omega)])) ?_)))
 refine o1 ?_;refine ca (BW (by rw[rV];omega)) IW ⟨a1 rfl,rfl⟩ (.one (.t (sI false (trim (hv xs))))) ?_
 refine o1 ?_;refine nl (rt ?_);exact en (.inl rfl) rfl (bD (.one (.id rfl))) (by decide) (fun h=>by cases h) (by rw[HH hl];rfl)
theorem Dg {xs:List Nat}(hx:xs.length≤4398046511104) (hl:Lim 65536 xs):aG true Tryz.prog 136 [] [.one (.t (sI false xs))] (aU (.one (.t (sU true (dg 4294967296 (vl 65536 xs)))))):=by
 refine cC Tryz.func136 rfl Tryz.ntmps136 rfl aB rfl fun N w c0 h0=>?_
 refine sq (rl (o1 ?_));refine nl (sq (rl (o1 ?_)));refine nl (sq (rl (o1 ?_)))
 refine ca (BW hx) IW ⟨a1 rfl,rfl⟩ (.one (.t (sI false (trim xs)))) ?_;refine o1 ?_;refine nl (sq (sq ?_));have htl:=dI xs
 have hlt:=hl.trim
 generalize hY:trim xs=ys at htl hlt;refine rl (o1 ?_);refine nl (bl ?_)
 refine lp (γ:=Nat) (fun k=>bS [(0,.one (.t (sI false ys))),(3,.one (.sl 0 0 k)),(4,.one (tv (.int .i64 ((2*k:Nat):Int))))]) (fun k=>[(⟨113,1,(aI (lb (ys.take (2*k)))).map .t⟩:Ob)].map some) (fun k=>2*k≤ys.length+1) (fun k=>ys.length+1-2*k) 0 (Nat.zero_le _) ((nr (i:=3) 0 113 1 rfl rfl rfl rfl).trans (aW h0 [0] ⟨aC (l:=[]) rfl,rfl⟩)) fun k hk=>?_
 have hn:=hlt.nth (by omega) (2*k)
 have hn2:=hlt.nth (by omega) (2*k+1)
 refine sq (sq (rl ?_));(iterate 4 refine o1 ?_);refine nl ?_;refine bL rfl (fun h1=>?_) (fun h1=>?_)
 ·refine sk (sq (bl (sq (rl (o1 ?_)))));refine nl (sq (sq (rl (o1 ?_))));refine o1 ?_
  refine aZ 15 (2*k+1) ?_
  (iterate 3 refine o1 ?_);refine nl ?_;refine bL rfl (fun h2=>?_) (fun h2=>?_)
  ·refine rl ?_;(iterate 3 refine o1 ?_);refine aZ 21 (2*k+1) ?_
   refine o1 ?_;refine eE ([.v (.int .i64 ((nth ys (2*k+1):Nat):Int))]) (gJ ys (k:=2*k+1) (by omega)) ?_
   refine o1 ?_;refine nl (rl ?_);(iterate 4 refine o1 ?_);refine eE ([.v (.int .i64 ((nth ys (2*k):Nat):Int))]) (gJ ys (k:=2*k) (by omega)) ?_
   (iterate 5 refine o1 ?_);refine WL.cast (t:=33) (u':=.int .u32 ((nth ys (2*k)+65536*nth ys (2*k+1):Nat):Int)) rfl (dZ (by omega)) ?_
   refine bs 1 ?_;refine iN (j:=2) aB rfl rfl rfl rfl (.sl rfl (by rw[dF,gE,jN,eA];omega)) (.sl rfl rfl rfl) rfl rfl rfl (by omega) (by omega) ?_
   refine o1 ?_;refine nl (rl ?_);(iterate 3 refine o1 ?_);refine nl ?_
   exact⟨k+1,by omega,by omega,aW h0 [2] ⟨Xc rfl (Oy _ [nth ys (2*k)+65536*nth ys (2*k+1)]) (Bk (by omega)).symm,rfl⟩⟩
  have hz:=fN (l:=ys) (k:=2*k+1) (by omega)
  refine sk (rl ?_);(iterate 4 refine o1 ?_);refine eE ([.v (.int .i64 ((nth ys (2*k):Nat):Int))]) (gJ ys (k:=2*k) (by omega)) ?_
  (iterate 5 refine o1 ?_);refine WL.cast (t:=33) (u':=.int .u32 ((nth ys (2*k)+65536*nth ys (2*k+1):Nat):Int)) rfl (dZ (by omega)) ?_
  refine bs 1 ?_;refine iN (j:=2) aB rfl rfl rfl rfl (.sl rfl (by rw[dF,gE,jN,eA];omega)) (.sl rfl rfl rfl) rfl rfl rfl (by omega) (by omega) ?_
  refine o1 ?_;refine nl (rl ?_);(iterate 3 refine o1 ?_);refine nl ?_
  exact⟨k+1,by omega,by omega,aW h0 [2] ⟨Xc rfl (Oy _ [nth ys (2*k)+65536*nth ys (2*k+1)]) (Bk (by omega)).symm,rfl⟩⟩
 refine ex (sq (rl (o1 ?_)));refine o1 ?_;refine nl (rt ?_)
 exact en (.inl rfl) rfl (bD (.one (.sl (trs:=aI (lb ys)) rfl rfl (by rw[fF (l:=ys) (by omega),fF (by simp[gE,jN];omega)]) (by rw[gE,jN];omega)))) (by decide) (fun _=>.inl ⟨rfl,fT _⟩) (by rw[←zZ,fY (by omega) hl,hY];unfold sU;rw[show k=(lb ys).length by rw[jN];omega];rfl)
theorem rI {xs:List Nat}{k:Nat}:aG true Tryz.prog 135 [] [.one (.t (sI false xs)),.one (tv (.int .i64 ((k:Nat):Int)))] (aU (.one (tv (.int .i64 ((nth xs k:Nat):Int))))):=by
 refine cC Tryz.func135 rfl Tryz.ntmps135 rfl aB rfl fun N w c0 h0=>?_
 refine sq (rl (o1 ?_));refine nl (sq (sq (rl ?_)));(iterate 4 refine o1 ?_);refine nl ?_;refine bL rfl (fun h1=>?_) (fun h1=>?_)
 ·refine sq (rl ?_);(iterate 3 refine o1 ?_);refine eE ([.v (.int .i64 ((nth xs (k):Nat):Int))]) (gJ xs (k:=k) (by omega)) ?_
  refine o1 ?_;refine nl (rt ?_);refine en (.inl rfl) rfl (bD (cU _)) (by decide) (fun _=>trivial) ?_
  rfl
 refine sk (sq (rl (o1 ?_)));refine nl (rt ?_);refine en (.inl rfl) rfl (bD (cU _)) (by decide) (fun _=>trivial) ?_
 rw[fN (by omega)];rfl
theorem JZ {xs:List Nat}(hx:xs.length≤1099511627776) (hlx:Lim 4294967296 xs):aG true Tryz.prog 132 [] [.one (.t (sU false xs))] (aU (.one (.t (sU true (dg 4294967296 (vl 4294967296 xs)))))):=by
 refine cC Tryz.func132 rfl Tryz.ntmps132 rfl aB rfl fun N w c0 h0=>?_
 have hd:=fJ (v:=vl 4294967296 xs) (L:=xs.length) (by rw[fY (by omega) hlx];exact dI _)
 have hl9:=aR (B:=65536) (by omega) (vl 4294967296 xs)
 refine sq (rl (o1 ?_));refine nl (sq (rl (o1 ?_)))
 refine ca (lP hx hlx) xJ ⟨a1 rfl,rfl⟩ (.one (.t (sI false (dg 65536 (vl 4294967296 xs))))) ?_;refine iM 0 (Dg (by omega) (by assumption)) Vt ⟨a1 rfl,rfl⟩ ?_
 refine o1 ?_;refine nl (rt ?_)
 exact en (.inl rfl) rfl (bD (.one (.sl (trs:=aI (dg 4294967296 (vl 65536 (dg 65536 (vl 4294967296 xs))))) rfl rfl (bP _) (aP _)))) (by decide) (fun _=>.inl ⟨rfl,fT _⟩) (by rw[cM (by omega)];rfl)
theorem Kz {xs ys:List Nat}(hx:xs.length≤1099511627776) (hlx:Lim 4294967296 xs) (hy:ys.length≤1099511627776) (hly:Lim 4294967296 ys):aG true Tryz.prog 137 [] [.one (.t (sU false xs)),.one (.t (sU false ys))] (aU (.one (tv (.int .i64 (((vl 4294967296 xs:Nat):Int)-((vl 4294967296 ys:Nat):Int)).sign)))):=by
 refine cC Tryz.func137 rfl Tryz.ntmps137 rfl aB rfl fun N w c0 h0=>?_
 refine sq (rl (o1 ?_));refine nl (sq (rl (o1 ?_)))
 refine ca (lP hx hlx) xJ ⟨a1 rfl,rfl⟩ (.one (.t (sI false (dg 65536 (vl 4294967296 xs))))) ?_;refine o1 ?_
 refine ca (lP hy hly) xJ ⟨a1 rfl,rfl⟩ (.one (.t (sI false (dg 65536 (vl 4294967296 ys))))) ?_;refine o1 ?_;refine o1 ?_;refine nl (sq (sq ?_))
 have hdx:=fJ (v:=vl 4294967296 xs) (L:=xs.length) (by rw[fY (by omega) hlx];exact dI _)
 have hdy:=fJ (v:=vl 4294967296 ys) (L:=ys.length) (by rw[fY (by omega) hly];exact dI _)
 have hX:=aR (B:=65536) (by omega) (vl 4294967296 xs)
 have hY:=aR (B:=65536) (by omega) (vl 4294967296 ys)
 have hvX:=cM (B:=65536) (by omega) (vl 4294967296 xs)
 have hvY:=cM (B:=65536) (by omega) (vl 4294967296 ys)
 generalize dg 65536 (vl 4294967296 xs)=X at hdx hX hvX⊢;generalize dg 65536 (vl 4294967296 ys)=Y at hdy hY hvY⊢;refine rl ?_;(iterate 5 refine o1 ?_)
 refine aZ 16 (max X.length Y.length) ?_
 refine o1 ?_;refine o1 ?_;refine nl (bl ?_)
 refine lp (γ:=Nat) (fun k=>bS [(5,.one (.t (sI false X))),(6,.one (.t (sI false Y))),(7,.one (tv (.int .i64 ((k:Nat)-1))))]) (fun k=>([]:List Ob).map some) (fun k=>(∀j,k≤j→nth X j=nth Y j)∧k≤max X.length Y.length) (fun k=>k) (max X.length Y.length) ⟨fun j hj=>by rw[fN (by omega),fN (by omega)],bC _⟩ (aW h0 [] rfl) fun k hk=>?_
 refine sq (sq (rl (o1 ?_)));refine o1 ?_;refine nl ?_;refine bL rfl (fun h1=>?_) (fun h1=>?_)
 ·refine sk (sq (bl (sq (sq (rl (o1 ?_))))));refine o1 ?_
  refine aZ 23 (k-1) ?_
  refine ca (rI) rG ⟨a1 rfl,a1 rfl,rfl⟩ (.one (tv (.int .i64 ((nth X (k-1):Nat):Int)))) ?_;refine o1 ?_;refine o1 ?_
  refine aZ 26 (k-1) ?_
  refine ca (rI) rG ⟨a1 rfl,a1 rfl,rfl⟩ (.one (tv (.int .i64 ((nth Y (k-1):Nat):Int)))) ?_;refine o1 ?_;refine nl ?_;refine bL rfl (fun h2=>?_) (fun h2=>?_)
  ·refine sq (rl (o1 ?_));refine nl (rt ?_);refine en (.inl rfl) rfl (bD (cU _)) (by decide) (fun _=>trivial) (congrArg (fun z=>FV.one (tv (.int .i64 z))) ?_)
   have he:=Km (X:=X) (Y:=Y) (k:=k-1) hX (fun j hj=>hk.1 j (by omega)) (by omega)
   rw[hvX,hvY]at he;rw[Int.sign_eq_neg_one_of_neg (by omega)]
  refine sk (sq (rl (o1 ?_)));refine o1 ?_;refine aZ 30 (k-1) ?_
  refine ca (rI) rG ⟨a1 rfl,a1 rfl,rfl⟩ (.one (tv (.int .i64 ((nth X (k-1):Nat):Int)))) ?_;refine o1 ?_;refine o1 ?_
  refine aZ 33 (k-1) ?_
  refine ca (rI) rG ⟨a1 rfl,a1 rfl,rfl⟩ (.one (tv (.int .i64 ((nth Y (k-1):Nat):Int)))) ?_;refine o1 ?_;refine nl ?_;refine bL rfl (fun h3=>?_) (fun h3=>?_)
  ·refine sq (rl (o1 ?_));refine nl (rt ?_);refine en (.inl rfl) rfl (bD (cU _)) (by decide) (fun _=>trivial) (congrArg (fun z=>FV.one (tv (.int .i64 z))) ?_)
   have he:=Km (X:=Y) (Y:=X) (k:=k-1) hY (fun j hj=>(hk.1 j (by omega)).symm) (by omega)
   rw[hvX,hvY]at he;rw[Int.sign_eq_one_of_pos (by omega)]
  refine sk (rl ?_);(iterate 3 refine o1 ?_);refine nl ?_
  exact⟨k-1,by omega,⟨fun j hj=>(Nat.eq_or_lt_of_le hj).elim (fun h9=>by rw[←h9];omega) (fun h9=>hk.1 j (by omega)),by omega⟩,kM h0 [] _ _ (by decide) ⟨rfl,rfl,congrArg (fun z=>some (FV.one (tv (.int .i64 z)))) (by omega),trivial⟩ rfl⟩
 refine ex (sq (rl (o1 ?_)));refine nl (rt ?_)
 refine en (.inl rfl) rfl (bD (cU _)) (by decide) (fun _=>trivial) (congrArg (fun z=>FV.one (tv (.int .i64 z))) ?_)
 have he:=Xd (fun j=>hk.1 j (by omega))
 rw[hvX,hvY]at he;rw[he,Int.sub_self];rfl
theorem ON {xs ys:List Nat}(hx:xs.length≤1099511627776) (hlx:Lim 4294967296 xs) (hy:ys.length≤1099511627776) (hly:Lim 4294967296 ys):aG true Tryz.prog 111 [] [.one (.t (sU false xs)),.one (.t (sU false ys))] (aU (.one (.t (sU true (dg 4294967296 (vl 4294967296 xs+vl 4294967296 ys)))))):=by
 refine cC Tryz.func111 rfl Tryz.ntmps111 rfl aB rfl fun N w c0 h0=>?_
 refine sq (rl (o1 ?_));refine nl (sq (rl (o1 ?_)))
 refine ca (lP hx hlx) xJ ⟨a1 rfl,rfl⟩ (.one (.t (sI false (dg 65536 (vl 4294967296 xs))))) ?_;refine o1 ?_
 refine ca (lP hy hly) xJ ⟨a1 rfl,rfl⟩ (.one (.t (sI false (dg 65536 (vl 4294967296 ys))))) ?_;refine o1 ?_;refine o1 ?_;refine nl (sq ?_)
 have hdx:=fJ (v:=vl 4294967296 xs) (L:=xs.length) (by rw[fY (by omega) hlx];exact dI _)
 have hdy:=fJ (v:=vl 4294967296 ys) (L:=ys.length) (by rw[fY (by omega) hly];exact dI _)
 have hX:=aR (B:=65536) (by omega) (vl 4294967296 xs)
 have hY:=aR (B:=65536) (by omega) (vl 4294967296 ys)
 have hvX:=cM (B:=65536) (by omega) (vl 4294967296 xs)
 have hvY:=cM (B:=65536) (by omega) (vl 4294967296 ys)
 generalize dg 65536 (vl 4294967296 xs)=X at hdx hX hvX⊢;generalize dg 65536 (vl 4294967296 ys)=Y at hdy hY hvY⊢;refine rl (o1 ?_);refine nl (sq (rl ?_))
 refine o1 ?_;refine nl (sq (sq (rl (o1 ?_))));refine nl (bl ?_)
 refine lp (γ:=Nat×Nat×List Nat) (fun s=>bS [(5,.one (.t (sI false X))),(6,.one (.t (sI false Y))),(7,.one (.sl 0 0 s.1)),(8,.one (tv (.int .i64 ((s.2.1:Nat):Int)))),(9,.one (tv (.int .i64 ((s.1:Nat):Int))))]) (fun s=>[(⟨3,1,(fH s.2.2).map .t⟩:Ob)].map some) (fun s=>s.2.2.length=s.1∧Lim 65536 s.2.2∧vl 65536 s.2.2+65536^s.1*s.2.1=vl 65536 (X.take s.1)+vl 65536 (Y.take s.1)∧s.2.1≤1∧(s.1≤max X.length Y.length∨s.1=max X.length Y.length+1∧s.2.1=0)) (fun s=>max X.length Y.length+1-s.1) (0,0,[]) ⟨rfl,Lim.nil,rfl,Nat.zero_le _,.inl (Nat.zero_le _)⟩ ((nr (i:=7) 0 3 1 rfl rfl rfl rfl).trans (aW h0 [0] ⟨aC (l:=[]) rfl,rfl⟩)) ?_
 rintro⟨k,cr,os⟩ ⟨hos,hol,hv,hc1,hkm⟩;dsimp only at hos hol hv hc1 hkm⊢;have hn1:=hX.nth (by omega) k
 have hn2:=hY.nth (by omega) k
 refine sq (sq (rl ?_));(iterate 6 refine o1 ?_);refine aZ 20 (max X.length Y.length) ?_
 refine o1 ?_;refine o1 ?_;refine WL.split (t:=22) rfl (fun h1=>?_) (fun h1=>?_)
 ·refine dL ?_;refine dL ?_;refine o1 ?_;refine nl (jM rfl (sk (sq (bl (sq (rl (o1 ?_)))))));refine o1 ?_
  refine ca (rI) rG ⟨a1 rfl,a1 rfl,rfl⟩ (.one (tv (.int .i64 ((nth X (k):Nat):Int)))) ?_;refine o1 ?_;refine o1 ?_
  refine ca (rI) rG ⟨a1 rfl,a1 rfl,rfl⟩ (.one (tv (.int .i64 ((nth Y (k):Nat):Int)))) ?_;(iterate 3 refine o1 ?_)
  refine aZ 36 (nth X k+nth Y k+cr) ?_
  refine o1 ?_;refine nl (sq (rl ?_));(iterate 3 refine o1 ?_)
  refine WL.cast (t:=39) (u':=.int .i64 (((nth X k+nth Y k+cr)%65536:Nat):Int)) rfl (dZ (lR _ 65536)) ?_;refine bs 1 ?_
  refine iN (j:=2) aB rfl rfl rfl rfl (.sl rfl (by rw[dF,iV,hos];omega)) (.sl rfl rfl rfl) rfl rfl rfl (by omega) (by omega) ?_
  refine o1 ?_;refine nl (rl (o1 ?_));refine o1 ?_ (hC:=(iT 65536 (by omega) (by simp only[jD];omega)))
  refine WL.cast (t:=43) (u':=.int .i64 (((nth X k+nth Y k+cr)/65536:Nat):Int)) rfl (dZ (gR _ 65536)) ?_;refine o1 ?_;refine nl (rl ?_);(iterate 3 refine o1 ?_)
  refine nl ?_;have hst:=Ow hos hv
  have hz1:X.length≤k→nth X k=0:=fun h=>fN (by omega)
  have hz2:Y.length≤k→nth Y k=0:=fun h=>fN (by omega)
  exact⟨(k+1,(nth X k+nth Y k+cr)/65536,os++[(nth X k+nth Y k+cr)%65536]),by dsimp only;omega,⟨by simp[hos],hol.append (Lim.cons (Nat.mod_lt _ (by omega)) Lim.nil),hst,by dsimp only;omega,by dsimp only;omega⟩,aW h0 [2] ⟨nS rfl (iW _ [(nth X k+nth Y k+cr)%65536]) rfl,rfl⟩⟩
 (iterate 3 refine o1 ?_);refine nl ?_;refine bL rfl (fun h2=>?_) (fun h2=>?_)
 ·refine sk (sq (bl (sq (rl (o1 ?_)))));refine o1 ?_
  refine ca (rI) rG ⟨a1 rfl,a1 rfl,rfl⟩ (.one (tv (.int .i64 ((nth X (k):Nat):Int)))) ?_;refine o1 ?_;refine o1 ?_
  refine ca (rI) rG ⟨a1 rfl,a1 rfl,rfl⟩ (.one (tv (.int .i64 ((nth Y (k):Nat):Int)))) ?_;(iterate 3 refine o1 ?_)
  refine aZ 36 (nth X k+nth Y k+cr) ?_
  refine o1 ?_;refine nl (sq (rl ?_));(iterate 3 refine o1 ?_)
  refine WL.cast (t:=39) (u':=.int .i64 (((nth X k+nth Y k+cr)%65536:Nat):Int)) rfl (dZ (lR _ 65536)) ?_;refine bs 1 ?_
  refine iN (j:=2) aB rfl rfl rfl rfl (.sl rfl (by rw[dF,iV,hos];omega)) (.sl rfl rfl rfl) rfl rfl rfl (by omega) (by omega) ?_
  refine o1 ?_;refine nl (rl (o1 ?_));refine o1 ?_ (hC:=(iT 65536 (by omega) (by simp only[jD];omega)))
  refine WL.cast (t:=43) (u':=.int .i64 (((nth X k+nth Y k+cr)/65536:Nat):Int)) rfl (dZ (gR _ 65536)) ?_;refine o1 ?_;refine nl (rl ?_);(iterate 3 refine o1 ?_)
  refine nl ?_;have hst:=Ow hos hv
  have hz1:X.length≤k→nth X k=0:=fun h=>fN (by omega)
  have hz2:Y.length≤k→nth Y k=0:=fun h=>fN (by omega)
  exact⟨(k+1,(nth X k+nth Y k+cr)/65536,os++[(nth X k+nth Y k+cr)%65536]),by dsimp only;omega,⟨by simp[hos],hol.append (Lim.cons (Nat.mod_lt _ (by omega)) Lim.nil),hst,by dsimp only;omega,by dsimp only;omega⟩,aW h0 [2] ⟨nS rfl (iW _ [(nth X k+nth Y k+cr)%65536]) rfl,rfl⟩⟩
 refine ex (sq (rl ?_));have hc0:cr=0:=by omega
 rw[hc0,Nat.mul_zero,Nat.add_zero,cE 65536 (by omega),cE 65536 (by omega),hvX,hvY]at hv
 refine WL.sub (Bn (i:=7) (zs':=os) rfl rfl rfl (by omega) rfl) ?_
 refine o1 ?_;refine iM 1 (Dg (by omega) (by assumption)) Vt ⟨a1 rfl,rfl⟩ ?_
 refine o1 ?_;refine nl (rt ?_)
 exact en (.inl rfl) rfl (bD (.one (.sl (trs:=aI (dg 4294967296 (vl 65536 os))) rfl rfl (bP _) (aP _)))) (by decide) (fun _=>.inl ⟨rfl,fT _⟩) (by rw[hv];rfl)
theorem Xa {xs ys:List Nat}(hx:xs.length≤1099511627776) (hlx:Lim 4294967296 xs) (hy:ys.length≤1099511627776) (hly:Lim 4294967296 ys):aG true Tryz.prog 112 [] [.one (.t (sU false xs)),.one (.t (sU false ys))] (aU (.tup [.one (.t (sU true (dg 4294967296 (vl 4294967296 xs-vl 4294967296 ys)))),.one (tv (.int .i64 (if vl 4294967296 xs<vl 4294967296 ys then 2 else 0)))])):=by
 refine cC Tryz.func112 rfl Tryz.ntmps112 rfl aB rfl fun N w c0 h0=>?_
 refine sq (rl (o1 ?_));refine o1 ?_;refine nl (sq (sq (rl (o1 ?_))));refine o1 ?_
 refine ca (Kz hx hlx hy hly) Ui ⟨a1 rfl,a1 rfl,rfl⟩ (.one (tv (.int .i64 (((vl 4294967296 xs:Nat):Int)-((vl 4294967296 ys:Nat):Int)).sign))) ?_;refine o1 ?_;refine nl ?_
 refine bL rfl (fun h1=>?_) (fun h1=>?_)
 ·refine sq (rl (o1 ?_));refine o1 ?_;refine nl (rt ?_);have hlt:=TE h1
  exact en (.inl rfl) rfl (rW (.cons (.one (.nil (t:=113) (z:=1))) (.cons (cU _) .nil))) (by decide) (fun _=>⟨.inl ⟨rfl,trivial⟩,trivial,trivial⟩) (by rw[Nat.sub_eq_zero_of_le (Nat.le_of_lt hlt),if_pos hlt];rfl)
 refine sk (sq (rl (o1 ?_)));refine ca (lP hx hlx) xJ ⟨a1 rfl,rfl⟩ (.one (.t (sI false (dg 65536 (vl 4294967296 xs))))) ?_;refine o1 ?_
 refine ca (lP hy hly) xJ ⟨a1 rfl,rfl⟩ (.one (.t (sI false (dg 65536 (vl 4294967296 ys))))) ?_;refine o1 ?_;refine o1 ?_;refine nl (sq ?_)
 have hge:vl 4294967296 ys≤vl 4294967296 xs:=TD h1
 have hyx:=dO (B:=65536) (by omega) hge
 have hdx:=fJ (v:=vl 4294967296 xs) (L:=xs.length) (by rw[fY (by omega) hlx];exact dI _)
 have hdy:=fJ (v:=vl 4294967296 ys) (L:=ys.length) (by rw[fY (by omega) hly];exact dI _)
 have hX:=aR (B:=65536) (by omega) (vl 4294967296 xs)
 have hY:=aR (B:=65536) (by omega) (vl 4294967296 ys)
 have hvX:=cM (B:=65536) (by omega) (vl 4294967296 xs)
 have hvY:=cM (B:=65536) (by omega) (vl 4294967296 ys)
 generalize dg 65536 (vl 4294967296 xs)=X at hdx hX hvX hyx⊢;generalize dg 65536 (vl 4294967296 ys)=Y at hdy hY hvY hyx⊢;refine rl (o1 ?_);refine nl (sq (rl ?_))
 refine o1 ?_;refine nl (sq (sq (rl (o1 ?_))));refine nl (bl ?_)
 refine lp (γ:=Nat×Nat×List Nat) (fun s=>bS [(6,.one (.t (sI false X))),(7,.one (.t (sI false Y))),(8,.one (.sl 0 0 s.1)),(9,.one (tv (.int .i64 ((s.2.1:Nat):Int)))),(10,.one (tv (.int .i64 ((s.1:Nat):Int))))]) (fun s=>[(⟨3,1,(fH s.2.2).map .t⟩:Ob)].map some) (fun s=>s.2.2.length=s.1∧Lim 65536 s.2.2∧vl 65536 s.2.2+vl 65536 (Y.take s.1)=vl 65536 (X.take s.1)+65536^s.1*s.2.1∧s.2.1≤1∧s.1≤X.length) (fun s=>X.length-s.1) (0,0,[]) ⟨rfl,Lim.nil,rfl,Nat.zero_le _,Nat.zero_le _⟩ ((nr (i:=8) 0 3 1 rfl rfl rfl rfl).trans (aW h0 [0] ⟨aC (l:=[]) rfl,rfl⟩)) ?_
 rintro⟨k,br,os⟩ ⟨hos,hol,hv,hc1,hkm⟩;dsimp only at hos hol hv hc1 hkm⊢;have hn1:=hX.nth (by omega) k
 have hn2:=hY.nth (by omega) k
 refine sq (sq (rl ?_));(iterate 4 refine o1 ?_);refine nl ?_;refine bL rfl (fun h2=>?_) (fun h2=>?_)
 ·refine sk (sq (bl (sq ?_)));refine rd [] (fun i=>[10].contains i) mixed ?_
  refine dv 0 ?_;refine dv 1 ?_;refine dv 2 ?_;refine fM 3 ([.v (.int .i64 ((nth X (k):Nat):Int))]) (gJ X (k:=k) (by omega)) ?_
  refine dv 4 ?_;refine dv 5 ?_;refine dv 8 ?_;refine aX 6 rfl (rI) rG ⟨a1 rfl,a1 rfl,rfl⟩ (.one (tv (.int .i64 ((nth Y (k):Nat):Int)))) ?_;refine df 7 ?_;refine df 9 ?_
  refine eQ 10 (by kernel_rfl) rfl rfl aB rfl (by trivial) ?_ (fun h=>by first | rfl | cases h)
  refine aV ?_;refine sq (rl (o1 ?_));refine nl (sq (sq (rl (o1 ?_))));refine o1 ?_;refine nl ?_
  refine bL rfl (fun h3=>?_) (fun h3=>?_)
  ·refine sq (rl ?_);(iterate 3 refine o1 ?_);refine nl (rl (o1 ?_));refine nl (rl ?_)
   refine WL.cast (t:=11) (u':=.int .i64 (((nth X k+65536-nth Y k-br:Nat)):Int)) rfl (dZ (by omega)) ?_
   refine o1 ?_;refine o1 ?_;refine bs 1 ?_
   refine iN (j:=2) aB rfl rfl rfl rfl (.sl rfl (by rw[dF,iV,hos];omega)) (.sl rfl rfl rfl) rfl rfl rfl (by omega) (by omega) ?_
   refine o1 ?_;refine nl (rl ?_);(iterate 3 refine o1 ?_);refine nl ?_;have hst:=Ox (d:=nth X k+65536-nth Y k-br) (br':=1) hos hv (by omega)
   exact⟨(k+1,1,os++[nth X k+65536-nth Y k-br]),by dsimp only;omega,⟨by simp[hos],hol.append (Lim.cons (by omega) Lim.nil),hst,by dsimp only;omega,by dsimp only;omega⟩,aW h0 [2] ⟨nS rfl (iW _ [nth X k+65536-nth Y k-br]) rfl,rfl⟩⟩
  refine sk (rl (WL.cast (t:=11) (u':=.int .i64 (((nth X k-nth Y k-br:Nat)):Int)) rfl (dZ (by omega)) ?_))
  refine o1 ?_;refine o1 ?_;refine bs 1 ?_
  refine iN (j:=2) aB rfl rfl rfl rfl (.sl rfl (by rw[dF,iV,hos];omega)) (.sl rfl rfl rfl) rfl rfl rfl (by omega) (by omega) ?_
  refine o1 ?_;refine nl (rl ?_);(iterate 3 refine o1 ?_);refine nl ?_;have hst:=Ox (d:=nth X k-nth Y k-br) (br':=0) hos hv (by omega)
  exact⟨(k+1,0,os++[nth X k-nth Y k-br]),by dsimp only;omega,⟨by simp[hos],hol.append (Lim.cons (by omega) Lim.nil),hst,by dsimp only;omega,by dsimp only;omega⟩,aW h0 [2] ⟨nS rfl (iW _ [nth X k-nth Y k-br]) rfl,rfl⟩⟩
 refine ex (sq (rl ?_));have hoo:=fX hol
 rw[hos]at hoo;rw[cE 65536 (l:=X) (by omega),cE 65536 (l:=Y) (by omega),hvX,hvY]at hv
 have hb0:br=0:=by
  rcases Nat.eq_zero_or_pos br with h0 | h0
  ·exact h0
  have h1:br=1:=by omega
  rw[h1,Nat.mul_one,show k=X.length by omega]at hv
  rw[show k=X.length by omega]at hoo
  omega
 rw[hb0,Nat.mul_zero,Nat.add_zero]at hv;have he:vl 65536 os=vl 4294967296 xs-vl 4294967296 ys:=by omega
 refine WL.sub (Bn (i:=8) (zs':=os) rfl rfl rfl (by omega) rfl) ?_
 refine o1 ?_;refine iM 1 (Dg (by omega) (by assumption)) Vt ⟨a1 rfl,rfl⟩ ?_
 refine o1 ?_;refine o1 ?_;refine nl (rt ?_)
 exact en (.inl rfl) rfl (rW (.cons (.one (.sl (trs:=aI (dg 4294967296 (vl 65536 os))) rfl rfl (bP _) (aP _))) (.cons (cU _) .nil))) (by decide) (fun _=>⟨.inl ⟨rfl,fT _⟩,trivial,trivial⟩) (by rw[he,if_neg (by omega)];rfl)
end Go.Proofs.YtbbabfkgdnkehaaGreat
