/- Part 11 of a proof: Vl to B2. -/
import Derived.Test.YtbbabfkgdnkehaaGreatM10
import Derived.Test.YtbbabfkgdnkehaaGreatM8
import Derived.Test.YtbbabfkgdnkehaaGreatM7
import Derived.Test.YtbbabfkgdnkehaaGreatM9
import Derived.Test.YtbbabfkgdnkehaaGreatM5
set_option maxRecDepth 100000
set_option linter.unusedVariables false
set_option linter.unusedSimpArgs false
namespace Go.Proofs.YtbbabfkgdnkehaaGreat
open Go Go.RowKit
def Rg.cl (R:Rg) (U:List Ur) (n y e:Nat):Rat:=if n≤y+R.f then R.left U y e else 0
def Rg.clk (R:Rg) (U:List Ur) (n q k y e:Nat):Rat:=if e<q∨(e=q∧(((R.wl U q (R.I n)).take k).any fun x=>decide (x.1=(y:Int)))=true)then R.cl U n y e else 0
def Rg.vnE (R:Rg) (n:Nat):List Vn:=R.vns (R.run n) (R.ex (R.run n) n) (R.cl (R.run n) n) (R.vl n)
section
variable {R:Rg}{U:List Ur}{N n q k y e j:Nat}
theorem DA:R.clk U n 0 0=fun _ _=>0:=by
 funext y e
 unfold Rg.clk
 rw[if_neg (by simp)]
theorem DB:R.clk U n (q+1) 0 y e=if e≤q then R.cl U n y e else 0:=by
 unfold Rg.clk
 by_cases h:e≤q
 ·rw[if_pos h,if_pos (.inl (by omega))]
 rw[if_neg h,if_neg (by simp;omega)]
theorem DC (hI:R.Iv n U) (hk:(R.wl U q (R.I n)).length≤k) (hq:q<R.E) (hy:y<n):R.clk U n q k y e=R.clk U n (q+1) 0 y e:=by
 rw[DB]
 unfold Rg.clk
 rw[fF hk]
 by_cases h:e<q
 ·rw[if_pos (.inl h),if_pos (by omega)]
 by_cases h2:e=q
 ·subst h2
  rw[if_pos (bC e)]
  split
  ·rfl
  rename_i h3
  have h4:¬((R.wl U e (R.I n)).any fun x=>decide (x.1=(y:Int)))=true:=fun h5=>h3 (.inr ⟨rfl,h5⟩)
  unfold Rg.cl
  split
  ·rename_i h5
   have h6:=(hI.v y e hy hq).1.1
   by_cases h7:0<R.left U y e
   ·exact absurd (List.any_eq_true.2 ⟨((y:Int),R.left U y e),jG.2 ⟨y,kN.2 ⟨hy,h5⟩,rfl,h7⟩,by simp⟩) h4
   grind
  rfl
 rw[if_neg (by simp;omega),if_neg (by omega)]
theorem DD (he:e<R.E):R.clk U n R.E 0 y e=R.cl U n y e:=if_pos (.inl he)
theorem UO (hk:k<(R.wl U q (R.I n)).length):∃j:Nat,aH (R.wl U q (R.I n)) k=((j:Int),R.left U j q)∧0<R.left U j q∧j<n∧n≤j+R.f:=by
 obtain⟨i,hi,hx,h0⟩:=jG.1 (mQ hk)
 have:=kN.1 hi
 exact⟨i,hx,h0,this.1,this.2⟩
theorem KS (hk:k<(R.wl U q (R.I n)).length) (hx:aH (R.wl U q (R.I n)) k=((j:Int),R.left U j q)) (hj:n≤j+R.f):R.clk U n q (k+1) j q=R.left U j q:=by
 unfold Rg.clk Rg.cl
 rw[lG hk,hx,if_pos (.inr ⟨rfl,by simp⟩),if_pos hj]
theorem DF (hk:k<(R.wl U q (R.I n)).length) (hx:aH (R.wl U q (R.I n)) k=((j:Int),R.left U j q)) (hne:¬(y=j∧e=q)):R.clk U n q k y e=R.clk U n q (k+1) y e:=by
 unfold Rg.clk
 rw[lG hk,hx,List.any_append]
 by_cases h:e=q
 ·have h2:¬(j:Int)=(y:Int):=by omega
  have h3:List.any [((j:Int),R.left U j q)] (fun x=>decide (x.1=(y:Int)))=false:=by
   rw[List.any_cons,List.any_nil,Bool.or_false]
   exact decide_eq_false h2
  rw[h3,Bool.or_false]
 simp[h]
theorem Lr {x c x' c':Nat→Nat→Rat}{L:List (Nat×Nat)}(h:∀p∈L,x p.1 p.2=x' p.1 p.2∧c p.1 p.2=c' p.1 p.2):R.vns U x c L=R.vns U x' c' L:=List.map_congr_left fun p hp=>by
 unfold Rg.vn
 rw[(h p hp).1,(h p hp).2]
end
def fS (a:Fr4):Bool:=decide (a.x.length≤3)&&decide (a.y.length≤3)
def lY (y:Yr):Bool:=decide (y.m.length≤6)&&(decide (y.b.length≤6)&&(fS y.l&&y.b.all fS))
def lZ (ys:List Yr):Bool:= !(decide (10<ys.length)&&decide (ys.length≤40)|| decide (60<ys.length))&&ys.all lY
theorem Dw {a:Fr4}(h:fS a=true):a.len 3:=by
 unfold fS at h
 simp only[Bool.and_eq_true,decide_eq_true_eq]at h
 exact h
theorem Ls {α:Type}{l:List α}{d:α}{p:α→Bool}(h:∀j,j<l.length→p (l.getD j d)=true):l.all p=true:=by
 rw[List.all_eq_true]
 intro x hx
 obtain⟨j,hj,rfl⟩:=List.getElem_of_mem hx
 have:=h j hj
 rwa[List.getD_eq_getElem?_getD,dC hj]at this
theorem Ra {y:Yr}{k:Nat}(hk:k<y.b.length) (h:fS (cZ y.b k)=false):lY y=false:=by
 have h1:y.b.all fS=false:=by
  rw[List.all_eq_false]
  exact⟨cZ y.b k,mP hk,by simp[h]⟩
 unfold lY
 rw[h1]
 simp
theorem Lu {y:Yr}{k:Nat}(hm:y.m.length≤6) (hb:y.b.length≤6) (hl:fS y.l=true) (hk:y.b.length≤k) (h:∀j,j<k→fS (cZ y.b j)=true):lY y=true:=by
 unfold lY
 rw[decide_eq_true hm,decide_eq_true hb,hl,Ls (d:=CQ) fun j hj=>h j (by omega)]
 rfl
theorem nE {ys:List Yr}{k:Nat}(hk:k<ys.length) (h:lY (aK ys k)=false):lZ ys=false:=by
 have h1:ys.all lY=false:=by
  rw[List.all_eq_false]
  exact⟨aK ys k,fR hk,by simp[h]⟩
 unfold lZ
 rw[h1]
 simp
theorem DG {ys:List Yr}{k:Nat}(hk:ys.length≤k) (h:∀j,j<k→lY (aK ys j)=true):lZ ys= !(decide (10<ys.length)&&decide (ys.length≤40)|| decide (60<ys.length)):=by
 unfold lZ
 rw[Ls (d:=HK) fun j hj=>h j (by omega),Bool.and_true]
theorem Lw {ys:List Yr}{k:Nat}(hk:ys.length≤k) (h:∀j,j<k→lY (aK ys j)=true) (hl:ys.length≤10∨40<ys.length∧ys.length≤60):lZ ys=true:=by
 rw[DG hk h]
 simp only[Bool.not_eq_true',Bool.or_eq_false_iff,Bool.and_eq_false_iff,decide_eq_false_iff_not]
 omega
theorem Ck {ys:List Yr}(h:(10<ys.length∧ys.length≤40)∨60<ys.length):lZ ys=false:=by
 unfold lZ
 have:(decide (10<ys.length)&&decide (ys.length≤40)|| decide (60<ys.length))=true:=by
  simp only[Bool.or_eq_true,Bool.and_eq_true,decide_eq_true_eq]
  omega
 rw[this]
 rfl
theorem pE {y:Yr}(h:6<y.m.length∨6<y.b.length∨fS y.l=false):lY y=false:=by
 unfold lY
 rcases h with h | h | h
 ·rw[decide_eq_false (show¬y.m.length≤6 by omega)];rfl
 ·rw[decide_eq_false (show¬y.b.length≤6 by omega),Bool.false_and,Bool.and_false]
 rw[h,Bool.false_and,Bool.and_false,Bool.and_false]
theorem wD {ys:List Yr}(h:lZ ys=true):(ys.length≤10∨40<ys.length∧ys.length≤60)∧∀y∈ys,y.m.length≤6∧y.b.length≤6∧y.l.len 3∧∀a∈y.b,a.len 3:=by
 unfold lZ at h
 simp only[Bool.and_eq_true,Bool.not_eq_true',Bool.or_eq_false_iff,Bool.and_eq_false_iff,decide_eq_false_iff_not,List.all_eq_true]at h
 refine⟨by omega,fun y hy=>?_⟩
 have h2:=h.2 y hy
 unfold lY at h2
 simp only[Bool.and_eq_true,decide_eq_true_eq,List.all_eq_true]at h2
 exact⟨h2.1,h2.2.1,Dw h2.2.2.1,fun a ha=>Dw (h2.2.2.2 a ha)⟩
structure Agr (R R':Rg) (k:Nat):Prop where
 f:R.f=R'.f
 e:R.E=R'.E
 m:∀y,y<k→R.mem y=R'.mem y
 b:∀y,y<k→R.base y=R'.base y
 l:∀y,y<k→R.lim y=R'.lim y
section
variable {R R':Rg}{U W:List Ur}{k n t y e i:Nat}{p:Ur→Bool}
theorem Ii:∀(a b:List Rat),mR (a++b)=mR a+mR b
 | [],b=>by rw[List.nil_append];show _=0+_;grind
 | x::a,b=>by rw[List.cons_append,Ij,Ii a b,Ij,Rat.add_assoc]
theorem KT:lW (U++W) p=lW U p+lW W p:=by
 unfold lW
 rw[List.filter_append,List.map_append,Ii]
theorem Lx:∀(L:List (Nat×Nat)) (U:List Ur),∃W,L.foldl (fun U p=>R.use U p.1 p.2 t) U=U++W∧∀u∈W,u.y=(t:Int)∧0<u.n
 | [],U=>⟨[],(List.append_nil U).symm,fun _ h=>(by cases h)⟩
 | p::L,U=>by
  rw[List.foldl_cons]
  obtain⟨W,h1,h2⟩:=Lx L (R.use U p.1 p.2 t)
  rw[h1]
  unfold Rg.use Rg.us
  split
  ·rename_i h
   refine⟨⟨p.1,p.2,t,_⟩::W,by rw[List.append_assoc];rfl,fun u hu=>?_⟩
   rcases List.mem_cons.1 hu with rfl | hu
   ·exact⟨rfl,h⟩
   exact h2 u hu
  exact⟨W,rfl,h2⟩
theorem KU (hk:k≤n):∃W,R.run n=R.run k++W∧∀u∈W,(k:Int)≤u.y:=by
 induction n with
 | zero=>exact⟨[],by rw[show k=0 by omega,List.append_nil],fun _ h=>(by cases h)⟩
 | succ n ih=>
  by_cases h:k=n+1
  ·exact⟨[],by rw[h,List.append_nil],fun _ h=>(by cases h)⟩
  obtain⟨W,h1,h2⟩:=ih (by omega)
  obtain⟨V,h3,h4⟩:=Lx (R:=R) (t:=n) ((R.vl n).filter (R.may n)) (R.run n)
  refine⟨W++V,?_,fun u hu=>?_⟩
  ·show R.step (R.run n) n=_
   unfold Rg.step
   rw[h3,h1,List.append_assoc]
  rcases List.mem_append.1 hu with hu | hu
  ·exact h2 u hu
  have:=(h4 u hu).1
  omega
end
section
variable {ys:List Yr}{f k i:Nat}
end
theorem PA {T:List (Nat×TI)}{fresh:Bool}{P:Program}{f:FuncId}{fn:Func}{c:Code}{n:Nat}{rv:List ResultVar}{lent given:List Lt}{args:List FV}{R:List Lt→FV→Prop}(hf:P.funcs[f]? =some fn) (hb:fn.body=some c) (hn:fn.ntmps=n) (hrv:fn.results.toList=rv) (hT:cL P T) (hle:Nat.ble args.length n=true)
  (h:∀N M w c0,c0.length=lent.length→WP ⟨P,N,M,w,n,c0⟩ c (bS (kI 0 args)) (aT (lent++given)) (yL ⟨P,N,M,w,n,c0⟩ (qM ⟨P,N,M,w,n,c0⟩ T rv fresh lent R))):rB fresh P f lent given args R:=by
 subst hn hrv
 refine DH hf hb T hT hle ?_
 rintro⟨P',N,M,w,n,c0⟩ rfl rfl h0
 exact(h N M w c0 h0).subQ
theorem Ly {K:List Nat}:∀{a a' b b':List AV},renL K a=some a'→renL K b=some b'→renL K (a++b)=some (a'++b')
 | [],a',b,b',h,h'=>by
  simp only[renL]at h
  injection h with h
  subst h
  exact h'
 | x::a,a',b,b',h,h'=>by
  simp only[List.cons_append,renL]at h⊢
  cases hx:gO K x with
  | none=>rw[hx]at h;simp at h
  | some x'=>
   cases ha:renL K a with
   | none=>rw[hx,ha]at h;simp at h
   | some a2=>
    rw[hx,ha]at h
    rw[Ly ha h']
    simp at h⊢
    rw[←h]
    rfl
theorem Ik {n:Nat}:∀{a b:List AV},refCs n a=true→refCs n b=true→refCs n (a++b)=true
 | [],b,_,h'=>h'
 | x::a,b,h,h'=>by
  simp only[List.cons_append,refCs,Bool.and_eq_true]at h⊢
  exact⟨h.1,Ik h.2 h'⟩
theorem PB {K0:List Nat}{o:Option Ob}{t z:Nat}{trs:List Tr}{l l':List AV}(h:o=some ⟨t,z,trs.map .t++l'⟩) (hl:renL K0 l=some l'):Bq K0 o ⟨t,z,trs.map .t++l⟩:=⟨_,Ly (Ju trs) hl,h⟩
section
variable {x:Cx}{g g':Nat→FV}{ob ob':List (Option Ob)}{Q:Post}{ops:Array Oper}{rest:List Oper}{d:Nat}{op:Op}{ty:TypeId}{pos:String}{af:Array Edge}{gd:Option (Nat×Bool)}
theorem ock {late:Nat→Bool}{K fr:List Nat}{fuel:Nat}{listed:Array Bool}{fresh:Bool}{f:FuncId}{args:List FV}{r v:FV}{os:List Ob}{aa:Array Operand}{ats:Array TypeId}(key i:Nat) (hi:ops[i]? =some ⟨some d,.call ⟨.value (.func f),aa,ats⟩,ty,pos,af,gd⟩) (hS:aG fresh x.P f [] args (aU r)) (hf:CallOk x.P f) (ha:AL fresh x g ob aa.toList args) (k:WD x ops Q late K (d::fr) true fuel (listed.setIfInBounds i true) (bF g d v) (ob++os.map some)) (hw:bI ops x.n g gd=some true:=by rfl) (hk:eD ob key=true:=by rfl) (hb:jP key r=some (v,os):=by rfl) (hK:HP K ob=true:=by rfl):WO x ops Q late K fr true fuel listed i g ob:=
 Ga (v:=v) i hi rfl hw (Cl hS hf ha hk (by rintro _ rfl;rw[hb];rfl)) (by
  rintro _ _ ⟨r',v',os',rfl,h,rfl,rfl⟩
  rw[hb]at h
  injection h with h
  injection h with h1 h2
  subst h1 h2
  exact⟨rfl,fun k hk'=>Rb (o:=none) hK k hk'⟩) (by
  rintro _ _ ⟨r',v',os',rfl,h,rfl,rfl⟩
  rw[hb]at h
  injection h with h
  injection h with h1 h2
  subst h1 h2
  exact k)
theorem Xv {fresh:Bool}{f:FuncId}{args:List FV}{R:List Lt→FV→Prop}{lent given:List Lt}{K K1 K2:List Nat}{aa:Array Operand}{ats:Array TypeId}{cf:Operand}{key:Nat}{c1 c2:AV}(s1 s2:Nat) (hS:rB fresh x.P f lent given args R) (hKK:K=K1++K2) (hl1:lent.length=K1.length) (hf:CallOk x.P f) (hc:lk x.n g cf=.one (.fn f [] [c1,c2])) (h1:g s1=.any) (h2:g s2=.any) (hs1:Nat.blt s1 x.n=true) (hs2:Nat.blt s2 x.n=true) (hne:Nat.beq s1 s2=false) (hop:∀o∈aa.toList,o≠.tmp s1∧o≠.tmp s2)
  (hK:eH ob K K (lent++given)) (hnd:K.Nodup) (ha:jT x.n (bF (bF g s1 (.one c1)) s2 (.one c2)) K (aa.toList++[.tmp s1,.tmp s2]) args) (hk:eD ob key=true) (hb:∀l r,R l r→l.length=K1.length→(jP key r).isSome=true∧∃ok,dX K1 l ok):
  OS x ⟨some d,.call ⟨.value cf,aa,ats⟩,ty,pos,af,gd⟩ g ob K (fun g' ob'=>∃l r v os ok,R l r∧l.length=K1.length∧jP key r=some (v,os)∧dX K1 l ok∧g'=bF g d v∧ob'=bB ob K (ok++bG K2)++os.map some):=by
 intro cs ts W hR K' Q kk
 have hs1:s1<x.n:=by simpa[Nat.blt,Nat.lt_iff_add_one_le]using hs1
 have hs2:s2<x.n:=by simpa[Nat.blt,Nat.lt_iff_add_one_le]using hs2
 have hne9:s1≠s2:=fun e=>by subst e;simp at hne
 have hcv:=hR.lk cf
 rw[hc]at hcv
 simp only[bO,bZ,AR]at hcv
 obtain⟨us,vs,e0,hu,hv⟩:=hcv
 simp only[ARL]at hu
 subst hu
 obtain⟨v1,v2,rfl,hv1,hv2⟩:∃v1 v2,vs=[v1,v2]∧AR W (x.fr W ob cs) cs c1 v1∧AR W (x.fr W ob cs) cs c2 v2:=by
  match vs,hv with
  | [v1,v2],h=>simp only[ARL]at h;exact⟨v1,v2,rfl,h.1,h.2.1⟩
  | [],h=>simp only[ARL]at h
  | [v1],h=>simp only[ARL]at h;exact h.2.elim
  | v1::v2::v3::vs,h=>simp only[ARL]at h;exact absurd h.2.2 (by simp)
 have hsz:=hR.1
 have hR':=(hR.put s1 (v:=.one c1) (u:=v1) (iX hv1)).put s2 (v:=.one c2) (u:=v2) (iX hv2)
 have ev:∀o:Operand,o≠.tmp s1→o≠.tmp s2→Act.eval ⟨(ts.setIfInBounds s1 v1).setIfInBounds s2 v2,[]⟩ o=Act.eval ⟨ts,[]⟩ o:=by
  intro o h3 h4
  cases o with
  | tmp t=>
   have q1:s1≠t:=fun e=>h3 (by rw[e])
   have q2:s2≠t:=fun e=>h4 (by rw[e])
   simp[Act.eval,Array.getElem?_setIfInBounds_ne q1,Array.getElem?_setIfInBounds_ne q2]
  | _=>rfl
 have e3:(aa.toList++[Operand.tmp s1,.tmp s2]).map (Act.eval ⟨(ts.setIfInBounds s1 v1).setIfInBounds s2 v2,[]⟩)=aa.toList.map (Act.eval ⟨ts,[]⟩)++[v1,v2]:=by
  rw[List.map_append]
  congr 1
  ·exact List.map_congr_left fun o ho=>ev o (hop o ho).1 (hop o ho).2
  have q1:s1<ts.size:=by omega
  have q2:s2<ts.size:=by omega
  have a1:((ts.setIfInBounds s1 v1).setIfInBounds s2 v2)[s1]? =some v1:=by rw[Array.getElem?_setIfInBounds_ne (Ne.symm hne9),Array.getElem?_setIfInBounds_self_of_lt q1]
  have a2:((ts.setIfInBounds s1 v1).setIfInBounds s2 v2)[s2]? =some v2:=Array.getElem?_setIfInBounds_self_of_lt (by rw[Array.size_setIfInBounds];exact q2)
  simp[Act.eval,a1,a2]
 have e:cR []++args++cR []=args:=by simp[cR]
 unfold Oper.wp
 rw[kD hf e0]
 have hC:=Dx (fst:=[]) (caps:=[]) (fus:=[]) (cus:=[]) (by rw[e];exact hS) hKK hl1 hK hnd ha (by simp[FRL]) (by simp[FRL]) hR'
 rw[e3]at hC
 simp only[List.nil_append,List.append_nil]at hC⊢
 refine hC.mono fun e W' hE=>?_
 obtain⟨v,lent',r,ys,cl,N2,rfl,hr,hl1,hl2,hro,hok,hndy,fin⟩:=hE
 obtain⟨hb1,ok,hbk⟩:=hb _ r hr hl1
 obtain⟨⟨v',os⟩,hbn⟩:=Option.isSome_iff_exists.1 hb1
 obtain⟨csn,e1,e2,e3,e4⟩:=yM (Jv hbn hro) hok hbn
 obtain⟨hN,hfin⟩:=fin ok hbk os csn e1 (fun b=>by rw[e2];exact bC _) e3
 have hk:=Nat.eq_of_beq_eq_true hk
 have hpl:(cH cs K (cl++K2.map (co cs))).length=key:=by rw[gG,←hR.len,hk]
 obtain⟨g1,g2⟩:=e4 _ (cH cs K (cl++K2.map (co cs))++csn) hN (by simp[hpl,e1]) (fun i _=>by
  rw[Gb (by omega),hpl,show key+i-key=i by omega])
 obtain⟨m1,m2⟩:=hfin g2
 have m3:RelC x g (bB ob K (ok++bG K2)++os.map some) (cH cs K (cl++K2.map (co cs))++csn) ts W':=by
  refine m1.re hsz fun i hi=>?_
  by_cases q1:i=s1
  ·subst q1
   exact⟨ts[i]'(by omega),Array.getElem?_eq_getElem _,by rw[h1];trivial⟩
  by_cases q2:i=s2
  ·subst q2
   exact⟨ts[i]'(by omega),Array.getElem?_eq_getElem _,by rw[h2];trivial⟩
  obtain⟨u,u1,u2⟩:=m1.fv hi
  rw[Array.getElem?_setIfInBounds_ne (Ne.symm q2),Array.getElem?_setIfInBounds_ne (Ne.symm q1)]at u1
  have b1:Nat.beq i s1=false:=by
   cases h:Nat.beq i s1
   ·rfl
   exact absurd (Nat.eq_of_beq_eq_true h) q1
  have b2:Nat.beq i s2=false:=by
   cases h:Nat.beq i s2
   ·rfl
   exact absurd (Nat.eq_of_beq_eq_true h) q2
  simp only[bF,b1,b2,cond_false]at u2
  exact⟨u,u1,u2⟩
 have m4:=m2 (some d)
 refine kk _ _ _ _ _ ⟨lent',r,v',os,ok,hr,hl1,hbn,hbk,rfl,rfl⟩ (m3.put d g1) ?_
 have m5:Aft K (some d) ob cs ts W (bB ob K (ok++bG K2)++os.map some) (cH cs K (cl++K2.map (co cs))++csn) ts W':=⟨m4.1,m4.2,m4.3,m4.4,m4.5,fun _ _=>rfl⟩
 exact m5.then_put v
theorem UP {late:Nat→Bool}{K fr:List Nat}{fuel:Nat}{listed:Array Bool}{fresh:Bool}{f:FuncId}{lent lent' given:List Lt}{args:List FV}{r v:FV}{os:List Ob}{cf:Operand}{aa:Array Operand}{ats:Array TypeId}{c1 c2:AV}(i key s1 s2:Nat) (Kl K1 K2:List Nat) (hi:ops[i]? =some ⟨some d,.call ⟨.value cf,aa,ats⟩,ty,pos,af,gd⟩) (hS:rB fresh x.P f lent given args (Rt lent' r)) (hf:CallOk x.P f) (hc:lk x.n g cf=.one (.fn f [] [c1,c2])) (h1:g s1=.any) (h2:g s2=.any) (hK:eH ob Kl Kl (lent++given)) (ha:jT x.n (bF (bF g s1 (.one c1)) s2 (.one c2)) Kl (aa.toList++[.tmp s1,.tmp s2]) args){ok:List (Option Ob)}(hbk:dX K1 lent' ok) (hke:jV ob (bB ob Kl (ok++bG K2)++os.map some) K) (k:WD x ops Q late K (d::fr) true fuel (listed.setIfInBounds i true) (bF g d v) (bB ob Kl (ok++bG K2)++os.map some)) (hl1:lent.length=K1.length:=by rfl) (hKK:Kl=K1++K2:=by rfl) (hr:Region.ready .any ops listed=[i]:=by kernel_rfl) (hw:bI ops x.n g gd=some true:=by rfl) (hk:eD ob key=true:=by rfl) (hnd:Kl.Nodup:=by decide) (hdis:∀k∈K,k∉Kl:=by decide) (hb:jP key r=some (v,os):=by rfl) (hs1:Nat.blt s1 x.n=true:=by rfl) (hs2:Nat.blt s2 x.n=true:=by rfl) (hne:Nat.beq s1 s2=false:=by rfl) (hop:∀o∈aa.toList,o≠.tmp s1∧o≠.tmp s2:=by simp):
  WD x ops Q late K fr true (fuel+1) listed g ob:=by
 refine WO.one hr (Dy i hi rfl hw (Xv s1 s2 hS hKK hl1 hf hc h1 h2 hs1 hs2 hne hop hK hnd ha hk (by rintro _ _ ⟨rfl,rfl⟩ _;exact⟨by rw[hb];rfl,ok,hbk⟩)) hdis ?_ ?_)
 ·rintro _ _ ⟨l,r',v',os',ok',⟨rfl,rfl⟩,_,h,h9,rfl,rfl⟩
  obtain rfl:=kE hbk h9
  rw[hb]at h
  injection h with h
  injection h with h1 h2
  subst h1 h2
  exact⟨⟨_,rfl⟩,gL hke⟩
 rintro _ _ ⟨l,r',v',os',ok',⟨rfl,rfl⟩,_,h,h9,rfl,rfl⟩
 obtain rfl:=kE hbk h9
 rw[hb]at h
 injection h with h
 injection h with h1 h2
 subst h1 h2
 exact k
end
theorem uL (us:List Ur) (o:Bool):((us.flatMap (eM o)).map AV.t).length=us.length*7:=by rw[dF,bE (eF o)]
theorem Dz {A B:List AV}{n i:Nat}(h:A.length=n):(A++B)[n+i]? =B[i]? :=by rw[List.getElem?_append_right (by omega),h,show n+i-n=i by omega]
theorem Ea {A B:List AV}{n i:Nat}{a:AV}(h:A.length=n):(A++B).set (n+i) a=A++B.set i a:=by rw[List.set_append_right _ _ (by omega),h,show n+i-n=i by omega]
theorem DI (us:List Ur) (u:Ur):(us.flatMap (eM true)).map AV.t++(eM true u).map .t=((us++[u]).flatMap (eM true)).map .t:=by simp[List.flatMap_append]
theorem DJ (xs:List Vn) (x:Vn):(xs.flatMap (cF true)).map AV.t++(cF true x).map .t=((xs++[x]).flatMap (cF true)).map .t:=by simp[List.flatMap_append]
theorem Ag (xs:List Vn) (o:Bool):((xs.flatMap (cF o)).map AV.t).length=xs.length*18:=by rw[dF,bE (cQ o)]
theorem tG:∀a b:List Tr,rdTL (a++b)=rdTL a++rdTL b:=by
 intro a b
 induction a with
 | nil=>rfl
 | cons x a ih=>simp only[List.cons_append,rdTL,ih]
theorem rC {α:Type}{f g:α→List Tr}(h:∀x,rdTL (f x)=g x) (xs:List α):rdTL (xs.flatMap f)=xs.flatMap g:=by
 induction xs with
 | nil=>rfl
 | cons x xs ih=>rw[List.flatMap_cons,tG,ih,h,List.flatMap_cons]
theorem Rc (l:List Nat):rdTL (aI l)=aI l:=by
 induction l with
 | nil=>rfl
 | cons x l ih=>simp only[aI,List.map_cons,rdTL,nF]at ih⊢;rw[ih]
theorem uM (o:Bool) (a:Fr4):rdTL (a.tr o)=a.tr false:=by simp[Fr4.tr,sU,rdTL,nF,Rc]
theorem yN (o:Bool) (xs:List Vn):rdTL (xs.flatMap (cF o))=xs.flatMap (cF false):=rC (fun v=>by
 unfold cF
 rw[rdTL,rdTL,tG,tG,tG,uM,uM,uM,uM]
 rfl) xs
theorem Lz (o:Bool) (xs:List Ur):rdTL (xs.flatMap (eM o))=xs.flatMap (eM false):=rC (fun u=>by
 unfold eM
 rw[rdTL,rdTL,rdTL,uM]
 rfl) xs
theorem DK {B:Nat}:∀{l:List Rat},(∀q∈l,Sz B q)→Sz (2+l.length*(B+1)) (mR l):=fun{l} h=>by
 have key:∀(l:List Rat) (p:Rat) (m:Nat),Sz m p→(∀q∈l,Sz B q)→Sz (m+l.length*(B+1)) (l.foldl (· + ·) p):=by
  intro l
  induction l with
  | nil=>intro p m hp _;simpa using hp
  | cons q l ih=>
   intro p m hp hl
   have h1:=ih (p+q) (m+B+1) (yO hp (hl q (List.mem_cons_self ..))) fun z hz=>hl z (List.mem_cons_of_mem _ hz)
   rw[List.foldl_cons,List.length_cons,Nat.add_mul,Nat.one_mul]
   exact h1.mono (by omega)
 exact key l 0 2 ((yP (z:=0) (by omega) (by omega)).mono (by omega)) h
section
variable {R:Rg}{U W:List Ur}{N n k t y e:Nat}
theorem Ma {M:Nat}(h:2≤M):Sz M (0:Rat):=(yP (z:=0) (by omega) (by omega)).mono h
theorem Jw (hO:R.Ok n) (hI:R.Iv n U) (hy:y<n) (he:e<R.E):Sz 300 (R.ex U k y e):=by
 unfold Rg.ex
 split
 ·exact hI.sz_left hO hy he
 exact Ma (by omega)
theorem UQ (hO:R.Ok n) (hI:R.Iv n U) (hy:y<n) (he:e<R.E):Sz 300 (R.cl U k y e):=by
 unfold Rg.cl
 split
 ·exact hI.sz_left hO hy he
 exact Ma (by omega)
theorem Re (hO:R.Ok N):∀{n:Nat},n≤N→∀u∈R.run n,Sz 300 u.n
 | 0,_,u,h=>by cases h
 | n+1,hn,u,h=>by
  have key:∀(L:List (Nat×Nat)) (V:List Ur),R.Iv N V→(∀u∈V,Sz 300 u.n)→(∀p∈L,p.1<N∧p.2<R.E)→∀u∈L.foldl (fun U p=>R.use U p.1 p.2 n) V,Sz 300 u.n:=by
   intro L
   induction L with
   | nil=>intro V _ h _;exact h
   | cons p L ih=>
    intro V hI hV hL
    have h1:=hL p (List.mem_cons_self ..)
    refine ih _ (hI.use h1.1 h1.2 (by omega)) (fun u hu=>?_) fun q hq=>hL q (List.mem_cons_of_mem _ hq)
    dsimp only at hu
    unfold Rg.use at hu
    by_cases h0:0<aJ (R.left V p.1 p.2) [R.room V p.2 n]
    ·rw[lF h0]at hu
     rcases List.mem_append.1 hu with hu | hu
     ·exact hV u hu
     rw[List.mem_singleton]at hu
     subst hu
     refine hO.sz (Rat.le_of_lt h0) ?_ ((hI.v _ _ h1.1 h1.2).2.min (Mb hI h1.2 (by omega)))
     exact Rat.le_trans (pF _ _) (Rat.le_trans (hI.v _ _ h1.1 h1.2).1.2 (hO.los_le h1.1 h1.2))
    rw[wE h0]at hu
    exact hV u hu
  exact key _ _ (hO.run (by omega)) (Re hO (n:=n) (by omega)) (fun p hp=>by
   have:=gK.1 (List.mem_filter.1 hp).1
   exact⟨by omega,this.2.1⟩) u h
theorem PC {p:Ur→Bool}{B:Nat}(h:∀u∈U,Sz B u.n):Sz (2+U.length*(B+1)) (lW U p):=by
 unfold lW
 refine(DK (B:=B) fun q hq=>?_).mono ?_
 ·obtain⟨u,hu,rfl⟩:=List.mem_map.1 hq
  exact h u (List.mem_filter.1 hu).1
 rw[dF]
 have:=Nat.mul_le_mul (List.length_filter_le p U) (bC (B+1))
 omega
theorem Ah {p:Ur→Bool}{B M:Nat}(h:∀u∈U,Sz B u.n) (hM:2+U.length*(B+1)≤M):Sz M (lW (U.take k) p):=by
 refine(PC (B:=B) fun u hu=>h u (List.mem_of_mem_take hu)).mono ?_
 have:=Nat.mul_le_mul (show(U.take k).length≤U.length by rw[eA];omega) (bC (B+1))
 omega
theorem base_le {b:Rat}:b≤DL 0 [b]∧0≤DL 0 [b]:=by
 show b≤(if(0:Rat)<b then b else 0)∧0≤(if(0:Rat)<b then b else 0)
 split <;> exact⟨by grind,by grind⟩
end
section
variable {R:Rg}{U V W:List Ur}{N n k t y e:Nat}{p:Nat×Nat}{m:Rat}
end
section
variable {lt:Nat→Nat→Bool}{A B C D:List Nat}{x y j:Nat}
end
theorem PD {xs:List Fr4}{dl:Fr4→Bool}{fd:FuncId}{fst caps:List Tr}(hok:CallOk Tryz.prog fd) (hd:∀x∈xs,aG true Tryz.prog fd [] (cR fst++[.agg ((Fr4.tr false x).map .t)]++cR caps) (aU (.one (tv (.bool (dl x)))))) (hl:xs.length≤1073741823):aG true Tryz.prog 98 [] [.one (.t (sQ false xs)),.one (.t (.f fd fst caps))] (aU (.one (tv (.int .i64 (pY dl xs))))):=by
 refine cC Tryz.func98 rfl Tryz.ntmps98 rfl aB rfl fun N w c0 h0=>?_
 refine sq (rl (o1 ?_));refine nl (sq (sq (rl ?_)));(iterate 3 refine o1 ?_);refine nl (bl ?_)
 refine lp (γ:=Nat) (fun k=>bS [(0,.one (.t (sQ false xs))),(1,.one (.t (.f fd fst caps))),(7,.one (tv (.int .i64 ((xs.length:Nat):Int)))),(8,.one (tv (.int .i64 ((k:Nat):Int))))]) (fun k=>[].map some) (fun k=>k≤xs.length∧k≤dD dl xs) (fun k=>xs.length-k) 0 (⟨Nat.zero_le _,Nat.zero_le _⟩) (aW h0 [] rfl) fun k hk=>?_
 refine sq (rl (o1 ?_));refine nl (sq ?_);refine bL rfl (fun h1=>?_) (fun h1=>?_)
 ·refine sk (sq (bl (sq (rl (o1 ?_)))));refine o1 ?_;refine nl (sq (rl ?_));(iterate 4 refine o1 ?_)
  refine eE ((Fr4.tr false) (cZ xs (k))) (bH (f:=(Fr4.tr false)) (z:=4) (o:=0) (fun _=>rfl) (wF (by omega)) (bN rfl) rfl) ?_
  refine ce 0 [.agg ((Fr4.tr false (cZ xs (k))).map .t)] rfl (hd (cZ xs (k)) (fK (by omega))) hok ⟨rfl,rfl⟩ ?_
  refine nl ?_;refine nC rfl (fun h2=>?_) (fun h2=>?_)
  ·refine sq (rl (o1 ?_));refine o1 ?_;refine nl (rt ?_);have hx9:=(mS hk.2 (by omega)).1 h2
   exact en (.inl rfl) rfl (bD (cU _)) (by decide) (fun _=>trivial) (congrArg (fun z=>FV.one (tv (.int .i64 z))) (by unfold pY;rw[hx9,if_neg (by omega)]))
  refine sk (rl (o1 ?_));refine aZ 18 (k+1) ?_
  refine o1 ?_;refine nl ?_;exact⟨k+1,by omega,⟨by omega,(mS hk.2 (by omega)).2 h2⟩,aW h0 [] rfl⟩
 refine ex (sq (rl (o1 ?_)));refine nl (rt ?_);have hx9:=yQ (dl:=dl) xs
 exact en (.inl rfl) rfl (bD (cU _)) (by decide) (fun _=>trivial) (congrArg (fun z=>FV.one (tv (.int .i64 z))) (by unfold pY;rw[if_pos (by omega)]))
theorem PE {xs:List Fr4}{dl:Fr4→Bool}{fd:FuncId}{fst caps:List Tr}(hok:CallOk Tryz.prog fd) (hd:∀x∈xs,aG true Tryz.prog fd [] (cR fst++[.agg ((Fr4.tr false x).map .t)]++cR caps) (aU (.one (tv (.bool (dl x)))))) (hl:xs.length≤1073741823):aG true Tryz.prog 69 [] [.one (.t (sQ false xs)),.one (.t (.f fd fst caps))] (aU (.one (tv (.bool (xs.any dl))))):=by
 refine cC Tryz.func69 rfl Tryz.ntmps69 rfl aB rfl fun N w c0 h0=>?_
 refine sq (rl (o1 ?_));refine nl (sq (rl (o1 ?_)));refine o1 ?_
 refine ca (PD hok hd hl) XF ⟨a1 rfl,a1 rfl,rfl⟩ (.one (tv (.int .i64 (pY dl xs)))) ?_;refine o1 ?_;refine o1 ?_;refine nl (rt ?_)
 exact en (.inl rfl) rfl (bD (cU _)) (by decide) (fun _=>trivial) (congrArg (fun z=>FV.one (tv (.bool z))) (Rf xs))
theorem Rh {x:Int}:aG true Tryz.prog 146 [] [.one (tv (.int .i64 x))] (aU (.one (tv (.bool false)))):=by
 refine cC Tryz.func146 rfl Tryz.ntmps146 rfl aB rfl fun N9 w9 c0 h0=>?_
 refine sq (rl (o1 ?_));refine nl (sq (rl ?_));(iterate 3 refine o1 ?_)
 refine WL.cast (t:=5) (u':=.bool false) rfl (congrArg Value.bool (decide_eq_false fun h=>h rfl)) ?_
 refine o1 ?_;refine nl (rt ?_);exact jQ (.inl rfl) rfl (rfl)
theorem Xw {x y:Int}:aG true Tryz.prog 128 [] [.one (tv (.int .i64 x)),.one (tv (.int .i64 y))] (aU (.one (tv (.int .i64 (if x<y then-1 else if y<x then 1 else 0))))):=by
 refine cC Tryz.func128 rfl Tryz.ntmps128 rfl aB rfl fun N9 w9 c0 h0=>?_
 refine sq (rl (o1 ?_));refine nl (sq (rl (o1 ?_)));refine ca (Rh) HR ⟨a1 rfl,rfl⟩ (.one (tv (.bool false))) ?_;refine o1 ?_;refine nl ?_
 refine sq (rl (o1 ?_));refine ca (Rh) HR ⟨a1 rfl,rfl⟩ (.one (tv (.bool false))) ?_;refine o1 ?_;refine nl (sq (sq (rl (o1 ?_))))
 refine nl (gD rfl (sk (sq (sq (rl (o1 ?_))))));refine nl (gD rfl (sk (sq (sq (rl ?_)))))
 (iterate 3 refine o1 ?_);refine nl ?_;refine bL rfl (fun h1=>?_) (fun h1=>?_)
 ·refine sq (rl (o1 ?_));refine nl (rt ?_)
  exact en (.inl rfl) rfl (bD (cU _)) (by decide) (fun _=>trivial) (congrArg (fun z=>FV.one (tv (.int .i64 z))) (by rw[if_pos h1]))
 refine sk (sq (sq (rl ?_)));(iterate 3 refine o1 ?_);refine nl ?_;refine bL rfl (fun h2=>?_) (fun h2=>?_)
 ·refine sq (rl (o1 ?_));refine nl (rt ?_)
  exact en (.inl rfl) rfl (bD (cU _)) (by decide) (fun _=>trivial) (congrArg (fun z=>FV.one (tv (.int .i64 z))) (by rw[if_neg h1];rw[if_pos h2]))
 refine sk (sq (rl (o1 ?_)));refine nl (rt ?_)
 exact en (.inl rfl) rfl (bD (cU _)) (by decide) (fun _=>trivial) (congrArg (fun z=>FV.one (tv (.int .i64 z))) (by rw[if_neg h1];rw[if_neg h2]))
theorem Um {x y:Wv}:aG true Tryz.prog 127 [] [.agg ((aQ x).map .t),.agg ((aQ y).map .t)] (aU (.one (tv (.int .i64 (DM x.y y.y))))):=by
 refine cC Tryz.func127 rfl Tryz.ntmps127 rfl aB rfl fun N9 w9 c0 h0=>?_
 refine sq (rl (bx 0 ?_));refine bx 1 ?_;refine o1 ?_;refine nl (sq (rl (o1 ?_)));refine ld ?_;refine o1 ?_;refine ld ?_
 refine ca (Xw (x:=x.y) (y:=y.y)) UR ⟨a1 rfl,a1 rfl,rfl⟩ (.one (tv (.int .i64 (if x.y<y.y then-1 else if y.y<x.y then 1 else 0)))) ?_;refine o1 ?_;refine nl (rt ?_)
 exact en (.inl rfl) rfl (bD (cU _)) (by decide) (fun _=>trivial) (congrArg (fun z=>FV.one (tv (.int .i64 z))) (rfl))
theorem Un {N:Nat}{xs P U M V Q:List Wv}{a b n:Nat}(hx:xs=P++(U++(M++(V++Q)))) (ha:P.length=a) (hU:U.length=n) (hV:V.length=n) (hb:a+n+M.length=b) (hN:xs.length=N) (hl:N≤1073741823):aG false Tryz.prog 171 [⟨64,18,(xs.flatMap aQ).map .t⟩] [.one (.sl 0 0 N),.one (tv (.int .i64 ((a:Nat):Int))),.one (tv (.int .i64 ((b:Nat):Int))),.one (tv (.int .i64 ((n:Nat):Int))),.one (.t (.f 127 [] []))] (Rt [⟨64,18,((P++(V++(M++(U++Q)))).flatMap aQ).map .t⟩] (.tup [])):=by
 refine nG Tryz.func171 rfl Tryz.ntmps171 rfl aB rfl fun N9 M9 w9 c0 h0=>?_
 have hxl:xs.length=P.length+U.length+M.length+V.length+Q.length:=by rw[hx];simp only[cO];omega
 refine sq (rl (o1 ?_));refine nl (bl ?_)
 refine lp (γ:=Nat×List Wv) (fun s=>bS [(0,.one (.sl 0 0 (N))),(1,.one (tv (.int .i64 ((a:Nat):Int)))),(2,.one (tv (.int .i64 ((b:Nat):Int)))),(3,.one (tv (.int .i64 ((n:Nat):Int)))),(10,.one (tv (.int .i64 ((s.1:Nat):Int))))]) (fun s=>[(⟨64,18,(s.2.flatMap aQ).map .t⟩:Ob)].map some) (fun s=>s.1≤n∧SwP P U M V Q s.1 s.2) (fun s=>n-s.1) (0,xs) ⟨Nat.zero_le _,hx▸SwP.zero⟩ (dH h0 [0] ⟨aC rfl,rfl⟩) ?_
 rintro⟨i,D⟩ ⟨hi,hS⟩;dsimp only at hi hS⊢;have hDl:=hS.len
 refine sq (sq (rl ?_));(iterate 3 refine o1 ?_);refine nl ?_;refine bL rfl (fun h1=>?_) (fun h1=>?_)
 ·refine sk (sq (bl ?_));refine rd [] (fun i=>[23].contains i) mixed ?_
  refine dv 0 ?_;refine dv 1 ?_;refine dv 2 ?_;refine dv 3 ?_;refine oW 19 (a+i) ?_
  refine dv 4 ?_;refine dv 5 ?_;refine dv 6 ?_;refine dv 7 ?_;refine oW 23 (b+i) ?_
  refine dv 8 ?_;refine dv 9 ?_;refine dv 10 ?_;refine dv 11 ?_;refine oW 27 (b+i) ?_
  refine dv 12 ?_;refine dv 14 ?_;refine dv 15 ?_;refine dv 16 ?_;refine dv 17 ?_;refine oW 33 (a+i) ?_
  refine dv 18 ?_;refine WO.two (i:=13) (j:=19) (by kernel_rfl) ?_ ?_
  ·refine mA 13 (cJ (f:=aQ) (z:=18) (o:=0) (us:=aQ (aE D (b+i))) bK (cB (l:=D) (i:=b+i) (by omega)) (bN rfl) rfl) ?_
   refine WO.one (by kernel_rfl) (mA 19 (cJ (f:=aQ) (z:=18) (o:=0) (us:=aQ (aE D (a+i))) bK (cB (l:=D) (i:=a+i) (by omega)) (bN rfl) rfl) ?_)
   refine dv 20 ?_
   refine tH 21 (dN (xs:=D) (k:=a+i) (x:=(aE D (a+i))) (f:=aQ) (z:=18) (o:=0) (x':=(aE D (b+i))) (us:=aQ (aE D (b+i))) bK (cB (l:=D) (i:=a+i) (by omega)) (bN rfl) rfl) (eP (xs:=D) (k:=a+i) (f:=aQ) (z:=18) (o:=0) (us:=aQ (aE D (b+i))) bK (by omega) (bN rfl)) ?_
   refine dv 22 ?_
   refine lX 23 (dN (xs:=(D.set (a+i) (aE D (b+i)))) (k:=b+i) (x:=(aE (D.set (a+i) (aE D (b+i))) (b+i))) (f:=aQ) (z:=18) (o:=0) (x':=(aE D (a+i))) (us:=aQ (aE D (a+i))) bK (cB (l:=(D.set (a+i) (aE D (b+i)))) (i:=b+i) (by simp only[List.length_set];omega)) (bN rfl) rfl) (eP (xs:=(D.set (a+i) (aE D (b+i)))) (k:=b+i) (f:=aQ) (z:=18) (o:=0) (us:=aQ (aE D (a+i))) bK (by simp only[List.length_set];omega) (bN rfl)) ?_
   refine aV ?_;refine rl (o1 ?_);refine o1 ?_;refine aZ 15 (i+1) ?_
   refine o1 ?_;refine nl ?_
   exact⟨(i+1,((D.set (a+i) (aE D (b+i))).set (b+i) (aE D (a+i)))),by dsimp only;omega,⟨by omega,hS.step hU hV (by omega) ha hb⟩,dH h0 [0] ⟨aC rfl,rfl⟩⟩
  refine mA 19 (cJ (f:=aQ) (z:=18) (o:=0) (us:=aQ (aE D (a+i))) bK (cB (l:=D) (i:=a+i) (by omega)) (bN rfl) rfl) ?_
  refine WO.one (by kernel_rfl) (mA 13 (cJ (f:=aQ) (z:=18) (o:=0) (us:=aQ (aE D (b+i))) bK (cB (l:=D) (i:=b+i) (by omega)) (bN rfl) rfl) ?_)
  refine dv 20 ?_
  refine tH 21 (dN (xs:=D) (k:=a+i) (x:=(aE D (a+i))) (f:=aQ) (z:=18) (o:=0) (x':=(aE D (b+i))) (us:=aQ (aE D (b+i))) bK (cB (l:=D) (i:=a+i) (by omega)) (bN rfl) rfl) (eP (xs:=D) (k:=a+i) (f:=aQ) (z:=18) (o:=0) (us:=aQ (aE D (b+i))) bK (by omega) (bN rfl)) ?_
  refine dv 22 ?_
  refine lX 23 (dN (xs:=(D.set (a+i) (aE D (b+i)))) (k:=b+i) (x:=(aE (D.set (a+i) (aE D (b+i))) (b+i))) (f:=aQ) (z:=18) (o:=0) (x':=(aE D (a+i))) (us:=aQ (aE D (a+i))) bK (cB (l:=(D.set (a+i) (aE D (b+i)))) (i:=b+i) (by simp only[List.length_set];omega)) (bN rfl) rfl) (eP (xs:=(D.set (a+i) (aE D (b+i)))) (k:=b+i) (f:=aQ) (z:=18) (o:=0) (us:=aQ (aE D (a+i))) bK (by simp only[List.length_set];omega) (bN rfl)) ?_
  refine aV ?_;refine rl (o1 ?_);refine o1 ?_;refine aZ 15 (i+1) ?_
  refine o1 ?_;refine nl ?_
  exact⟨(i+1,((D.set (a+i) (aE D (b+i))).set (b+i) (aE D (a+i)))),by dsimp only;omega,⟨by omega,hS.step hU hV (by omega) ha hb⟩,dH h0 [0] ⟨aC rfl,rfl⟩⟩
 refine ex ?_;have hni:i=n:=by omega
 subst hni
 exact hJ (lent':=[⟨64,18,((P++(V++(M++(U++Q)))).flatMap aQ).map .t⟩]) (.inr rfl) rfl qT (by decide) (fun _ h=>by cases h) ⟨⟨rfl,rfl⟩,trivial⟩ ⟨congrArg (fun l:List Wv=>some (⟨64,18,(l.flatMap aQ).map .t⟩:Ob)) (hS.fin hU hV),trivial⟩ ⟨cK _,trivial⟩ (fun h=>by cases h) ⟨rfl,rfl⟩
theorem US {N:Nat}{xs Z:List Wv}{a m b:Nat}(hR:Ro m (m-a) (b-m) xs Z) (ha:a<m) (hb:m<b) (hN:xs.length=N) (hl:N≤1073741823):aG false Tryz.prog 168 [⟨64,18,(xs.flatMap aQ).map .t⟩] [.one (.sl 0 0 N),.one (tv (.int .i64 ((a:Nat):Int))),.one (tv (.int .i64 ((m:Nat):Int))),.one (tv (.int .i64 ((b:Nat):Int))),.one (.t (.f 127 [] []))] (Rt [⟨64,18,(Z.flatMap aQ).map .t⟩] (.tup [])):=by
 refine nG Tryz.func168 rfl Tryz.ntmps168 rfl aB rfl fun N9 M9 w9 c0 h0=>?_
 have hR0:=hR.len
 refine sq (rl ?_);(iterate 3 refine o1 ?_);refine aZ 14 (m-a) ?_
 refine o1 ?_;refine nl (sq (rl ?_));(iterate 3 refine o1 ?_);refine aZ 17 (b-m) ?_
 refine o1 ?_;refine nl (sq (bl ?_))
 refine lp (γ:=Nat×Nat×List Wv) (fun s=>bS [(0,.one (.sl 0 0 (N))),(2,.one (tv (.int .i64 ((m:Nat):Int)))),(4,.one (.t (.f 127 [] []))),(10,.one (tv (.int .i64 ((s.1:Nat):Int)))),(11,.one (tv (.int .i64 ((s.2.1:Nat):Int))))]) (fun s=>[(⟨64,18,(s.2.2.flatMap aQ).map .t⟩:Ob)].map some) (fun s=>0<s.1∧0<s.2.1∧Ro m s.1 s.2.1 s.2.2 Z∧s.2.2.length=N) (fun s=>s.1+s.2.1) (m-a,b-m,xs) ⟨by dsimp only;omega,by dsimp only;omega,hR,hN⟩ (dH h0 [0] ⟨aC rfl,rfl⟩) ?_
 rintro⟨i,j,D⟩ ⟨hi,hj,hR,hDn⟩;dsimp only at hi hj hR hDn⊢;have hDl0:=hR.len
 refine sq (sq (rl ?_));(iterate 3 refine o1 ?_);refine nl ?_;refine bL rfl (fun h1=>?_) (fun h1=>?_)
 ·refine sk (bl (sq (rl ?_)));(iterate 3 refine o1 ?_);refine nl ?_;refine bL rfl (fun h2=>?_) (fun h2=>?_)
  ·refine sq (rl ?_);(iterate 4 refine o1 ?_);refine aZ 27 (m-i) ?_
   (iterate 3 refine o1 ?_);have hDl:=hR.len
   obtain⟨P,U,M,V,Q,hD,h5,h6,h7,h8,hR2⟩:=hR.gt (by omega)
   refine cl 1 [0] (Un (xs:=D) (a:=m-i) (b:=m) (n:=j) hD h5 h6 h7 h8 hDn hl) Uo ⟨aC rfl,rfl⟩ ⟨rfl,rfl,rfl,rfl,rfl,rfl⟩ (ok:=[some ⟨64,18,((P++(V++(M++(U++Q)))).flatMap aQ).map .t⟩]) ⟨aC rfl,rfl⟩ ?_
   refine nl (rl ?_);(iterate 3 refine o1 ?_);refine aZ 34 (i-j) ?_
   refine o1 ?_;refine nl ?_;have hD2:(P++(V++(M++(U++Q)))).length=N:=by rw[←hR2.len.2.2,hR0.2.2,hN]
   exact⟨(i-j,j,(P++(V++(M++(U++Q))))),by dsimp only;omega,⟨by dsimp only;omega,by dsimp only;omega,hR2,hD2⟩,dH h0 [0] ⟨aC rfl,rfl⟩⟩
  refine sq (rl ?_);(iterate 4 refine o1 ?_);refine aZ 38 (m-i) ?_
  (iterate 3 refine o1 ?_);refine aZ 41 (m+j) ?_
  refine o1 ?_;refine o1 ?_;refine aZ 43 (m+j-i) ?_
  refine o1 ?_;refine o1 ?_;have hDl:=hR.len
  obtain⟨P,U,M,V,Q,hD,h5,h6,h7,h8,hR2⟩:=hR.lt (by omega)
  refine cl 1 [0] (Un (xs:=D) (a:=m-i) (b:=m+j-i) (n:=i) hD h5 h6 h7 h8 hDn hl) Uo ⟨aC rfl,rfl⟩ ⟨rfl,rfl,rfl,rfl,rfl,rfl⟩ (ok:=[some ⟨64,18,((P++(V++(M++(U++Q)))).flatMap aQ).map .t⟩]) ⟨aC rfl,rfl⟩ ?_
  refine nl (rl ?_);(iterate 3 refine o1 ?_);refine aZ 49 (j-i) ?_
  refine o1 ?_;refine nl ?_;have hD2:(P++(V++(M++(U++Q)))).length=N:=by rw[←hR2.len.2.2,hR0.2.2,hN]
  exact⟨(i,j-i,(P++(V++(M++(U++Q))))),by dsimp only;omega,⟨by dsimp only;omega,by dsimp only;omega,hR2,hD2⟩,dH h0 [0] ⟨aC rfl,rfl⟩⟩
 refine ex (rl ?_);(iterate 4 refine o1 ?_);refine aZ 53 (m-i) ?_
 (iterate 3 refine o1 ?_);have hij:i=j:=by omega
 subst hij;have hDl:=hR.len
 obtain⟨P,U,V,Q,hD,h5,h6,h7,h8,hR2⟩:=hR.eq
 refine cl 1 [0] (Un (xs:=D) (a:=m-i) (b:=m) (n:=i) hD h5 h6 h7 h8 hDn hl) Uo ⟨aC rfl,rfl⟩ ⟨rfl,rfl,rfl,rfl,rfl,rfl⟩ (ok:=[some ⟨64,18,((P++(V++([]++(U++Q)))).flatMap aQ).map .t⟩]) ⟨aC rfl,rfl⟩ ?_
 refine nl ?_
 exact hJ (lent':=[⟨64,18,(Z.flatMap aQ).map .t⟩]) (.inr rfl) rfl qT (by decide) (fun _ h=>by cases h) ⟨⟨rfl,rfl⟩,trivial⟩ ⟨congrArg (fun l:List Wv=>some (⟨64,18,(l.flatMap aQ).map .t⟩:Ob)) hR2,trivial⟩ ⟨cK _,trivial⟩ (fun h=>by cases h) ⟨rfl,rfl⟩
theorem Xx {N:Nat}{xs P S Q:List Wv}{a b:Nat}(hx:xs=P++(S++Q)) (ha:P.length=a) (hb:a+S.length=b) (hN:xs.length=N) (hl:N≤1073741823):aG false Tryz.prog 160 [⟨64,18,(xs.flatMap aQ).map .t⟩] [.one (.sl 0 0 N),.one (tv (.int .i64 ((a:Nat):Int))),.one (tv (.int .i64 ((b:Nat):Int))),.one (.t (.f 127 [] []))] (Rt [⟨64,18,((P++(dV S++Q)).flatMap aQ).map .t⟩] (.tup [])):=by
 refine nG Tryz.func160 rfl Tryz.ntmps160 rfl aB rfl fun N9 M9 w9 c0 h0=>?_
 have hxl:N=a+S.length+Q.length:=by rw[←hN,hx];simp only[cO];omega
 refine sq (rl (o1 ?_));refine o1 ?_;refine aZ 11 (a+1) ?_
 refine o1 ?_;refine nl (bl ?_)
 refine lp (γ:=Nat×List Wv) (fun s=>bS [(0,.one (.sl 0 0 (N))),(1,.one (tv (.int .i64 ((a:Nat):Int)))),(2,.one (tv (.int .i64 ((b:Nat):Int)))),(3,.one (.t (.f 127 [] []))),(8,.one (tv (.int .i64 ((a+s.1:Nat):Int))))]) (fun s=>[(⟨64,18,(s.2.flatMap aQ).map .t⟩:Ob)].map some) (fun s=>1≤s.1∧s.2=P++(dV (S.take s.1)++(S.drop s.1++Q))∧s.2.length=N) (fun s=>S.length-s.1) (1,xs) ⟨bC _,(by rw[hx];show _=P++(dV (S.take 1)++(S.drop 1++Q));rw[DN,←List.append_assoc (S.take 1),List.take_append_drop]),hN⟩ (dH h0 [0] ⟨aC rfl,rfl⟩) ?_
 rintro⟨t,D⟩ ⟨ht,hD,hDn⟩;dsimp only at ht hD hDn⊢;refine sq (sq (rl ?_));(iterate 3 refine o1 ?_);refine nl ?_;refine bL rfl (fun h1=>?_) (fun h1=>?_)
 ·refine sk (sq (bl (sq (rl (o1 ?_)))));refine o1 ?_;refine nl (bl ?_)
  have hI0:Ins P S Q D t (a+t):=by have h9:=Ins.start (by omega) hD;rwa[ha]at h9
  refine lp (γ:=Nat×List Wv) (fun s=>bS [(0,.one (.sl 0 0 (N))),(1,.one (tv (.int .i64 ((a:Nat):Int)))),(2,.one (tv (.int .i64 ((b:Nat):Int)))),(3,.one (.t (.f 127 [] []))),(8,.one (tv (.int .i64 ((a+t:Nat):Int)))),(9,.one (tv (.int .i64 ((s.1:Nat):Int))))]) (fun s=>[(⟨64,18,(s.2.flatMap aQ).map .t⟩:Ob)].map some) (fun s=>Ins P S Q s.2 t s.1∧s.2.length=N) (fun s=>s.1) (a+t,D) ⟨hI0,hDn⟩ (dH h0 [0] ⟨aC rfl,rfl⟩) ?_
  rintro⟨j,E9⟩ ⟨hI,hE9⟩;dsimp only at hI hE9⊢;have hIl:=hI.len
  refine sq (sq ?_);refine rd [0] (fun i=>[].contains i) mixed ?_
  refine dv 0 ?_;refine dv 1 ?_;refine dv 2 ?_;refine dv 3 ?_;refine WD.split (t:=21) rfl rfl (fun h2=>?_) (fun h2=>?_)
  ·refine dv 4 ?_;refine dv 5 ?_;refine dv 6 ?_;refine dv 7 ?_
   refine lH 8 (cJ (f:=aQ) (z:=18) (o:=0) (us:=aQ (aE E9 (j))) bK (cB (l:=E9) (i:=j) (by omega)) (bN rfl) rfl) ?_
   refine dv 9 ?_;refine dv 10 ?_;refine dv 11 ?_;refine oW 29 (j-1) ?_
   refine dv 12 ?_;refine lH 13 (cJ (f:=aQ) (z:=18) (o:=0) (us:=aQ (aE E9 (j-1))) bK (cB (l:=E9) (i:=j-1) (by omega)) (bN rfl) rfl) ?_
   refine xS 14 1 [.agg ((aQ (aE E9 (j))).map .t),.agg ((aQ (aE E9 (j-1))).map .t)] rfl rfl (Um (x:=(aE E9 (j))) (y:=(aE E9 (j-1)))) Jx ⟨rfl,rfl,rfl⟩ ?_;refine df 15 ?_
   refine df 16 ?_;refine aV ?_;refine bL rfl (fun h3=>?_) (fun h3=>?_)
   ·refine sk (sq (bl ?_));refine rd [] (fun i=>[17].contains i) mixed ?_
    refine dv 0 ?_;refine dv 1 ?_;refine dv 2 ?_;refine dv 3 ?_;refine dv 4 ?_;refine oW 41 (j-1) ?_
    refine dv 5 ?_;refine dv 6 ?_;refine dv 7 ?_;refine oW 44 (j-1) ?_
    refine dv 8 ?_;refine dv 10 ?_;refine dv 11 ?_;refine dv 12 ?_;refine WO.two (i:=9) (j:=13) (by kernel_rfl) ?_ ?_
    ·refine mA 9 (cJ (f:=aQ) (z:=18) (o:=0) (us:=aQ (aE E9 (j-1))) bK (cB (l:=E9) (i:=j-1) (by omega)) (bN rfl) rfl) ?_
     refine WO.one (by kernel_rfl) (mA 13 (cJ (f:=aQ) (z:=18) (o:=0) (us:=aQ (aE E9 (j))) bK (cB (l:=E9) (i:=j) (by omega)) (bN rfl) rfl) ?_)
     refine dv 14 ?_
     refine tH 15 (dN (xs:=E9) (k:=j) (x:=(aE E9 (j))) (f:=aQ) (z:=18) (o:=0) (x':=(aE E9 (j-1))) (us:=aQ (aE E9 (j-1))) bK (cB (l:=E9) (i:=j) (by omega)) (bN rfl) rfl) (eP (xs:=E9) (k:=j) (f:=aQ) (z:=18) (o:=0) (us:=aQ (aE E9 (j-1))) bK (by omega) (bN rfl)) ?_
     refine dv 16 ?_
     refine lX 17 (dN (xs:=(E9.set (j) (aE E9 (j-1)))) (k:=j-1) (x:=(aE (E9.set (j) (aE E9 (j-1))) (j-1))) (f:=aQ) (z:=18) (o:=0) (x':=(aE E9 (j))) (us:=aQ (aE E9 (j))) bK (cB (l:=(E9.set (j) (aE E9 (j-1)))) (i:=j-1) (by simp only[List.length_set];omega)) (bN rfl) rfl) (eP (xs:=(E9.set (j) (aE E9 (j-1)))) (k:=j-1) (f:=aQ) (z:=18) (o:=0) (us:=aQ (aE E9 (j))) bK (by simp only[List.length_set];omega) (bN rfl)) ?_
     refine aV ?_;refine rl (o1 ?_);refine o1 ?_;refine aZ 36 (j-1) ?_
     refine o1 ?_;refine nl ?_
     exact⟨(j-1,((E9.set (j) (aE E9 (j-1))).set (j-1) (aE E9 (j)))),by dsimp only;omega,⟨hI.step (by omega) (lS.1 h3),by simp only[List.length_set];exact hE9⟩,dH h0 [0] ⟨aC rfl,rfl⟩⟩
    refine mA 13 (cJ (f:=aQ) (z:=18) (o:=0) (us:=aQ (aE E9 (j))) bK (cB (l:=E9) (i:=j) (by omega)) (bN rfl) rfl) ?_
    refine WO.one (by kernel_rfl) (mA 9 (cJ (f:=aQ) (z:=18) (o:=0) (us:=aQ (aE E9 (j-1))) bK (cB (l:=E9) (i:=j-1) (by omega)) (bN rfl) rfl) ?_)
    refine dv 14 ?_
    refine tH 15 (dN (xs:=E9) (k:=j) (x:=(aE E9 (j))) (f:=aQ) (z:=18) (o:=0) (x':=(aE E9 (j-1))) (us:=aQ (aE E9 (j-1))) bK (cB (l:=E9) (i:=j) (by omega)) (bN rfl) rfl) (eP (xs:=E9) (k:=j) (f:=aQ) (z:=18) (o:=0) (us:=aQ (aE E9 (j-1))) bK (by omega) (bN rfl)) ?_
    refine dv 16 ?_
    refine lX 17 (dN (xs:=(E9.set (j) (aE E9 (j-1)))) (k:=j-1) (x:=(aE (E9.set (j) (aE E9 (j-1))) (j-1))) (f:=aQ) (z:=18) (o:=0) (x':=(aE E9 (j))) (us:=aQ (aE E9 (j))) bK (cB (l:=(E9.set (j) (aE E9 (j-1)))) (i:=j-1) (by simp only[List.length_set];omega)) (bN rfl) rfl) (eP (xs:=(E9.set (j) (aE E9 (j-1)))) (k:=j-1) (f:=aQ) (z:=18) (o:=0) (us:=aQ (aE E9 (j))) bK (by simp only[List.length_set];omega) (bN rfl)) ?_
    refine aV ?_;refine rl (o1 ?_);refine o1 ?_;refine aZ 36 (j-1) ?_
    refine o1 ?_;refine nl ?_
    exact⟨(j-1,((E9.set (j) (aE E9 (j-1))).set (j-1) (aE E9 (j)))),by dsimp only;omega,⟨hI.step (by omega) (lS.1 h3),by simp only[List.length_set];exact hE9⟩,dH h0 [0] ⟨aC rfl,rfl⟩⟩
   refine ex ?_;have hD2:=hI.stop (by omega) (.inr (fun h9=>h3 (lS.2 h9)))
   refine rl (o1 ?_);refine o1 ?_;refine aZ 16 (a+t+1) ?_
   refine o1 ?_;refine nl ?_;exact⟨(t+1,E9),by dsimp only;omega,⟨by omega,hD2,hE9⟩,dH h0 [0] ⟨aC rfl,rfl⟩⟩
  refine cN 4 ?_;refine cN 5 ?_;refine cN 6 ?_;refine cN 7 ?_;refine cN 8 ?_;refine cN 9 ?_;refine cN 10 ?_;refine cN 11 ?_;refine cN 12 ?_;refine cN 13 ?_;refine cN 14 ?_
  refine cN 15 ?_;refine dv 16 ?_;refine aV ?_;refine gD rfl (ex ?_);have hD2:=hI.stop (by omega) (.inl (by omega))
  refine rl (o1 ?_);refine o1 ?_;refine aZ 16 (a+t+1) ?_
  refine o1 ?_;refine nl ?_;exact⟨(t+1,E9),by dsimp only;omega,⟨by omega,hD2,hE9⟩,dH h0 [0] ⟨aC rfl,rfl⟩⟩
 refine ex ?_;have hfin:D=P++(dV S++Q):=by rw[hD,fF (by omega),List.drop_of_length_le (by omega),List.nil_append]
 exact hJ (lent':=[⟨64,18,((P++(dV S++Q)).flatMap aQ).map .t⟩]) (.inr rfl) rfl qT (by decide) (fun _ h=>by cases h) ⟨⟨rfl,rfl⟩,trivial⟩ ⟨congrArg (fun l:List Wv=>some (⟨64,18,(l.flatMap aQ).map .t⟩:Ob)) hfin,trivial⟩ ⟨cK _,trivial⟩ (fun h=>by cases h) ⟨rfl,rfl⟩
theorem Up {a b:Nat}:Int.fdiv (((a+b:Nat):Int)) (2^(min (Int.toNat 1) 64))=(((a+b)/2:Nat):Int):=by
 show Int.fdiv _ 2=_
 rw[Int.fdiv_eq_ediv_of_nonneg _ (by omega)]
 omega
set_option maxHeartbeats 4000000 in
theorem HS (n:Nat):∀{N:Nat}{xs P X Y Q:List Wv}{a m b:Nat}(hx:xs=P++(X++(Y++Q))) (ha:P.length=a) (hm:a+X.length=m) (hb:m+Y.length=b) (hX0:0<X.length) (hY0:0<Y.length) (hX:Srd Wv.y X) (hY:Srd Wv.y Y) (hn:X.length+Y.length≤n) (hN:xs.length=N) (hl:N≤1073741823),aG false Tryz.prog 161 [⟨64,18,(xs.flatMap aQ).map .t⟩] [.one (.sl 0 0 N),.one (tv (.int .i64 ((a:Nat):Int))),.one (tv (.int .i64 ((m:Nat):Int))),.one (tv (.int .i64 ((b:Nat):Int))),.one (.t (.f 127 [] []))] (Rt [⟨64,18,((P++(dV (X++Y)++Q)).flatMap aQ).map .t⟩] (.tup [])):=by
 induction n with
 | zero=>intros;omega
 | succ n ih=>
  intro N xs P X Y Q a m b hx ha hm hb hX0 hY0 hX hY hn hN hl
  refine nG Tryz.func161 rfl Tryz.ntmps161 rfl aB rfl fun N9 M9 w9 c0 h0=>?_
  have hxl:N=a+X.length+Y.length+Q.length:=by rw[←hN,hx];simp only[cO];omega
  refine sq (sq (rl ?_));(iterate 3 refine o1 ?_);refine aZ 27 (m-a) ?_
  refine o1 ?_;refine nl ?_;refine bL rfl (fun h1=>?_) (fun h1=>?_)
  ·refine sq ?_;obtain⟨x,rfl⟩:=List.length_eq_one_iff.1 (show X.length=1 by omega)
   have hm1:m=a+1:=by have h9:([x]:List Wv).length=1:=rfl;omega
   have hmo:∀c d,m≤c→c≤d→d<b→(aE xs d).y<(aE xs a).y→(aE xs c).y<(aE xs a).y:=fun c d h1 h2 h3 h4=>Int.lt_of_le_of_lt (XG hx hY ha hm hb c d h1 h2 h3) h4
   refine rl (o1 ?_);refine o1 ?_;refine nl (sq (rl (o1 ?_)));refine o1 ?_;refine nl (sq (bl ?_))
   refine lp (γ:=Nat×Nat) (fun s=>bS [(0,.one (.sl 0 0 (N))),(1,.one (tv (.int .i64 ((a:Nat):Int)))),(2,.one (tv (.int .i64 ((m:Nat):Int)))),(3,.one (tv (.int .i64 ((b:Nat):Int)))),(4,.one (.t (.f 127 [] []))),(10,.one (tv (.int .i64 ((s.1:Nat):Int)))),(11,.one (tv (.int .i64 ((s.2:Nat):Int))))]) (fun s=>[(⟨64,18,(xs.flatMap aQ).map .t⟩:Ob)].map some) (fun s=>Bis (fun c=>(aE xs c).y<(aE xs a).y) m b s.1 s.2) (fun s=>s.2-s.1) (m,b) (Bis.start (by omega)) (dH h0 [0] ⟨aC rfl,rfl⟩) ?_
   rintro⟨i,j⟩ hB;dsimp only at hB⊢;have hBb:=hB.b
   refine sq (sq (rl ?_));(iterate 3 refine o1 ?_);refine nl ?_;refine bL rfl (fun h2=>?_) (fun h2=>?_)
   ·refine sk (bl (sq (rl ?_)));(iterate 3 refine o1 ?_);refine aZ 36 (i+j) ?_
    refine o1 ?_;refine WL.cast (t:=37) (u':=.int .u64 ((i+j:Nat):Int)) rfl (dZ (by omega)) ?_
    refine o1 ?_;refine WL.cast (t:=38) (u':=.int .u64 (((i+j)/2:Nat):Int)) rfl (congrArg (Value.int .u64) Up) ?_;refine o1 ?_
    refine aZ 39 ((i+j)/2) ?_
    refine o1 ?_;refine nl (sq ?_);refine rd [0] (fun i=>[].contains i) mixed ?_
    refine dv 0 ?_;refine dv 1 ?_;refine dv 2 ?_;refine dv 3 ?_
    refine lH 4 (cJ (f:=aQ) (z:=18) (o:=0) (us:=aQ (aE xs ((i+j)/2))) bK (cB (l:=xs) (i:=(i+j)/2) (by omega)) (bN rfl) rfl) ?_
    refine dv 5 ?_;refine dv 6 ?_;refine dv 7 ?_
    refine lH 8 (cJ (f:=aQ) (z:=18) (o:=0) (us:=aQ (aE xs (a))) bK (cB (l:=xs) (i:=a) (by omega)) (bN rfl) rfl) ?_
    refine xS 9 1 [.agg ((aQ (aE xs ((i+j)/2))).map .t),.agg ((aQ (aE xs (a))).map .t)] rfl rfl (Um (x:=(aE xs ((i+j)/2))) (y:=(aE xs (a)))) Jx ⟨rfl,rfl,rfl⟩ ?_
    refine df 10 ?_;refine aV ?_;refine bL rfl (fun h3=>?_) (fun h3=>?_)
    ·refine rl (o1 ?_);refine o1 ?_;refine aZ 52 ((i+j)/2+1) ?_
     refine o1 ?_;refine nl ?_
     exact⟨((i+j)/2+1,j),by dsimp only;omega,hB.up hmo (by omega) (by omega) (lS.1 h3),dH h0 [0] ⟨aC rfl,rfl⟩⟩
    refine rl (o1 ?_);refine o1 ?_;refine nl ?_
    exact⟨(i,(i+j)/2),by dsimp only;omega,hB.dn hmo (by omega) (by omega) (fun h9=>h3 (lS.2 h9)),dH h0 [0] ⟨aC rfl,rfl⟩⟩
   refine ex (sq (sq (rl (o1 ?_))));refine o1 ?_;refine nl (bl ?_)
   refine lp (γ:=Nat×List Wv) (fun s=>bS [(0,.one (.sl 0 0 (N))),(10,.one (tv (.int .i64 ((i:Nat):Int)))),(13,.one (tv (.int .i64 ((s.1:Nat):Int))))]) (fun s=>[(⟨64,18,(s.2.flatMap aQ).map .t⟩:Ob)].map some) (fun s=>(a≤s.1∧s.1+1≤i)∧B1 P x Y Q s.1 s.2∧s.2.length=N) (fun s=>i-s.1) (a,xs) ⟨by dsimp only;omega,(by rw[hx,←ha];exact B1.zero),hN⟩ (dH h0 [0] ⟨aC rfl,rfl⟩) ?_
   rintro⟨k,D⟩ ⟨hk,hK,hDn⟩;dsimp only at hk hK hDn⊢;have hKl:=hK.len
   refine sq (sq (rl ?_));(iterate 3 refine o1 ?_);refine aZ 57 (i-1) ?_
   refine o1 ?_;refine nl ?_;refine bL rfl (fun h4=>?_) (fun h4=>?_)
   ·refine sk (sq (bl ?_));refine rd [] (fun i=>[17].contains i) mixed ?_
    refine dv 0 ?_;refine dv 1 ?_;refine dv 2 ?_;refine dv 3 ?_;refine dv 4 ?_;refine oW 65 (k+1) ?_
    refine dv 5 ?_;refine dv 6 ?_;refine dv 7 ?_;refine oW 68 (k+1) ?_
    refine dv 8 ?_;refine dv 10 ?_;refine dv 11 ?_;refine dv 12 ?_;refine WO.two (i:=9) (j:=13) (by kernel_rfl) ?_ ?_
    ·refine mA 9 (cJ (f:=aQ) (z:=18) (o:=0) (us:=aQ (aE D (k+1))) bK (cB (l:=D) (i:=k+1) (by omega)) (bN rfl) rfl) ?_
     refine WO.one (by kernel_rfl) (mA 13 (cJ (f:=aQ) (z:=18) (o:=0) (us:=aQ (aE D (k))) bK (cB (l:=D) (i:=k) (by omega)) (bN rfl) rfl) ?_)
     refine dv 14 ?_
     refine tH 15 (dN (xs:=D) (k:=k) (x:=(aE D (k))) (f:=aQ) (z:=18) (o:=0) (x':=(aE D (k+1))) (us:=aQ (aE D (k+1))) bK (cB (l:=D) (i:=k) (by omega)) (bN rfl) rfl) (eP (xs:=D) (k:=k) (f:=aQ) (z:=18) (o:=0) (us:=aQ (aE D (k+1))) bK (by omega) (bN rfl)) ?_
     refine dv 16 ?_
     refine lX 17 (dN (xs:=(D.set (k) (aE D (k+1)))) (k:=k+1) (x:=(aE (D.set (k) (aE D (k+1))) (k+1))) (f:=aQ) (z:=18) (o:=0) (x':=(aE D (k))) (us:=aQ (aE D (k))) bK (cB (l:=(D.set (k) (aE D (k+1)))) (i:=k+1) (by simp only[List.length_set];omega)) (bN rfl) rfl) (eP (xs:=(D.set (k) (aE D (k+1)))) (k:=k+1) (f:=aQ) (z:=18) (o:=0) (us:=aQ (aE D (k))) bK (by simp only[List.length_set];omega) (bN rfl)) ?_
     refine aV ?_;refine rl (o1 ?_);refine o1 ?_;refine aZ 60 (k+1) ?_
     refine o1 ?_;refine nl ?_
     exact⟨(k+1,((D.set (k) (aE D (k+1))).set (k+1) (aE D (k)))),by dsimp only;omega,⟨by dsimp only;omega,hK.step (by omega),by simp only[List.length_set];exact hDn⟩,dH h0 [0] ⟨aC rfl,rfl⟩⟩
    refine mA 13 (cJ (f:=aQ) (z:=18) (o:=0) (us:=aQ (aE D (k))) bK (cB (l:=D) (i:=k) (by omega)) (bN rfl) rfl) ?_
    refine WO.one (by kernel_rfl) (mA 9 (cJ (f:=aQ) (z:=18) (o:=0) (us:=aQ (aE D (k+1))) bK (cB (l:=D) (i:=k+1) (by omega)) (bN rfl) rfl) ?_)
    refine dv 14 ?_
    refine tH 15 (dN (xs:=D) (k:=k) (x:=(aE D (k))) (f:=aQ) (z:=18) (o:=0) (x':=(aE D (k+1))) (us:=aQ (aE D (k+1))) bK (cB (l:=D) (i:=k) (by omega)) (bN rfl) rfl) (eP (xs:=D) (k:=k) (f:=aQ) (z:=18) (o:=0) (us:=aQ (aE D (k+1))) bK (by omega) (bN rfl)) ?_
    refine dv 16 ?_
    refine lX 17 (dN (xs:=(D.set (k) (aE D (k+1)))) (k:=k+1) (x:=(aE (D.set (k) (aE D (k+1))) (k+1))) (f:=aQ) (z:=18) (o:=0) (x':=(aE D (k))) (us:=aQ (aE D (k))) bK (cB (l:=(D.set (k) (aE D (k+1)))) (i:=k+1) (by simp only[List.length_set];omega)) (bN rfl) rfl) (eP (xs:=(D.set (k) (aE D (k+1)))) (k:=k+1) (f:=aQ) (z:=18) (o:=0) (us:=aQ (aE D (k))) bK (by simp only[List.length_set];omega) (bN rfl)) ?_
    refine aV ?_;refine rl (o1 ?_);refine o1 ?_;refine aZ 60 (k+1) ?_
    refine o1 ?_;refine nl ?_
    exact⟨(k+1,((D.set (k) (aE D (k+1))).set (k+1) (aE D (k)))),by dsimp only;omega,⟨by dsimp only;omega,hK.step (by omega),by simp only[List.length_set];exact hDn⟩,dH h0 [0] ⟨aC rfl,rfl⟩⟩
   refine ex (rt ?_);have hki:k=i-1:=by omega
   subst hki
   exact hJ (lent':=[⟨64,18,((P++(dV ([x]++Y)++Q)).flatMap aQ).map .t⟩]) (.inl rfl) rfl qT (by decide) (fun _ h=>by cases h) ⟨⟨rfl,rfl⟩,trivial⟩ ⟨congrArg (fun l:List Wv=>some (⟨64,18,(l.flatMap aQ).map .t⟩:Ob)) (XH hx ha hm1 hb hY hB (by omega) hK),trivial⟩ ⟨cK _,trivial⟩ (fun h=>by cases h) ⟨rfl,rfl⟩
  refine sk (sq (sq (rl ?_)));(iterate 3 refine o1 ?_);refine aZ 79 (b-m) ?_
  refine o1 ?_;refine nl ?_;refine bL rfl (fun h5=>?_) (fun h5=>?_)
  ·refine sq ?_;obtain⟨x,rfl⟩:=List.length_eq_one_iff.1 (show Y.length=1 by omega)
   have hb1:b=m+1:=by have h9:([x]:List Wv).length=1:=rfl;omega
   have hmo:∀c d,a≤c→c≤d→d<m→¬(aE xs m).y<(aE xs d).y→¬(aE xs m).y<(aE xs c).y:=fun c d h1 h2 h3 h4 h5=>h4 (Int.lt_of_lt_of_le h5 (XI hx hX ha hm c d h1 h2 h3))
   refine rl (o1 ?_);refine o1 ?_;refine nl (sq (rl (o1 ?_)));refine o1 ?_;refine nl (sq (bl ?_))
   refine lp (γ:=Nat×Nat) (fun s=>bS [(0,.one (.sl 0 0 (N))),(1,.one (tv (.int .i64 ((a:Nat):Int)))),(2,.one (tv (.int .i64 ((m:Nat):Int)))),(3,.one (tv (.int .i64 ((b:Nat):Int)))),(4,.one (.t (.f 127 [] []))),(14,.one (tv (.int .i64 ((s.1:Nat):Int)))),(15,.one (tv (.int .i64 ((s.2:Nat):Int))))]) (fun s=>[(⟨64,18,(xs.flatMap aQ).map .t⟩:Ob)].map some) (fun s=>Bis (fun c=>¬(aE xs m).y<(aE xs c).y) a m s.1 s.2) (fun s=>s.2-s.1) (a,m) (Bis.start (by omega)) (dH h0 [0] ⟨aC rfl,rfl⟩) ?_
   rintro⟨i,j⟩ hB;dsimp only at hB⊢;have hBb:=hB.b
   refine sq (sq (rl ?_));(iterate 3 refine o1 ?_);refine nl ?_;refine bL rfl (fun h6=>?_) (fun h6=>?_)
   ·refine sk (bl (sq (rl ?_)));(iterate 3 refine o1 ?_);refine aZ 88 (i+j) ?_
    refine o1 ?_;refine WL.cast (t:=89) (u':=.int .u64 ((i+j:Nat):Int)) rfl (dZ (by omega)) ?_
    refine o1 ?_;refine WL.cast (t:=90) (u':=.int .u64 (((i+j)/2:Nat):Int)) rfl (congrArg (Value.int .u64) Up) ?_;refine o1 ?_
    refine aZ 91 ((i+j)/2) ?_
    refine o1 ?_;refine nl (sq ?_);refine rd [0] (fun i=>[].contains i) mixed ?_
    refine dv 0 ?_;refine dv 1 ?_;refine dv 2 ?_;refine dv 3 ?_
    refine lH 4 (cJ (f:=aQ) (z:=18) (o:=0) (us:=aQ (aE xs (m))) bK (cB (l:=xs) (i:=m) (by omega)) (bN rfl) rfl) ?_
    refine dv 5 ?_;refine dv 6 ?_;refine dv 7 ?_
    refine lH 8 (cJ (f:=aQ) (z:=18) (o:=0) (us:=aQ (aE xs ((i+j)/2))) bK (cB (l:=xs) (i:=(i+j)/2) (by omega)) (bN rfl) rfl) ?_
    refine xS 9 1 [.agg ((aQ (aE xs (m))).map .t),.agg ((aQ (aE xs ((i+j)/2))).map .t)] rfl rfl (Um (x:=(aE xs (m))) (y:=(aE xs ((i+j)/2)))) Jx ⟨rfl,rfl,rfl⟩ ?_
    refine df 10 ?_;refine WD.split (t:=102) rfl rfl (fun h7=>?_) (fun h7=>?_)
    ·refine df 11 ?_;refine aV ?_;refine gD rfl (rl (o1 ?_));refine o1 ?_;refine nl ?_
     exact⟨(i,(i+j)/2),by dsimp only;omega,hB.dn hmo (by omega) (by omega) (fun h9=>h9 (lS.1 h7)),dH h0 [0] ⟨aC rfl,rfl⟩⟩
    refine df 11 ?_;refine aV ?_;refine jM rfl (rl (o1 ?_));refine o1 ?_
    refine aZ 105 ((i+j)/2+1) ?_
    refine o1 ?_;refine nl ?_
    exact⟨((i+j)/2+1,j),by dsimp only;omega,hB.up hmo (by omega) (by omega) (fun h9=>h7 (lS.2 h9)),dH h0 [0] ⟨aC rfl,rfl⟩⟩
   refine ex (sq (sq (rl (o1 ?_))));refine o1 ?_;refine nl (bl ?_)
   refine lp (γ:=Nat×List Wv) (fun s=>bS [(0,.one (.sl 0 0 (N))),(14,.one (tv (.int .i64 ((i:Nat):Int)))),(17,.one (tv (.int .i64 ((s.1:Nat):Int))))]) (fun s=>[(⟨64,18,(s.2.flatMap aQ).map .t⟩:Ob)].map some) (fun s=>i≤s.1∧B2 P X x Q s.1 s.2∧s.2.length=N) (fun s=>s.1) (m,xs) ⟨by dsimp only;omega,(by rw[hx,←hm,←ha];exact B2.zero),hN⟩ (dH h0 [0] ⟨aC rfl,rfl⟩) ?_
   rintro⟨k,D⟩ ⟨hk,hK,hDn⟩;dsimp only at hk hK hDn⊢;have hKl:=hK.len
   refine sq (sq (rl ?_));(iterate 3 refine o1 ?_);refine nl ?_;refine bL rfl (fun h8=>?_) (fun h8=>?_)
   ·refine sk (sq (bl ?_));refine rd [] (fun i=>[17].contains i) mixed ?_
    refine dv 0 ?_;refine dv 1 ?_;refine dv 2 ?_;refine dv 3 ?_;refine dv 4 ?_;refine oW 117 (k-1) ?_
    refine dv 5 ?_;refine dv 6 ?_;refine dv 7 ?_;refine oW 120 (k-1) ?_
    refine dv 8 ?_;refine dv 10 ?_;refine dv 11 ?_;refine dv 12 ?_;refine WO.two (i:=9) (j:=13) (by kernel_rfl) ?_ ?_
    ·refine mA 9 (cJ (f:=aQ) (z:=18) (o:=0) (us:=aQ (aE D (k-1))) bK (cB (l:=D) (i:=k-1) (by omega)) (bN rfl) rfl) ?_
     refine WO.one (by kernel_rfl) (mA 13 (cJ (f:=aQ) (z:=18) (o:=0) (us:=aQ (aE D (k))) bK (cB (l:=D) (i:=k) (by omega)) (bN rfl) rfl) ?_)
     refine dv 14 ?_
     refine tH 15 (dN (xs:=D) (k:=k) (x:=(aE D (k))) (f:=aQ) (z:=18) (o:=0) (x':=(aE D (k-1))) (us:=aQ (aE D (k-1))) bK (cB (l:=D) (i:=k) (by omega)) (bN rfl) rfl) (eP (xs:=D) (k:=k) (f:=aQ) (z:=18) (o:=0) (us:=aQ (aE D (k-1))) bK (by omega) (bN rfl)) ?_
     refine dv 16 ?_
     refine lX 17 (dN (xs:=(D.set (k) (aE D (k-1)))) (k:=k-1) (x:=(aE (D.set (k) (aE D (k-1))) (k-1))) (f:=aQ) (z:=18) (o:=0) (x':=(aE D (k))) (us:=aQ (aE D (k))) bK (cB (l:=(D.set (k) (aE D (k-1)))) (i:=k-1) (by simp only[List.length_set];omega)) (bN rfl) rfl) (eP (xs:=(D.set (k) (aE D (k-1)))) (k:=k-1) (f:=aQ) (z:=18) (o:=0) (us:=aQ (aE D (k))) bK (by simp only[List.length_set];omega) (bN rfl)) ?_
     refine aV ?_;refine rl (o1 ?_);refine o1 ?_;refine aZ 112 (k-1) ?_
     refine o1 ?_;refine nl ?_
     exact⟨(k-1,((D.set (k) (aE D (k-1))).set (k-1) (aE D (k)))),by dsimp only;omega,⟨by dsimp only;omega,hK.step (by omega),by simp only[List.length_set];exact hDn⟩,dH h0 [0] ⟨aC rfl,rfl⟩⟩
    refine mA 13 (cJ (f:=aQ) (z:=18) (o:=0) (us:=aQ (aE D (k))) bK (cB (l:=D) (i:=k) (by omega)) (bN rfl) rfl) ?_
    refine WO.one (by kernel_rfl) (mA 9 (cJ (f:=aQ) (z:=18) (o:=0) (us:=aQ (aE D (k-1))) bK (cB (l:=D) (i:=k-1) (by omega)) (bN rfl) rfl) ?_)
    refine dv 14 ?_
    refine tH 15 (dN (xs:=D) (k:=k) (x:=(aE D (k))) (f:=aQ) (z:=18) (o:=0) (x':=(aE D (k-1))) (us:=aQ (aE D (k-1))) bK (cB (l:=D) (i:=k) (by omega)) (bN rfl) rfl) (eP (xs:=D) (k:=k) (f:=aQ) (z:=18) (o:=0) (us:=aQ (aE D (k-1))) bK (by omega) (bN rfl)) ?_
    refine dv 16 ?_
    refine lX 17 (dN (xs:=(D.set (k) (aE D (k-1)))) (k:=k-1) (x:=(aE (D.set (k) (aE D (k-1))) (k-1))) (f:=aQ) (z:=18) (o:=0) (x':=(aE D (k))) (us:=aQ (aE D (k))) bK (cB (l:=(D.set (k) (aE D (k-1)))) (i:=k-1) (by simp only[List.length_set];omega)) (bN rfl) rfl) (eP (xs:=(D.set (k) (aE D (k-1)))) (k:=k-1) (f:=aQ) (z:=18) (o:=0) (us:=aQ (aE D (k))) bK (by simp only[List.length_set];omega) (bN rfl)) ?_
    refine aV ?_;refine rl (o1 ?_);refine o1 ?_;refine aZ 112 (k-1) ?_
    refine o1 ?_;refine nl ?_
    exact⟨(k-1,((D.set (k) (aE D (k-1))).set (k-1) (aE D (k)))),by dsimp only;omega,⟨by dsimp only;omega,hK.step (by omega),by simp only[List.length_set];exact hDn⟩,dH h0 [0] ⟨aC rfl,rfl⟩⟩
   refine ex (rt ?_);have hki:k=i:=by omega
   subst hki
   exact hJ (lent':=[⟨64,18,((P++(dV (X++[x])++Q)).flatMap aQ).map .t⟩]) (.inl rfl) rfl qT (by decide) (fun _ h=>by cases h) ⟨⟨rfl,rfl⟩,trivial⟩ ⟨congrArg (fun l:List Wv=>some (⟨64,18,(l.flatMap aQ).map .t⟩:Ob)) (XJ hx ha hm hX hB (by omega) hK),trivial⟩ ⟨cK _,trivial⟩ (fun h=>by cases h) ⟨rfl,rfl⟩
  refine sk (sq (rl ?_));(iterate 3 refine o1 ?_);refine aZ 131 (a+b) ?_
  refine o1 ?_;refine WL.cast (t:=132) (u':=.int .u64 ((a+b:Nat):Int)) rfl (dZ (by omega)) ?_
  refine o1 ?_;refine WL.cast (t:=133) (u':=.int .u64 (((a+b)/2:Nat):Int)) rfl (congrArg (Value.int .u64) Up) ?_;refine o1 ?_
  refine aZ 134 ((a+b)/2) ?_
  refine o1 ?_;refine nl (sq (rl ?_));(iterate 3 refine o1 ?_);refine aZ 137 ((a+b)/2+m) ?_
  refine o1 ?_;refine nl (sq (rl (o1 ?_)));refine o1 ?_;refine nl ?_
  refine md (γ:=Unit) (fun _=>bS [(0,.one (.sl 0 0 (N))),(1,.one (tv (.int .i64 ((a:Nat):Int)))),(2,.one (tv (.int .i64 ((m:Nat):Int)))),(3,.one (tv (.int .i64 ((b:Nat):Int)))),(4,.one (.t (.f 127 [] []))),(18,.one (tv (.int .i64 (((a+b)/2:Nat):Int)))),(19,.one (tv (.int .i64 (((a+b)/2+m:Nat):Int)))),(20,.one (tv (.int .i64 (((if(a+b)/2<m then(a+b)/2+m-b else a):Nat):Int)))),(21,.one (tv (.int .i64 (((if(a+b)/2<m then(a+b)/2 else m):Nat):Int))))]) (fun _=>([⟨64,18,(xs.flatMap aQ).map .t⟩]:List Ob).map some) (fun _=>True) ?_ fun _ _=>?_
  ·refine sq (rl ?_);(iterate 3 refine o1 ?_);refine nl ?_;refine bL rfl (fun h9=>?_) (fun h9=>?_)
   ·refine sq (rl ?_);(iterate 3 refine o1 ?_);refine aZ 143 ((a+b)/2+m-b) ?_
    refine o1 ?_;refine nl (rl (o1 ?_));refine o1 ?_;refine nl ?_
    exact⟨(),trivial,mJ h0 [0] _ _ (by decide) rfl ⟨rfl,rfl,rfl,rfl,rfl,rfl,rfl,qU (by rw[if_pos (by omega)]),qU (by rw[if_pos (by omega)]),trivial⟩ ⟨aC rfl,rfl⟩⟩
   refine sq (rl (o1 ?_));refine o1 ?_;refine nl (rl (o1 ?_));refine o1 ?_;refine nl ?_
   exact⟨(),trivial,mJ h0 [0] _ _ (by decide) rfl ⟨rfl,rfl,rfl,rfl,rfl,rfl,rfl,qU (by rw[if_neg (by omega)]),qU (by rw[if_neg (by omega)]),trivial⟩ ⟨aC rfl,rfl⟩⟩
  refine sq ?_
  have hlohi:∃lo hi:Nat,lo=(if(a+b)/2<m then(a+b)/2+m-b else a)∧hi=(if(a+b)/2<m then(a+b)/2 else m)∧a≤lo∧lo≤hi∧hi≤m∧(∀c,lo≤c→c<hi→m≤(a+b)/2+m-1-c∧(a+b)/2+m-1-c<b∧c≤(a+b)/2+m-1)∧(lo=a∨(a+b)/2+m-lo=b)∧(hi=m∨(a+b)/2+m-hi=m)∧(∀s,lo≤s→s≤hi→m≤(a+b)/2+m-s∧(a+b)/2+m-s≤b∧s≤(a+b)/2+m):=by
   by_cases h9:(a+b)/2<m
   ·rw[if_pos h9,if_pos h9]
    exact⟨_,_,rfl,rfl,by omega,by omega,by omega,fun c h1 h2=>by omega,.inr (by omega),.inr (by omega),fun s h1 h2=>by omega⟩
   rw[if_neg h9,if_neg h9]
   exact⟨_,_,rfl,rfl,by omega,by omega,by omega,fun c h1 h2=>by omega,.inl rfl,.inl rfl,fun s h1 h2=>by omega⟩
  obtain⟨lo,hi,hlo,hhi,hl1,hl2,hl3,hp1,hl4,hl5,hs1⟩:=hlohi
  rw[←hlo,←hhi];clear hlo hhi;refine rl (o1 ?_);refine o1 ?_;refine aZ 148 ((a+b)/2+m-1) ?_
  refine o1 ?_;refine nl (sq (bl ?_))
  refine lp (γ:=Nat×Nat) (fun s=>bS [(0,.one (.sl 0 0 (N))),(1,.one (tv (.int .i64 ((a:Nat):Int)))),(2,.one (tv (.int .i64 ((m:Nat):Int)))),(3,.one (tv (.int .i64 ((b:Nat):Int)))),(4,.one (.t (.f 127 [] []))),(18,.one (tv (.int .i64 (((a+b)/2:Nat):Int)))),(19,.one (tv (.int .i64 (((a+b)/2+m:Nat):Int)))),(20,.one (tv (.int .i64 ((s.1:Nat):Int)))),(21,.one (tv (.int .i64 ((s.2:Nat):Int)))),(22,.one (tv (.int .i64 ((((a+b)/2+m-1):Nat):Int))))]) (fun s=>[(⟨64,18,(xs.flatMap aQ).map .t⟩:Ob)].map some) (fun s=>Cut xs ((a+b)/2+m-1) lo hi s.1 s.2) (fun s=>s.2-s.1) (lo,hi) (Cut.start hl2) (dH h0 [0] ⟨aC rfl,rfl⟩) ?_
  rintro⟨s,r⟩ hC;dsimp only at hC⊢;have hCb:=hC.b
  have hp9:=hp1 ((s+r)/2)
  refine sq (sq (rl ?_));(iterate 3 refine o1 ?_);refine nl ?_;refine bL rfl (fun h10=>?_) (fun h10=>?_)
  ·refine sk (bl (sq (rl ?_)));(iterate 3 refine o1 ?_);refine aZ 154 (s+r) ?_
   refine o1 ?_;refine WL.cast (t:=155) (u':=.int .u64 ((s+r:Nat):Int)) rfl (dZ (by omega)) ?_
   refine o1 ?_;refine WL.cast (t:=156) (u':=.int .u64 (((s+r)/2:Nat):Int)) rfl (congrArg (Value.int .u64) Up) ?_;refine o1 ?_
   refine aZ 157 ((s+r)/2) ?_
   refine o1 ?_;refine nl (sq ?_);refine rd [0] (fun i=>[].contains i) mixed ?_
   refine dv 0 ?_;refine dv 1 ?_;refine dv 2 ?_;refine dv 3 ?_;refine dv 4 ?_
   refine oW 162 (((a+b)/2+m-1)-((s+r)/2)) ?_
   refine dv 5 ?_
   refine lH 6 (cJ (f:=aQ) (z:=18) (o:=0) (us:=aQ (aE xs (((a+b)/2+m-1)-((s+r)/2)))) bK (cB (l:=xs) (i:=((a+b)/2+m-1)-((s+r)/2)) (by omega)) (bN rfl) rfl) ?_
   refine dv 7 ?_;refine dv 8 ?_;refine dv 9 ?_
   refine lH 10 (cJ (f:=aQ) (z:=18) (o:=0) (us:=aQ (aE xs ((s+r)/2))) bK (cB (l:=xs) (i:=(s+r)/2) (by omega)) (bN rfl) rfl) ?_
   refine xS 11 1 [.agg ((aQ (aE xs (((a+b)/2+m-1)-((s+r)/2)))).map .t),.agg ((aQ (aE xs ((s+r)/2))).map .t)] rfl rfl (Um (x:=(aE xs (((a+b)/2+m-1)-((s+r)/2)))) (y:=(aE xs ((s+r)/2)))) Jx ⟨rfl,rfl,rfl⟩ ?_
   refine df 12 ?_;refine WD.split (t:=170) rfl rfl (fun h11=>?_) (fun h11=>?_)
   ·refine df 13 ?_;refine aV ?_;refine gD rfl (rl (o1 ?_));refine o1 ?_;refine nl ?_
    exact⟨(s,(s+r)/2),by dsimp only;omega,hC.dn hx hX hY (by omega) (by omega) (by rw[ha,hm,hb];exact hp1) (by omega) (by omega) (lS.1 h11),dH h0 [0] ⟨aC rfl,rfl⟩⟩
   refine df 13 ?_;refine aV ?_;refine jM rfl (rl (o1 ?_));refine o1 ?_
   refine aZ 173 ((s+r)/2+1) ?_
   refine o1 ?_;refine nl ?_
   exact⟨((s+r)/2+1,r),by dsimp only;omega,hC.up hx hX hY (by omega) (by omega) (by rw[ha,hm,hb];exact hp1) (by omega) (by omega) (fun h9=>h11 (lS.2 h9)),dH h0 [0] ⟨aC rfl,rfl⟩⟩
  refine ex (sq ?_);have hs9:=hs1 s (by omega) (by omega)
  obtain⟨A,B,C,E,hXA,hYC,hA,hCl,hfin⟩:=hC.fin hx hX hY (by omega) (by omega) (by rw[ha,hm,hb];exact hp1) (by omega) (by omega) (by omega) (by omega)
  have hXl:X.length=A.length+B.length:=by rw[hXA,cO]
  have hYl:Y.length=C.length+E.length:=by rw[hYC,cO]
  rw[hXA,hYC]at hx;have hX9:=hX;have hY9:=hY
  rw[hXA]at hX9;rw[hYC]at hY9;clear hl4 hl5 hp9 hp1 hs1 hC;refine rl ?_;(iterate 3 refine o1 ?_)
  refine aZ 177 ((a+b)/2+m-s) ?_
  refine o1 ?_;refine nl ?_
  refine md (γ:=Unit) (fun _=>bS [(0,.one (.sl 0 0 (N))),(1,.one (tv (.int .i64 ((a:Nat):Int)))),(3,.one (tv (.int .i64 ((b:Nat):Int)))),(4,.one (.t (.f 127 [] []))),(18,.one (tv (.int .i64 (((a+b)/2:Nat):Int)))),(20,.one (tv (.int .i64 ((s:Nat):Int)))),(24,.one (tv (.int .i64 (((a+b)/2+m-s:Nat):Int))))]) (fun _=>([⟨64,18,((P++(A++(C++(B++(E++Q))))).flatMap aQ).map .t⟩]:List Ob).map some) (fun _=>True) ?_ fun _ _=>?_
  ·refine md (γ:=Unit) (fun _=>bS [(0,.one (.sl 0 0 (N))),(1,.one (tv (.int .i64 ((a:Nat):Int)))),(2,.one (tv (.int .i64 ((m:Nat):Int)))),(3,.one (tv (.int .i64 ((b:Nat):Int)))),(4,.one (.t (.f 127 [] []))),(18,.one (tv (.int .i64 (((a+b)/2:Nat):Int)))),(20,.one (tv (.int .i64 ((s:Nat):Int)))),(24,.one (tv (.int .i64 (((a+b)/2+m-s:Nat):Int)))),(185,.one (tv (.bool (decide (((s:Nat):Int)<((m:Nat):Int))&&decide (((m:Nat):Int)<((((a+b)/2+m-s):Nat):Int))))))]) (fun _=>([⟨64,18,(xs.flatMap aQ).map .t⟩]:List Ob).map some) (fun _=>True) ?_ fun _ _=>?_
   ·refine rl ?_;(iterate 4 refine o1 ?_);refine WL.split (t:=181) rfl (fun h12=>?_) (fun h12=>?_)
    ·(iterate 4 refine o1 ?_);refine nl ?_
     exact⟨(),trivial,mJ h0 [0] _ _ (by decide) rfl ⟨rfl,rfl,rfl,rfl,rfl,rfl,rfl,rfl,nH (by simp only[decide_eq_false h10,decide_eq_true h12] <;> first | rfl | simp),trivial⟩ ⟨aC rfl,rfl⟩⟩
    (iterate 3 refine dL ?_);refine o1 ?_;refine nl ?_
    exact⟨(),trivial,mJ h0 [0] _ _ (by decide) rfl ⟨rfl,rfl,rfl,rfl,rfl,rfl,rfl,rfl,nH (by simp only[decide_eq_false h10,decide_eq_false h12] <;> first | rfl | simp),trivial⟩ ⟨aC rfl,rfl⟩⟩
   refine nC rfl (fun h13=>?_) (fun h13=>?_)
   ·refine rl ?_;(iterate 5 refine o1 ?_);rw[Bool.and_eq_true,decide_eq_true_eq,decide_eq_true_eq]at h13
    refine cl 1 [0] (US (a:=s) (m:=m) (b:=((a+b)/2+m-s)) (PF (n:=((a+b)/2+m-s)) hx (by omega) (by omega) (by omega)) (by omega) (by omega) hN hl) UT ⟨aC rfl,rfl⟩ ⟨rfl,rfl,rfl,rfl,rfl,rfl⟩ (ok:=[some ⟨64,18,((P++(A++(C++(B++(E++Q))))).flatMap aQ).map .t⟩]) ⟨aC rfl,rfl⟩ ?_
    refine nl ?_;exact⟨(),trivial,dH h0 [0] ⟨aC rfl,rfl⟩⟩
   refine sk ?_
   exact⟨(),trivial,dH h0 [0] ⟨aC (congrArg (fun l:List Wv=>some (⟨64,18,(l.flatMap aQ).map .t⟩:Ob)) (PG hx (by rw[Bool.and_eq_false_iff,decide_eq_false_iff_not,decide_eq_false_iff_not]at h13;omega))),rfl⟩⟩
  refine md (γ:=Unit) (fun _=>bS [(0,.one (.sl 0 0 (N))),(3,.one (tv (.int .i64 ((b:Nat):Int)))),(4,.one (.t (.f 127 [] []))),(18,.one (tv (.int .i64 (((a+b)/2:Nat):Int)))),(24,.one (tv (.int .i64 (((a+b)/2+m-s:Nat):Int))))]) (fun _=>([⟨64,18,((P++(dV (A++C)++(B++(E++Q)))).flatMap aQ).map .t⟩]:List Ob).map some) (fun _=>True) ?_ fun _ _=>?_
  ·refine md (γ:=Unit) (fun _=>bS [(0,.one (.sl 0 0 (N))),(1,.one (tv (.int .i64 ((a:Nat):Int)))),(3,.one (tv (.int .i64 ((b:Nat):Int)))),(4,.one (.t (.f 127 [] []))),(18,.one (tv (.int .i64 (((a+b)/2:Nat):Int)))),(20,.one (tv (.int .i64 ((s:Nat):Int)))),(24,.one (tv (.int .i64 (((a+b)/2+m-s:Nat):Int)))),(199,.one (tv (.bool (decide (((a:Nat):Int)<((s:Nat):Int))&&decide (((s:Nat):Int)<(((a+b)/2:Nat):Int))))))]) (fun _=>([⟨64,18,((P++(A++(C++(B++(E++Q))))).flatMap aQ).map .t⟩]:List Ob).map some) (fun _=>True) ?_ fun _ _=>?_
   ·refine rl ?_;(iterate 4 refine o1 ?_);refine WL.split (t:=195) rfl (fun h14=>?_) (fun h14=>?_)
    ·(iterate 4 refine o1 ?_);refine nl ?_
     exact⟨(),trivial,mJ h0 [0] _ _ (by decide) rfl ⟨rfl,rfl,rfl,rfl,rfl,rfl,rfl,nH (by simp only[decide_eq_false h10,decide_eq_true h14] <;> first | rfl | simp),trivial⟩ ⟨aC rfl,rfl⟩⟩
    (iterate 3 refine dL ?_);refine o1 ?_;refine nl ?_
    exact⟨(),trivial,mJ h0 [0] _ _ (by decide) rfl ⟨rfl,rfl,rfl,rfl,rfl,rfl,rfl,nH (by simp only[decide_eq_false h10,decide_eq_false h14] <;> first | rfl | simp),trivial⟩ ⟨aC rfl,rfl⟩⟩
   refine nC rfl (fun h15=>?_) (fun h15=>?_)
   ·refine rl ?_;(iterate 5 refine o1 ?_);rw[Bool.and_eq_true,decide_eq_true_eq,decide_eq_true_eq]at h15
    refine cl 1 [0] (ih (P:=P) (X:=A) (Y:=C) (Q:=B++(E++Q)) (a:=a) (m:=s) (b:=(a+b)/2) rfl ha (by omega) (by omega) (by omega) (by omega) hX9.l hY9.l (by omega) (by rw[←hN,hx];simp only[cO,iR];omega) hl) Jy ⟨aC rfl,rfl⟩ ⟨rfl,rfl,rfl,rfl,rfl,rfl⟩ (ok:=[some ⟨64,18,((P++(dV (A++C)++(B++(E++Q)))).flatMap aQ).map .t⟩]) ⟨aC rfl,rfl⟩ ?_
    refine nl ?_;exact⟨(),trivial,dH h0 [0] ⟨aC rfl,rfl⟩⟩
   refine sk ?_
   exact⟨(),trivial,dH h0 [0] ⟨aC (congrArg (fun l:List Wv=>some (⟨64,18,(l.flatMap aQ).map .t⟩:Ob)) (show(P++(A++(C++(B++(E++Q)))))=(P++(dV (A++C)++(B++(E++Q)))) by rw[Xy hX9.l hY9.l (by rw[Bool.and_eq_false_iff,decide_eq_false_iff_not,decide_eq_false_iff_not]at h15;omega)];simp)),rfl⟩⟩
  refine md (γ:=Unit) (fun _=>bS [(0,.one (.sl 0 0 (N))),(3,.one (tv (.int .i64 ((b:Nat):Int)))),(4,.one (.t (.f 127 [] []))),(18,.one (tv (.int .i64 (((a+b)/2:Nat):Int)))),(24,.one (tv (.int .i64 (((a+b)/2+m-s:Nat):Int)))),(213,.one (tv (.bool (decide ((((a+b)/2:Nat):Int)<((((a+b)/2+m-s):Nat):Int))&&decide (((((a+b)/2+m-s):Nat):Int)<((b:Nat):Int))))))]) (fun _=>([⟨64,18,((P++(dV (A++C)++(B++(E++Q)))).flatMap aQ).map .t⟩]:List Ob).map some) (fun _=>True) ?_ fun _ _=>?_
  ·refine rl ?_;(iterate 4 refine o1 ?_);refine WL.split (t:=209) rfl (fun h16=>?_) (fun h16=>?_)
   ·(iterate 4 refine o1 ?_);refine nl ?_
    exact⟨(),trivial,mJ h0 [0] _ _ (by decide) rfl ⟨rfl,rfl,rfl,rfl,rfl,nH (by simp only[decide_eq_false h10,decide_eq_true h16] <;> first | rfl | simp),trivial⟩ ⟨aC rfl,rfl⟩⟩
   (iterate 3 refine dL ?_);refine o1 ?_;refine nl ?_
   exact⟨(),trivial,mJ h0 [0] _ _ (by decide) rfl ⟨rfl,rfl,rfl,rfl,rfl,nH (by simp only[decide_eq_false h10,decide_eq_false h16] <;> first | rfl | simp),trivial⟩ ⟨aC rfl,rfl⟩⟩
  refine nC rfl (fun h17=>?_) (fun h17=>?_)
  ·refine rl ?_;(iterate 5 refine o1 ?_);rw[Bool.and_eq_true,decide_eq_true_eq,decide_eq_true_eq]at h17
   refine cl 1 [0] (ih (xs:=(P++(dV (A++C)++(B++(E++Q))))) (P:=P++dV (A++C)) (X:=B) (Y:=E) (Q:=Q) (a:=(a+b)/2) (m:=((a+b)/2+m-s)) (b:=b) (by simp) (by rw[cO,iR,cO];omega) (by omega) (by omega) (by omega) (by omega) hX9.r hY9.r (by omega) (by rw[←hN,hx];simp only[cO,iR];omega) hl) Jy ⟨aC rfl,rfl⟩ ⟨rfl,rfl,rfl,rfl,rfl,rfl⟩ (ok:=[some ⟨64,18,(((P++dV (A++C))++(dV (B++E)++Q)).flatMap aQ).map .t⟩]) ⟨aC rfl,rfl⟩ ?_
   refine nl ?_
   exact hJ (lent':=[⟨64,18,((P++(dV (X++Y)++Q)).flatMap aQ).map .t⟩]) (.inr rfl) rfl qT (by decide) (fun _ h=>by cases h) ⟨⟨rfl,rfl⟩,trivial⟩ ⟨congrArg (fun l:List Wv=>some (⟨64,18,(l.flatMap aQ).map .t⟩:Ob)) (show((P++dV (A++C))++(dV (B++E)++Q))=(P++(dV (X++Y)++Q)) by rw[hfin];simp),trivial⟩ ⟨cK _,trivial⟩ (fun h=>by cases h) ⟨rfl,rfl⟩
  refine sk ?_
  exact hJ (lent':=[⟨64,18,((P++(dV (X++Y)++Q)).flatMap aQ).map .t⟩]) (.inr rfl) rfl qT (by decide) (fun _ h=>by cases h) ⟨⟨rfl,rfl⟩,trivial⟩ ⟨congrArg (fun l:List Wv=>some (⟨64,18,(l.flatMap aQ).map .t⟩:Ob)) (show(P++(dV (A++C)++(B++(E++Q))))=(P++(dV (X++Y)++Q)) by rw[hfin,Xy (A:=B) hX9.r hY9.r (by rw[Bool.and_eq_false_iff,decide_eq_false_iff_not,decide_eq_false_iff_not]at h17;omega)];simp),trivial⟩ ⟨cK _,trivial⟩ (fun h=>by cases h) ⟨rfl,rfl⟩
theorem KV {N:Nat}{xs:List Wv}(hN:xs.length=N) (hl:N≤1073741823):aG false Tryz.prog 145 [⟨64,18,(xs.flatMap aQ).map .t⟩] [.one (.sl 0 0 N),.one (tv (.int .i64 ((N:Nat):Int))),.one (.t (.f 127 [] []))] (Rt [⟨64,18,((dV xs).flatMap aQ).map .t⟩] (.tup [])):=by
 refine nG Tryz.func145 rfl Tryz.ntmps145 rfl aB rfl fun N9 M9 w9 c0 h0=>?_
 refine sq (rl (o1 ?_));refine nl (sq (rl ?_));(iterate 3 refine o1 ?_);refine nl (sq (bl ?_))
 refine lp (γ:=Nat×Nat×List Wv) (fun s=>bS [(0,.one (.sl 0 0 (N))),(1,.one (tv (.int .i64 ((N:Nat):Int)))),(2,.one (.t (.f 127 [] []))),(6,.one (tv (.int .i64 ((20:Nat):Int)))),(7,.one (tv (.int .i64 ((s.2.1:Nat):Int)))),(8,.one (tv (.int .i64 ((s.2.1+20:Nat):Int))))]) (fun s=>[(⟨64,18,(s.2.2.flatMap aQ).map .t⟩:Ob)].map some) (fun s=>s.2.1=s.1*20∧s.2.1≤N∧Blk9 20 s.1 s.2.2∧Kp Wv.y s.2.2 xs∧s.2.2.length=N) (fun s=>N-s.2.1) (0,0,xs) ⟨rfl,Nat.zero_le _,fun k h9=>absurd h9 (Nat.not_lt_zero k),Kp.refl,hN⟩ (dH h0 [0] ⟨aC rfl,rfl⟩) ?_
 rintro⟨t,a,D⟩ ⟨hat,haN,hB,hK,hDn⟩;dsimp only at hat haN hB hK hDn⊢;refine sq (sq (rl ?_));(iterate 3 refine o1 ?_);refine nl ?_
 refine bL rfl (fun h1=>?_) (fun h1=>?_)
 ·refine sk (bl (sq (rl ?_)));(iterate 4 refine o1 ?_);obtain⟨P,S,Q,hD,hP,hS,hQ⟩:=Uq (D:=D) (a:=a) (b:=a+20) (by omega) (by omega)
  subst hD
  refine cl 1 [0] (Xx (P:=P) (S:=S) (Q:=Q) (a:=a) (b:=a+20) rfl hP (by omega) hDn hl) HU ⟨aC rfl,rfl⟩ ⟨rfl,rfl,rfl,rfl,rfl⟩ (ok:=[some ⟨64,18,((P++(dV S++Q)).flatMap aQ).map .t⟩]) ⟨aC rfl,rfl⟩ ?_
  refine nl (sq (rl (o1 ?_)));refine o1 ?_;refine nl (rl ?_);(iterate 3 refine o1 ?_)
  refine aZ 22 (a+20+20) ?_
  refine o1 ?_;refine nl ?_
  exact⟨(t+1,a+20,(P++(dV S++Q))),by dsimp only;omega,⟨by dsimp only;omega,by dsimp only;omega,hB.step (by omega) (by omega),Ut hK,by simp only[cO,iR]at hDn⊢;exact hDn⟩,dH h0 [0] ⟨aC rfl,rfl⟩⟩
 refine ex (sq (rl ?_));(iterate 4 refine o1 ?_);obtain⟨P,S,hD,hP,hS⟩:=wG (D:=D) (a:=a) (by omega)
 have hSl:a+S.length=N:=by rw[hS,hDn];omega
 subst hD;have hDx:P++(S++[])=P++S:=by rw[List.append_nil]
 rw[←hDx]at hB hK hDn⊢
 refine cl 1 [0] (Xx (P:=P) (S:=S) (Q:=[]) (a:=a) (b:=N) rfl hP hSl hDn hl) HU ⟨aC rfl,rfl⟩ ⟨rfl,rfl,rfl,rfl,rfl⟩ (ok:=[some ⟨64,18,((P++(dV S++[])).flatMap aQ).map .t⟩]) ⟨aC rfl,rfl⟩ ?_
 refine nl (bl ?_);have hA:=hB.all (by omega) (by omega)
 have hK2:=Ut hK
 have hDn2:(P++(dV S++[])).length=N:=by simp only[cO,iR]at hDn⊢;exact hDn
 refine lp (γ:=Nat×List Wv) (fun s=>bS [(0,.one (.sl 0 0 (N))),(1,.one (tv (.int .i64 ((N:Nat):Int)))),(2,.one (.t (.f 127 [] []))),(6,.one (tv (.int .i64 ((s.1:Nat):Int))))]) (fun s=>[(⟨64,18,(s.2.flatMap aQ).map .t⟩:Ob)].map some) (fun s=>0<s.1∧All9 s.1 s.2∧Kp Wv.y s.2 xs∧s.2.length=N) (fun s=>N-s.1) (20,(P++(dV S++[]))) ⟨by omega,hA,hK2,hDn2⟩ (dH h0 [0] ⟨aC rfl,rfl⟩) ?_
 rintro⟨bz,Z⟩ ⟨hs0,hA,hK3,hZn⟩;dsimp only at hs0 hA hK3 hZn⊢;refine sq (sq (rl ?_));(iterate 3 refine o1 ?_);refine nl ?_;refine bL rfl (fun h2=>?_) (fun h2=>?_)
 ·refine sk (bl (sq (rl (o1 ?_))));refine o1 ?_;refine aZ 32 (2*bz) ?_
  refine o1 ?_;refine o1 ?_;refine nl (sq (bl ?_))
  refine lp (γ:=Nat×Nat×List Wv) (fun s=>bS [(0,.one (.sl 0 0 (N))),(1,.one (tv (.int .i64 ((N:Nat):Int)))),(2,.one (.t (.f 127 [] []))),(6,.one (tv (.int .i64 ((bz:Nat):Int)))),(7,.one (tv (.int .i64 ((s.2.1:Nat):Int)))),(8,.one (tv (.int .i64 ((s.2.1+2*bz:Nat):Int))))]) (fun s=>[(⟨64,18,(s.2.2.flatMap aQ).map .t⟩:Ob)].map some) (fun s=>s.2.1=s.1*(2*bz)∧s.2.1≤N∧Mg9 bz s.1 s.2.2∧Kp Wv.y s.2.2 xs∧s.2.2.length=N) (fun s=>N-s.2.1) (0,0,Z) ⟨by dsimp only;omega,Nat.zero_le _,Mg9.start hA,hK3,hZn⟩ (mJ h0 [0] _ _ (by decide) rfl ⟨rfl,rfl,rfl,rfl,rfl,qU (by dsimp only;omega),trivial⟩ ⟨aC rfl,rfl⟩) ?_
  rintro⟨t,a,D⟩ ⟨hat,haN,hM,hK4,hDn⟩;dsimp only at hat haN hM hK4 hDn⊢;refine sq (sq (rl ?_));(iterate 3 refine o1 ?_);refine nl ?_
  refine bL rfl (fun h3=>?_) (fun h3=>?_)
  ·refine sk (bl (sq (rl ?_)));(iterate 5 refine o1 ?_);refine aZ 40 (a+bz) ?_
   refine o1 ?_;refine o1 ?_;obtain⟨P9,W,Q9,hD9,hP9,hW9,hQ9⟩:=Uq (D:=D) (a:=a) (b:=a+2*bz) (by omega) (by omega)
   rw[hDn]at hQ9;obtain⟨X,Y,hW,hX9,hY9⟩:=wG (D:=W) (a:=bz) (by omega)
   rw[hW9]at hY9;have hW8:(X++Y).length=X.length+Y.length:=cO
   subst hW;subst hD9;have hD8:P9++((X++Y)++Q9)=P9++(X++(Y++Q9)):=by rw[List.append_assoc X]
   have hM8:=hM
   rw[hD8]at hM8
   refine cl 1 [0] (HS (X.length+Y.length) (P:=P9) (X:=X) (Y:=Y) (Q:=Q9) (a:=a) (m:=a+bz) (b:=a+2*bz) hD8 hP9 (by omega) (by omega) (by omega) (by omega) (hM8.px (by omega) (by omega)) (hM8.py (by omega) (by omega) (by omega) (.inl (by omega))) (bC _) hDn hl) Jy ⟨aC rfl,rfl⟩ ⟨rfl,rfl,rfl,rfl,rfl,rfl⟩ (ok:=[some ⟨64,18,((P9++(dV (X++Y)++Q9)).flatMap aQ).map .t⟩]) ⟨aC rfl,rfl⟩ ?_
   refine nl (sq (rl (o1 ?_)));refine o1 ?_;refine nl (rl ?_);(iterate 3 refine o1 ?_)
   refine aZ 47 (2*bz) ?_
   refine o1 ?_;refine aZ 48 (a+2*bz+(2*bz)) ?_
   refine o1 ?_;refine nl ?_
   exact⟨(t+1,a+2*bz,(P9++(dV (X++Y)++Q9))),by dsimp only;omega,⟨by dsimp only;rw[Nat.add_mul t 1,Nat.one_mul,←hat],by dsimp only;omega,hM.step (by omega) (by rw[cO];omega),Ut hK4,by simp only[cO,iR]at hDn⊢;exact hDn⟩,dH h0 [0] ⟨aC rfl,rfl⟩⟩
  refine ex (sq (sq (rl ?_)));(iterate 3 refine o1 ?_);refine aZ 51 (a+bz) ?_
  refine o1 ?_;refine nl (sq (rl ?_));(iterate 3 refine o1 ?_);refine nl ?_;refine bL rfl (fun h4=>?_) (fun h4=>?_)
  ·refine rl ?_;(iterate 5 refine o1 ?_);obtain⟨P9,W,Q9,hD9,hP9,hW9,hQ9⟩:=Uq (D:=D) (a:=a) (b:=N) (by omega) (by omega)
   rw[hDn]at hQ9;obtain⟨X,Y,hW,hX9,hY9⟩:=wG (D:=W) (a:=bz) (by omega)
   rw[hW9]at hY9;have hW8:(X++Y).length=X.length+Y.length:=cO
   subst hW;subst hD9;have hD8:P9++((X++Y)++Q9)=P9++(X++(Y++Q9)):=by rw[List.append_assoc X]
   have hM8:=hM
   rw[hD8]at hM8;have hA9:All9 (2*bz) (P9++(dV (X++Y)++Q9)):=by
    have hq:Q9=[]:=List.eq_nil_of_length_eq_zero (by omega)
    subst hq;exact hM.l.all (by omega) (by rw[cO];omega)
   have hK9:=Ut hK4
   have hDn9:(P9++(dV (X++Y)++Q9)).length=N:=by simp only[cO,iR]at hDn⊢;exact hDn
   refine cl 1 [0] (HS (X.length+Y.length) (P:=P9) (X:=X) (Y:=Y) (Q:=Q9) (a:=a) (m:=a+bz) (b:=N) hD8 hP9 (by omega) (by omega) (by omega) (by omega) (hM8.px (by omega) (by omega)) (hM8.py (by omega) (by omega) (by omega) (.inr (List.eq_nil_of_length_eq_zero (by omega)))) (bC _) hDn hl) Jy ⟨aC rfl,rfl⟩ ⟨rfl,rfl,rfl,rfl,rfl,rfl⟩ (ok:=[some ⟨64,18,((P9++(dV (X++Y)++Q9)).flatMap aQ).map .t⟩]) ⟨aC rfl,rfl⟩ ?_
   refine nl (rl (o1 ?_));refine o1 ?_;refine aZ 62 (bz*2) ?_
   refine o1 ?_;refine nl ?_
   exact⟨(bz*2,(P9++(dV (X++Y)++Q9))),by dsimp only;omega,⟨by dsimp only;omega,(by rw[Nat.mul_comm];exact hA9),hK9,hDn9⟩,dH h0 [0] ⟨aC rfl,rfl⟩⟩
  refine sk ?_;have hA9:All9 (2*bz) D:=hM.all2 (by omega)
  have hK9:=hK4
  have hDn9:=hDn
  refine rl (o1 ?_);refine o1 ?_;refine aZ 62 (bz*2) ?_
  refine o1 ?_;refine nl ?_
  exact⟨(bz*2,D),by dsimp only;omega,⟨by dsimp only;omega,(by rw[Nat.mul_comm];exact hA9),hK9,hDn9⟩,dH h0 [0] ⟨aC rfl,rfl⟩⟩
 refine ex ?_
 exact hJ (lent':=[⟨64,18,((dV xs).flatMap aQ).map .t⟩]) (.inr rfl) rfl qT (by decide) (fun _ h=>by cases h) ⟨⟨rfl,rfl⟩,trivial⟩ ⟨congrArg (fun l:List Wv=>some (⟨64,18,(l.flatMap aQ).map .t⟩:Ob)) (hA.fin (by omega) hK3).symm,trivial⟩ ⟨cK _,trivial⟩ (fun h=>by cases h) ⟨rfl,rfl⟩
theorem KW {N:Nat}{xs:List Wv}(hN:xs.length=N) (hl:N≤1073741823):aG false Tryz.prog 126 [⟨64,18,(xs.flatMap aQ).map .t⟩] [.one (.sl 0 0 N),.one (.t (.f 127 [] []))] (Rt [⟨64,18,((dV xs).flatMap aQ).map .t⟩] (.tup [])):=by
 refine nG Tryz.func126 rfl Tryz.ntmps126 rfl aB rfl fun N9 M9 w9 c0 h0=>?_
 refine rl ?_;(iterate 4 refine o1 ?_);refine cl 1 [0] (KV hN hl) UU ⟨aC rfl,rfl⟩ ⟨rfl,rfl,rfl,rfl⟩ (ok:=[some ⟨64,18,((dV xs).flatMap aQ).map .t⟩]) ⟨aC rfl,rfl⟩ ?_
 refine nl ?_
 exact hJ (lent':=[⟨64,18,((dV xs).flatMap aQ).map .t⟩]) (.inr rfl) rfl qT (by decide) (fun _ h=>by cases h) ⟨⟨rfl,rfl⟩,trivial⟩ ⟨rfl,trivial⟩ ⟨cK _,trivial⟩ (fun h=>by cases h) ⟨rfl,rfl⟩
def qV (a:Fr4):Bool:=bV a.s a.x a.t a.y
def gV (y:Yr) (E:Nat):Bool:=decide ((y.m.length:Int)=(E:Int))&&(decide ((y.b.length:Int)=(E:Int))&&(!(y.b.any fun a=> !qV a)&&(qV y.l&&decide (0≤y.l.q.num.sign))))
theorem Jz (xs:List Bool){k:Nat}(h:k<xs.length):((bT xs).drop (k*1)).take [Tr.v (.bool (nU xs k))].length=[.v (.bool (nU xs k))]:=by
 have h1:(bT xs)[k]? =some (.v (.bool (nU xs k))):=by simp[bT,nU,h]
 have h2:k<(bT xs).length:=by rw[Xk];exact h
 rw[Nat.mul_one,List.drop_eq_getElem_cons h2,List.length_singleton,List.take_succ_cons,List.take_zero]
 rw[dC h2]at h1
 rw[Option.some.inj h1]
theorem HV {a:Fr4}(ha:a.ok):aG true Tryz.prog 67 [] [qF a] (aU (.one (tv (.bool (!qV a))))):=by
 refine cC Tryz.func67 rfl Tryz.ntmps67 rfl aB rfl fun N9 w9 c0 h0=>?_
 refine sq (rl (bx 0 ?_));refine o1 ?_;refine nl (sq (rl (ld ?_)))
 refine ca (Mc ha) DO ⟨aD rfl,rfl⟩ (.one (tv (.bool (bV a.s a.x a.t a.y)))) ?_;refine o1 ?_;refine o1 ?_;refine nl (rt ?_)
 exact en (.inl rfl) rfl (bD (cU _)) (by decide) (fun _=>trivial) rfl
theorem KX {y:Yr}{E:Nat}(hb:∀a∈y.b,a.ok) (hy:y.l.ok) (hl:y.b.length≤1073741823):aG true Tryz.prog 37 [] [.agg ((eG y).map .t),.one (tv (.int .i64 ((E:Nat):Int)))] (aU (.one (tv (.bool (gV y E))))):=by
 refine cC Tryz.func37 rfl Tryz.ntmps37 rfl aB rfl fun N9 w9 c0 h0=>?_
 refine sq (rl (bx 0 ?_));refine o1 ?_;refine nl (sq (rl (o1 ?_)));refine nl (sq (rl (o1 ?_)));refine ld ?_
 (iterate 4 refine o1 ?_);refine WL.split (t:=11) rfl (fun h1=>?_) (fun h1=>?_)
 ·refine o1 ?_;refine ld ?_;(iterate 5 refine o1 ?_);refine WL.split (t:=18) rfl (fun h2=>?_) (fun h2=>?_)
  ·refine o1 ?_;refine ld ?_;refine o1 ?_
   refine ca (PE (xs:=y.b) (dl:=fun a=> !qV a) (fd:=67) (fst:=[]) (caps:=[]) PH (fun x hx=>HV (hb x hx)) hl) XK ⟨a1 rfl,a1 rfl,rfl⟩ (.one (tv (.bool (y.b.any fun a=> !qV a)))) ?_
   refine WL.splitb (t:=22) rfl (fun h3=>?_) (fun h3=>?_)
   ·(iterate 3 refine o1 ?_);(iterate 5 refine dL ?_);refine o1 ?_;refine o1 ?_;(iterate 4 refine dL ?_);refine o1 ?_;refine o1 ?_;refine nl (rt ?_)
    exact jQ (.inl rfl) rfl (by unfold gV;simp only[decide_eq_true h1,decide_eq_true h2,h3,ge_iff_le,Bool.not_true,Bool.not_false,Bool.or_true,Bool.true_or,Bool.false_or,Bool.or_false,Bool.false_eq_true,if_true,if_false,ite_true,ite_false,Bool.and_true,Bool.true_and,Bool.false_and,Bool.and_false,Bool.not_not] <;> first | rfl | (simp;done) | grind)
   (iterate 5 refine o1 ?_);refine ld ?_;refine ce 1 [qF y.l] rfl (HV (a:=y.l) hy) PH ⟨rfl,rfl⟩ ?_;refine WL.splitb (t:=29) rfl (fun h4=>?_) (fun h4=>?_)
   ·(iterate 3 refine o1 ?_);(iterate 4 refine dL ?_);refine o1 ?_;refine o1 ?_;refine nl (rt ?_)
    exact jQ (.inl rfl) rfl (by unfold gV;simp only[decide_eq_true h1,decide_eq_true h2,h3,h4,ge_iff_le,Bool.not_true,Bool.not_false,Bool.or_true,Bool.true_or,Bool.false_or,Bool.or_false,Bool.false_eq_true,if_true,if_false,ite_true,ite_false,Bool.and_true,Bool.true_and,Bool.false_and,Bool.and_false,Bool.not_not] <;> first | rfl | (simp;done) | grind)
   (iterate 4 refine o1 ?_);refine ld ?_;refine ca (oB (p:=y.l.q) ⟨hy,rfl⟩) wH ⟨aD rfl,rfl⟩ (.one (tv (.int .i64 y.l.q.num.sign))) ?_;(iterate 3 refine o1 ?_);refine nl ?_
   refine rt ?_
   exact jQ (.inl rfl) rfl (by unfold gV;simp only[decide_eq_true h1,decide_eq_true h2,h3,h4,ge_iff_le,Bool.not_true,Bool.not_false,Bool.or_true,Bool.true_or,Bool.false_or,Bool.or_false,Bool.false_eq_true,if_true,if_false,ite_true,ite_false,Bool.and_true,Bool.true_and,Bool.false_and,Bool.and_false,Bool.not_not] <;> first | rfl | (simp;done) | grind)
  (iterate 5 refine dL ?_);refine o1 ?_;refine o1 ?_;(iterate 5 refine dL ?_);refine o1 ?_;refine o1 ?_;(iterate 4 refine dL ?_);refine o1 ?_;refine o1 ?_;refine nl (rt ?_)
  exact jQ (.inl rfl) rfl (by unfold gV;simp only[decide_eq_true h1,decide_eq_false h2,ge_iff_le,Bool.not_true,Bool.not_false,Bool.or_true,Bool.true_or,Bool.false_or,Bool.or_false,Bool.false_eq_true,if_true,if_false,ite_true,ite_false,Bool.and_true,Bool.true_and,Bool.false_and,Bool.and_false,Bool.not_not] <;> first | rfl | (simp;done) | grind)
 (iterate 5 refine dL ?_);refine o1 ?_;refine o1 ?_;(iterate 5 refine dL ?_);refine o1 ?_;refine o1 ?_;(iterate 5 refine dL ?_);refine o1 ?_;refine o1 ?_;(iterate 4 refine dL ?_)
 refine o1 ?_;refine o1 ?_;refine nl (rt ?_)
 exact jQ (.inl rfl) rfl (by unfold gV;simp only[decide_eq_false h1,ge_iff_le,Bool.not_true,Bool.not_false,Bool.or_true,Bool.true_or,Bool.false_or,Bool.or_false,Bool.false_eq_true,if_true,if_false,ite_true,ite_false,Bool.and_true,Bool.true_and,Bool.false_and,Bool.and_false,Bool.not_not] <;> first | rfl | (simp;done) | grind)
theorem Xz {y:Yr}{E:Nat}(hb:∀a∈y.b,a.ok) (hy:y.l.ok) (hl:y.b.length≤1073741823):aG true Tryz.prog 36 [] [.agg ((eG y).map .t),.one (.t (.p false 3 [.v (.int .i64 ((E:Nat):Int))]))] (aU (.one (tv (.bool (!gV y E))))):=by
 refine cC Tryz.func36 rfl Tryz.ntmps36 rfl aB rfl fun N9 w9 c0 h0=>?_
 refine WP.sub (Md (i:=1) rfl rfl) ?_;refine sq (rl (bx 0 ?_));refine o1 ?_;refine nl (sq (rl (ld ?_)))
 refine eE ([.v (.int .i64 ((E:Nat):Int))]) rfl ?_;refine ca (KX (E:=E) hb hy hl) XL ⟨aD rfl,a1 rfl,rfl⟩ (.one (tv (.bool (gV y E)))) ?_;refine o1 ?_;refine o1 ?_;refine nl ?_
 refine rt ?_;exact en (.inl rfl) rfl (bD (cU _)) (by decide) (fun _=>trivial) rfl
theorem UV {xs:List Yr}{dl:Yr→Bool}{fd:FuncId}{fst caps:List Tr}(hok:CallOk Tryz.prog fd) (hd:∀x∈xs,aG true Tryz.prog fd [] (cR fst++[.agg ((eG x).map .t)]++cR caps) (aU (.one (tv (.bool (dl x)))))) (hl:xs.length≤1073741823):aG true Tryz.prog 66 [] [.one (.t (kY xs)),.one (.t (.f fd fst caps))] (aU (.one (tv (.int .i64 (pY dl xs))))):=by
 refine cC Tryz.func66 rfl Tryz.ntmps66 rfl aB rfl fun N w c0 h0=>?_
 refine sq (rl (o1 ?_));refine nl (sq (sq (rl ?_)));(iterate 3 refine o1 ?_);refine nl (bl ?_)
 refine lp (γ:=Nat) (fun k=>bS [(0,.one (.t (kY xs))),(1,.one (.t (.f fd fst caps))),(7,.one (tv (.int .i64 ((xs.length:Nat):Int)))),(8,.one (tv (.int .i64 ((k:Nat):Int))))]) (fun k=>[].map some) (fun k=>k≤xs.length∧k≤dD dl xs) (fun k=>xs.length-k) 0 (⟨Nat.zero_le _,Nat.zero_le _⟩) (aW h0 [] rfl) fun k hk=>?_
 refine sq (rl (o1 ?_));refine nl (sq ?_);refine bL rfl (fun h1=>?_) (fun h1=>?_)
 ·refine sk (sq (bl (sq (rl (o1 ?_)))));refine o1 ?_;refine nl (sq (rl ?_));(iterate 4 refine o1 ?_)
  refine eE (eG (aK xs (k))) (bH (f:=eG) (z:=6) (o:=0) dS (cY (by omega)) (bN rfl) rfl) ?_
  refine ce 0 [.agg ((eG (aK xs (k))).map .t)] rfl (hd (aK xs (k)) (fR (by omega))) hok ⟨rfl,rfl⟩ ?_
  refine nl ?_;refine nC rfl (fun h2=>?_) (fun h2=>?_)
  ·refine sq (rl (o1 ?_));refine o1 ?_;refine nl (rt ?_);have hx9:=(mS hk.2 (by omega)).1 h2
   exact en (.inl rfl) rfl (bD (cU _)) (by decide) (fun _=>trivial) (congrArg (fun z=>FV.one (tv (.int .i64 z))) (by unfold pY;rw[hx9,if_neg (by omega)]))
  refine sk (rl (o1 ?_));refine aZ 18 (k+1) ?_
  refine o1 ?_;refine nl ?_;exact⟨k+1,by omega,⟨by omega,(mS hk.2 (by omega)).2 h2⟩,aW h0 [] rfl⟩
 refine ex (sq (rl (o1 ?_)));refine nl (rt ?_);have hx9:=yQ (dl:=dl) xs
 exact en (.inl rfl) rfl (bD (cU _)) (by decide) (fun _=>trivial) (congrArg (fun z=>FV.one (tv (.int .i64 z))) (by unfold pY;rw[if_pos (by omega)]))
theorem HW {xs:List Yr}{dl:Yr→Bool}{fd:FuncId}{fst caps:List Tr}(hok:CallOk Tryz.prog fd) (hd:∀x∈xs,aG true Tryz.prog fd [] (cR fst++[.agg ((eG x).map .t)]++cR caps) (aU (.one (tv (.bool (dl x)))))) (hl:xs.length≤1073741823):aG true Tryz.prog 35 [] [.one (.t (kY xs)),.one (.t (.f fd fst caps))] (aU (.one (tv (.bool (xs.any dl))))):=by
 refine cC Tryz.func35 rfl Tryz.ntmps35 rfl aB rfl fun N w c0 h0=>?_
 refine sq (rl (o1 ?_));refine nl (sq (rl (o1 ?_)));refine o1 ?_
 refine ca (UV hok hd hl) XM ⟨a1 rfl,a1 rfl,rfl⟩ (.one (tv (.int .i64 (pY dl xs)))) ?_;refine o1 ?_;refine o1 ?_;refine nl (rt ?_)
 exact en (.inl rfl) rfl (bD (cU _)) (by decide) (fun _=>trivial) (congrArg (fun z=>FV.one (tv (.bool z))) (Rf xs))
theorem HZ {xs:List Vn}{dl:Vn→Bool}{fd:FuncId}{fst caps:List Tr}(hok:CallOk Tryz.prog fd) (hd:∀x∈xs,aG true Tryz.prog fd [] (cR fst++[.agg ((cF false x).map .t)]++cR caps) (aU (.one (tv (.bool (dl x)))))) (hl:xs.length≤1073741823):aG true Tryz.prog 74 [] [.one (.t (dG false false xs)),.one (.t (.f fd fst caps))] (aU (.one (tv (.int .i64 (pY dl xs))))):=by
 refine cC Tryz.func74 rfl Tryz.ntmps74 rfl aB rfl fun N w c0 h0=>?_
 refine sq (rl (o1 ?_));refine nl (sq (sq (rl ?_)));(iterate 3 refine o1 ?_);refine nl (bl ?_)
 refine lp (γ:=Nat) (fun k=>bS [(0,.one (.t (dG false false xs))),(1,.one (.t (.f fd fst caps))),(7,.one (tv (.int .i64 ((xs.length:Nat):Int)))),(8,.one (tv (.int .i64 ((k:Nat):Int))))]) (fun k=>[].map some) (fun k=>k≤xs.length∧k≤dD dl xs) (fun k=>xs.length-k) 0 (⟨Nat.zero_le _,Nat.zero_le _⟩) (aW h0 [] rfl) fun k hk=>?_
 refine sq (rl (o1 ?_));refine nl (sq ?_);refine bL rfl (fun h1=>?_) (fun h1=>?_)
 ·refine sk (sq (bl (sq (rl (o1 ?_)))));refine o1 ?_;refine nl (sq (rl ?_));(iterate 4 refine o1 ?_)
  refine eE ((cF false) (bQ xs (k))) (bH (f:=(cF false)) (z:=18) (o:=0) (cQ false) (lE (by omega)) (bN rfl) rfl) ?_
  refine ce 0 [.agg ((cF false (bQ xs (k))).map .t)] rfl (hd (bQ xs (k)) (tD (by omega))) hok ⟨rfl,rfl⟩ ?_
  refine nl ?_;refine nC rfl (fun h2=>?_) (fun h2=>?_)
  ·refine sq (rl (o1 ?_));refine o1 ?_;refine nl (rt ?_);have hx9:=(mS hk.2 (by omega)).1 h2
   exact en (.inl rfl) rfl (bD (cU _)) (by decide) (fun _=>trivial) (congrArg (fun z=>FV.one (tv (.int .i64 z))) (by unfold pY;rw[hx9,if_neg (by omega)]))
  refine sk (rl (o1 ?_));refine aZ 18 (k+1) ?_
  refine o1 ?_;refine nl ?_;exact⟨k+1,by omega,⟨by omega,(mS hk.2 (by omega)).2 h2⟩,aW h0 [] rfl⟩
 refine ex (sq (rl (o1 ?_)));refine nl (rt ?_);have hx9:=yQ (dl:=dl) xs
 exact en (.inl rfl) rfl (bD (cU _)) (by decide) (fun _=>trivial) (congrArg (fun z=>FV.one (tv (.int .i64 z))) (by unfold pY;rw[if_pos (by omega)]))
theorem Ri {v:Vn}{y e:Int}:aG true Tryz.prog 75 [] [.agg ((cF false v).map .t),.one (.t (.p false 3 [.v (.int .i64 y)])),.one (.t (.p false 3 [.v (.int .i64 e)]))] (aU (.one (tv (.bool (cP y e v))))):=by
 refine cC Tryz.func75 rfl Tryz.ntmps75 rfl aB rfl fun N9 w9 c0 h0=>?_
 refine WP.sub (Md (i:=1) rfl rfl) ?_;refine WP.sub (Md (i:=2) rfl rfl) ?_;refine sq (rl (bx 0 ?_));refine o1 ?_;refine nl (sq (rl (o1 ?_)))
 refine ld ?_;refine eE ([.v (.int .i64 y)]) rfl ?_;refine o1 ?_;refine o1 ?_;refine WL.split (t:=9) rfl (fun h1=>?_) (fun h1=>?_)
 ·refine o1 ?_;refine ld ?_;refine eE ([.v (.int .i64 e)]) rfl ?_;(iterate 3 refine o1 ?_);refine nl (rt ?_)
  exact jQ (.inl rfl) rfl (by unfold cP;simp only[decide_eq_true h1,Bool.not_true,Bool.not_false,Bool.or_true,Bool.true_or,Bool.false_or,Bool.or_false,Bool.false_eq_true,if_true,if_false,ite_true,ite_false,Bool.and_true,Bool.true_and,Bool.false_and,Bool.and_false,Bool.not_not] <;> first | rfl | simp)
 (iterate 4 refine dL ?_);refine o1 ?_;refine o1 ?_;refine nl (rt ?_)
 exact jQ (.inl rfl) rfl (by unfold cP;simp only[decide_eq_false h1,Bool.not_true,Bool.not_false,Bool.or_true,Bool.true_or,Bool.false_or,Bool.or_false,Bool.false_eq_true,if_true,if_false,ite_true,ite_false,Bool.and_true,Bool.true_and,Bool.false_and,Bool.and_false,Bool.not_not] <;> first | rfl | simp)
theorem kS {a:Fr4}{p:Rat}(ha:Qn a p):aG false Tryz.prog 46 [] [qF a] (aU (qF (.of p))):=pG ha
theorem IA {a b:Fr4}{p q:Rat}(ha:Qn a p) (hb:Qn b q):aG true Tryz.prog 19 [] [qF a,qF b] (aU (.one (tv (.int .i64 (p-q).num.sign)))):=by
 refine cC Tryz.func19 rfl Tryz.ntmps19 rfl aB rfl fun N w c0 h0=>?_
 have hs:=ha.sz;have hs':=hb.sz
 have hs1:=hs.1;have hs2:=hs.2;have hs3:=hs'.1;have hs4:=hs'.2
 have hs5:(dg 4294967296 ((p.den:Int)).natAbs).length≤68719476736:=hs2
 have hs6:(dg 4294967296 ((q.den:Int)).natAbs).length≤68719476736:=hs4
 refine sq (rl (bx 0 ?_));refine bx 1 ?_;refine o1 ?_;refine nl ?_
 refine md (γ:=Unit) (fun _=>bS [(2,.one (.pt 0 0)),(3,.one (.pt 1 0)),(4,.one (tv (.int .i64 ((0:Nat):Int))))]) (fun _=>([⟨48,0,((Fr4.of p).tr false).map .t⟩,⟨48,0,((Fr4.of q).tr false).map .t⟩]:List Ob).map some) (fun _=>True) ?_ fun _ _=>?_
 ·refine rd [0,1] (fun i=>[0,1,2,3,4,5].contains i) mixed ?_
  refine WO.two (i:=0) (j:=2) (by kernel_rfl) ?_ ?_
  ·refine Rj 0 ?_;refine WO.two (i:=1) (j:=2) (by kernel_rfl) ?_ ?_
   ·refine fG 1 rfl (kS ha) mT ⟨aD rfl,rfl⟩ (qF (.of p)) ?_;refine WO.one (by kernel_rfl) (Rj 2 ?_)
    refine aX 3 rfl (kS hb) mT ⟨aD rfl,rfl⟩ (qF (.of q)) ?_;refine dst 4 ?_;refine dst 5 ?_;refine aV ?_
    exact⟨(),trivial,aW h0 [0,1] ⟨oe rfl rfl,oe rfl rfl,rfl⟩⟩
   refine Rj 2 ?_;refine aX 1 rfl (kS ha) mT ⟨aD rfl,rfl⟩ (qF (.of p)) ?_;refine aX 3 rfl (kS hb) mT ⟨aD rfl,rfl⟩ (qF (.of q)) ?_;refine dst 4 ?_;refine dst 5 ?_
   refine aV ?_;exact⟨(),trivial,aW h0 [0,1] ⟨oe rfl rfl,oe rfl rfl,rfl⟩⟩
  refine Rj 2 ?_;refine WO.one (by kernel_rfl) (Rj 0 ?_)
  refine aX 1 rfl (kS ha) mT ⟨aD rfl,rfl⟩ (qF (.of p)) ?_;refine aX 3 rfl (kS hb) mT ⟨aD rfl,rfl⟩ (qF (.of q)) ?_;refine dst 4 ?_;refine dst 5 ?_;refine aV ?_
  exact⟨(),trivial,aW h0 [0,1] ⟨oe rfl rfl,oe rfl rfl,rfl⟩⟩
 refine sq ?_;refine rd [0,1] (fun i=>[11].contains i) mixed ?_
 refine dv 0 ?_;refine aO 1 ?_;refine dv 2 ?_;refine aO 3 ?_;refine dv 5 ?_;refine aO 6 ?_;refine dv 7 ?_;refine aO 8 ?_;have hn1:=gH (p.num) ((q.den:Int))
 refine aX 4 rfl (Ya (oC hs) (iD hs')) Me ⟨aD rfl,aD rfl,rfl⟩ (kF ((p.num*(q.den:Int)))) ?_;have hn2:=gH (q.num) ((p.den:Int))
 refine aX 9 rfl (Ya (oC hs') (iD hs)) Me ⟨aD rfl,aD rfl,rfl⟩ (kF ((q.num*(p.den:Int)))) ?_
 refine aX 10 rfl (PI (Zn.of (k:=(p.num*(q.den:Int))) (by omega)) (Zn.of (k:=(q.num*(p.den:Int))) (by omega))) DP ⟨aD rfl,aD rfl,rfl⟩ (.one (tv (.int .i64 ((p.num*(q.den:Int))-(q.num*(p.den:Int))).sign))) ?_
 refine eQ 11 (by kernel_rfl) rfl rfl aB rfl (by trivial) ?_ (fun h=>by first | rfl | cases h)
 refine aV ?_;refine rt ?_;exact en (.inl rfl) rfl (bD (cU _)) (by decide) (fun _=>trivial) (by rw[←Yb];rfl)
theorem Yc {a b:Fr4}{p q:Rat}(ha:Qn a p) (hb:Qn b q):aG true Tryz.prog 148 [] [qF a,qF b] (aU (.one (tv (.bool (decide (q<p)))))):=by
 refine cC Tryz.func148 rfl Tryz.ntmps148 rfl aB rfl fun N w c0 h0=>?_
 refine sq (rl (bx 0 ?_));refine bx 1 ?_;refine o1 ?_;refine nl (sq (rl (ld ?_)));refine o1 ?_;refine ld ?_
 refine ca (IA hb ha) Cm ⟨aD rfl,aD rfl,rfl⟩ (.one (tv (.int .i64 (q-p).num.sign))) ?_;refine o1 ?_;refine o1 ?_;refine nl (rt ?_)
 exact en (.inl rfl) rfl (bD (cU _)) (by decide) (fun _=>trivial) (congrArg (fun z=>FV.one (tv (.bool z))) (Rk p q))
theorem Yd {a:Fr4}:aG false Tryz.prog 147 [] [qF a] (aU (.one (.t (.f 148 [.a (a.tr false)] [])))):=by
 refine cC Tryz.func147 rfl Tryz.ntmps147 rfl aB rfl fun N w c0 h0=>?_
 refine sq (rl (bx 0 ?_));refine o1 ?_;refine nl (sq (rl (ld ?_)));refine o1 ?_;refine o1 ?_;refine nl (rt ?_)
 exact en (.inl rfl) rfl (bD (.one (.id rfl))) (by decide) (fun h=>by cases h) rfl
theorem PJ {a:Fr4}{p:Rat}{xs:List Fr4}(ha:Qn a p) (hx:∀x∈xs,x.ok) (hl:xs.length≤1099511627776):aG false Tryz.prog 51 [] [qF a,.one (.t (sQ false xs)),.one (.t (.f 147 [] []))] (aU (qF (.of (aJ p (xs.map Fr4.q))))):=by
 refine cC Tryz.func51 rfl Tryz.ntmps51 rfl aB rfl fun N w c0 h0=>?_
 have hz:∀x∈xs,Sz 68719476736 x.q:=fun x h=>(show Qn x x.q from⟨hx x h,rfl⟩).sz
 refine sq (rl (bx 0 ?_));refine al 1 ?_;refine nl (sq (rl (ld ?_)));refine ca (kS ha) mT ⟨aD rfl,rfl⟩ (qF (.of p)) ?_
 refine ca (iL (z:=0) (by omega) (by omega)) qN ⟨a1 rfl,rfl⟩ (qF (.of ((0:Int):Rat))) ?_
 refine ca (Eb ha.sz) Gc ⟨aD rfl,aD rfl,rfl⟩ (qF (.of p)) ?_;refine al 2 ?_;refine st ?_;refine nl (sq (sq (rl ?_)));(iterate 3 refine o1 ?_);refine nl ?_
 refine bl ?_
 refine lp (γ:=Nat) (fun k=>bS [(2,.one (.t (.f 147 [] []))),(6,.one (.pt 0 0)),(7,.one (.pt 1 0)),(14,.one (.t (sQ false xs))),(15,.one (tv (.int .i64 ((xs.length:Nat):Int)))),(16,.one (tv (.int .i64 ((k:Nat):Int))))]) (fun k=>[(⟨48,0,[tv (.bool false),tv (.slice none 0 0),tv (.bool false),tv (.slice none 0 0)]⟩:Ob),⟨48,0,((Fr4.of (aJ p ((xs.take k).map Fr4.q))).tr false).map .t⟩].map some) (fun k=>k≤xs.length∧Sz 68719476736 (aJ p ((xs.take k).map Fr4.q))) (fun k=>xs.length-k) 0 ⟨Nat.zero_le _,ha.sz⟩ (aW h0 [1,2] ⟨oe rfl rfl,aC rfl,rfl⟩) fun k hk=>?_
 refine sq (rl (o1 ?_));refine nl (sq ?_);refine bL rfl (fun h1=>?_) (fun h1=>?_)
 ·refine sk (sq (bl (sq (rl (o1 ?_)))));refine eE ((cZ xs (k)).tr false) (iE xs (k:=k) (by omega)) ?_
  refine al 2 ?_;refine st ?_;refine nl (sq ?_);refine rd [0,1,2] (fun i=>[].contains i) mixed ?_
  refine dv 0 ?_;refine aO 1 ?_;refine dv 2 ?_;refine aO 4 ?_
  refine xS 3 3 [.agg [tv (.bool (aM (aJ p ((xs.take k).map Fr4.q)).num)),.t (sU false (dg 4294967296 (aJ p ((xs.take k).map Fr4.q)).num.natAbs)),tv (.bool false),.t (sU false (dg 4294967296 (aJ p ((xs.take k).map Fr4.q)).den))]] rfl rfl (Yd (a:=.of (aJ p ((xs.take k).map Fr4.q)))) IB ⟨rfl,rfl⟩ ?_
  refine xS 5 3 [qF (cZ xs (k))] rfl rfl (Yc (a:=.of (aJ p ((xs.take k).map Fr4.q))) (b:=(cZ xs (k))) (Qn.of (p:=(aJ p ((xs.take k).map Fr4.q))) hk.2) ⟨hx _ (fK (by omega)),rfl⟩) IC ⟨rfl,rfl⟩ ?_
  refine aV ?_;refine bL rfl (fun h2=>?_) (fun h2=>?_)
  ·refine rl (ld ?_);refine ca (kS ⟨hx _ (fK (by omega)),rfl⟩) mT ⟨aD rfl,rfl⟩ (qF (.of (cZ xs (k)).q)) ?_
   refine ca (iL (z:=0) (by omega) (by omega)) qN ⟨a1 rfl,rfl⟩ (qF (.of ((0:Int):Rat))) ?_
   refine ca (Eb (hz _ (fK (by omega)))) Gc ⟨aD rfl,aD rfl,rfl⟩ (qF (.of (cZ xs (k)).q)) ?_
   refine st ?_;refine nl (rl (o1 ?_));refine aZ 30 (k+1) ?_
   refine o1 ?_;refine nl ?_;have hst:(aJ p ((xs.take (k+1)).map Fr4.q))=(cZ xs k).q:=by rw[uN (by omega),tI];exact if_pos h2
   exact⟨k+1,by omega,⟨by omega,by rw[hst];exact hz _ (fK (by omega))⟩,aW h0 [0,1] ⟨oe rfl rfl,aC (congrArg (fun q=>some (⟨48,0,((Fr4.of q).tr false).map .t⟩:Ob)) hst.symm),rfl⟩⟩
  refine sk (rl (o1 ?_));refine aZ 30 (k+1) ?_
  refine o1 ?_;refine nl ?_;have hst:(aJ p ((xs.take (k+1)).map Fr4.q))=(aJ p ((xs.take k).map Fr4.q)):=by rw[uN (by omega),tI];exact if_neg h2
  exact⟨k+1,by omega,⟨by omega,by rw[hst];exact hk.2⟩,aW h0 [0,1] ⟨oe rfl rfl,aC (congrArg (fun q=>some (⟨48,0,((Fr4.of q).tr false).map .t⟩:Ob)) hst.symm),rfl⟩⟩
 refine ex (sq (rl (ld ?_)));refine st ?_;refine nl (rt ?_)
 exact en (.inl rfl) rfl (bD (.agg (.cons (.id rfl) (.cons (.id rfl) (.cons (.id rfl) (.cons (.id rfl) .nil)))))) (by decide) (fun h=>by cases h) (by rw[fF (by omega)];rfl)
theorem UW {a:Fr4}{p:Rat}{xs:List Fr4}(ha:Qn a p) (hx:∀x∈xs,x.ok) (hl:xs.length≤1099511627776):aG false Tryz.prog 129 [] [qF a,.one (.t (sQ false xs))] (aU (qF (.of (aJ p (xs.map Fr4.q))))):=by
 refine cC Tryz.func129 rfl Tryz.ntmps129 rfl aB rfl fun N w c0 h0=>?_
 refine sq (rl (bx 0 ?_));refine al 1 ?_;refine nl (sq (rl (ld ?_)));refine o1 ?_
 refine ca (PJ ha hx hl) PK ⟨aD rfl,a1 rfl,a1 rfl,rfl⟩ (qF (.of (aJ p (xs.map Fr4.q)))) ?_;refine st ?_;refine nl (rt ?_)
 exact en (.inl rfl) rfl (bD (.agg (.cons (.id rfl) (.cons (.id rfl) (.cons (.id rfl) (.cons (.id rfl) .nil)))))) (by decide) (fun h=>by cases h) (rfl)
theorem uO {y:Int}{a:Fr4}{p:Rat}(ha:Qn a p):aG true Tryz.prog 103 [] [.agg (((Tr.v (.int .i64 y)::a.tr false):List Tr).map .t)] (aU (.agg ((cT true (y,p)).map .t))):=by
 refine cC Tryz.func103 rfl Tryz.ntmps103 rfl aB rfl fun N w c0 h0=>?_
 refine sq (rl (bx 0 ?_));refine al 1 ?_;refine nl (sq ?_);refine rd [0,1] (fun i=>[7].contains i) mixed ?_
 refine dv 0 ?_;refine aO 1 ?_;refine dv 2 ?_;refine aO 3 ?_;refine aX 4 rfl (iL (z:=0) (by omega) (by omega)) qN ⟨a1 rfl,rfl⟩ (qF (.of ((0:Int):Rat))) ?_
 refine jX 2 5 rfl (PL ha) Gd ⟨aD rfl,aD rfl,rfl⟩ ?_;refine df 6 ?_;refine dst 7 ?_;refine aV ?_;refine rt ?_
 exact en (.inl rfl) rfl (bD (.agg (.cons (.id rfl) (.cons (.id rfl) (.cons (.sl (trs:=aI (dg 4294967296 p.num.natAbs)) rfl rfl (bP _) (aP _)) (.cons (.id rfl) (.cons (.sl (trs:=aI (dg 4294967296 p.den)) rfl rfl (bP _) (aP _)) .nil))))))) (by decide) (fun _=>DQ (y,p)) rfl
theorem Ye {vs:List (Int×Rat)}{rest:List Tr}(hz:∀x∈vs,Sz 68719476736 x.2) (hl:vs.length≤1073741823):aG true Tryz.prog 73 [] [.one (.ef (sV 102 false vs::rest) 0)] (aU (.one (.t (sO 102 vs)))):=by
 refine cC Tryz.func73 rfl Tryz.ntmps73 rfl aB rfl fun N w c0 h0=>?_
 refine sq (rl (o1 ?_));refine nl (sq (rl (o1 ?_)));refine nl (sq (sq (rl ?_)));(iterate 3 refine o1 ?_)
 refine eE ([(sV 102 false vs)]) rfl ?_;refine o1 ?_;refine o1 ?_;refine nl (bl ?_)
 refine lp (γ:=Nat) (fun k=>bS [(3,.one (.sl 0 0 k)),(9,.one (.t (sV 102 false vs))),(10,.one (tv (.int .i64 ((vs.length:Nat):Int)))),(11,.one (tv (.int .i64 ((k:Nat):Int))))]) (fun k=>[({t:=102,z:=5,l:=pZ (vs.take k)}:Ob)].map some) (fun k=>k≤vs.length) (fun k=>vs.length-k) 0 (Nat.zero_le _) ((nr (i:=3) 0 102 5 rfl rfl rfl rfl).trans (aW h0 [0] ⟨oe rfl rfl,rfl⟩)) fun k hk=>?_
 refine sq (rl (o1 ?_));refine nl (sq ?_);refine bL rfl (fun h1=>?_) (fun h1=>?_)
 ·refine sk (sq (bl (sq (rl (o1 ?_)))));refine eE (cT false (aH vs (k))) (uP false (by omega)) ?_
  refine al 1 ?_;refine st ?_;refine nl (rl (o1 ?_));refine ld ?_
  refine iM 2 (uO (y:=(aH vs (k)).1) (Qn.of (p:=(aH vs (k)).2) (hz _ (mQ (by omega))))) Ec ⟨aD rfl,rfl⟩ ?_
  refine bs 4 ?_;refine iN (j:=5) aB rfl rfl rfl rfl (.sl rfl (by rw[uQ,eA,Nat.min_eq_left hk])) (.sl rfl rfl rfl) rfl rfl rfl (by omega) (by omega) ?_
  refine o1 ?_;refine nl (rl (o1 ?_));refine aZ 20 (k+1) ?_
  refine o1 ?_;refine nl ?_;have hst:pZ (vs.take (k+1))=pZ (vs.take k++[((aH vs k).1,(aH vs k).2)]):=by rw[lG (by omega)]
  exact⟨k+1,by omega,by omega,(PM (j:=5) (k1:=2) (k2:=3) (us:=vs.take k) rfl rfl rfl rfl rfl rfl).trans (aW h0 [5] ⟨aC (congrArg (fun l=>some (⟨102,5,l⟩:Ob)) hst.symm),rfl⟩)⟩
 refine ex (sq (rl (o1 ?_)));refine o1 ?_;refine nl (rt ?_);have hkk:vs.take k=vs:=fF (by omega)
 have hkn:k=vs.length:=by omega
 exact en (.inl rfl) rfl (bD (.one (.sl (trs:=(vs.take k).flatMap (cT true)) rfl rfl (by rw[fF (by rw[uQ,eA];omega)];rfl) (by rw[bM,eA,Nat.min_eq_left hk])))) (by decide) (fun _=>by rw[hkk];exact .inl ⟨rfl,Rm vs⟩) (by rw[hkk,hkn];rfl)
theorem Yf {vs:List (Int×Rat)}{rest:List Tr}(hz:∀x∈vs,Sz 68719476736 x.2) (hl:vs.length≤1073741823):aG true Tryz.prog 40 [] [.one (.ef (sV 102 false vs::rest) 0)] (aU (.one (.t (sO 102 vs)))):=by
 refine cC Tryz.func40 rfl Tryz.ntmps40 rfl aB rfl fun N w c0 h0=>?_
 refine sq (rl (o1 ?_));refine nl (sq (sq (rl (o1 ?_))));refine o1 ?_;refine nl (gD rfl (sk (sq (rl ?_))))
 (iterate 3 refine o1 ?_);refine iM 0 (Ye hz hl) PN ⟨xT rfl .ef,rfl⟩ ?_;refine o1 ?_;refine nl (rt ?_)
 exact en (.inl rfl) rfl (bD (.one (.sl (trs:=vs.flatMap (cT true)) rfl rfl (aN _ _ (bM true vs)) (bM true vs)))) (by decide) (fun _=>KY _ _) rfl
theorem UX:aG true Tryz.prog 38 [] [] (aU (.one (.t (.p true 137 [sR 102 [],.v (.int .i64 0),.v (.bool false)])))):=by
 refine cC Tryz.func38 rfl Tryz.ntmps38 rfl aB rfl fun N w c0 h0=>?_
 refine sq (rl (o1 ?_));refine nl (sq (rl (o1 ?_)));refine bx 0 ?_
 refine WL.sub ((yR (j:=0) (key:=1) (e:=102) (z:=5) rfl rfl rfl (.sl (.id (.id .nil)))).trans (iH (j:=0) (k:=1) (p:=0) (n:=0) (trs:=[]) rfl rfl rfl rfl rfl rfl rfl rfl)) ?_
 refine o1 ?_;refine nl (rt ?_)
 exact en (.inl rfl) rfl (bD (.one (.pt (k:=0) (trs:=[sR 102 [],.v (.int .i64 0),.v (.bool false)]) rfl))) (by decide) (fun _=>⟨rfl,.inl ⟨rfl,trivial⟩,trivial,trivial,trivial⟩) rfl
end Go.Proofs.YtbbabfkgdnkehaaGreat
