/- Part 8 of a proof: Av27 to A4. -/
import Derived.Test.YtimiaildfkimfaaGreatDoorM7
import Derived.Lib.ConvBytes
import Derived.Lib.SmallJoins
import Derived.Stop.IfaceNil
import Derived.Test.YtimiaildfkimfaaGreatDoorM6
set_option maxRecDepth 100000
set_option linter.unusedVariables false
set_option linter.unusedSimpArgs false
namespace Go.Proofs.YtimiaildfkimfaaGreatDoor
open Go Go.RowKit
section
variable {x:Cx}{g:Nat->FV}{ob ob':List (Option Ob)}{cs:List Co}{ts:Array Value}{W:World}{T:List (Nat×TI)}{Q:Post}{ops:Array Oper}{rest:List Oper}{d:Nat}{ty:TypeId}{pos:String}{af:Array Edge}{gd:Option (Nat×Bool)}
end
def jT (l:List Nat):Nat:=l.foldl (fun n c=>n*10+(c-48)) 0
theorem aCZ {l:List Nat}{k:Nat}(h:k<l.length):jT (l.take k)*10+(nth l k-48)=jT (l.take (k+1)):=by
 have e:l[k]? =some (nth l k):=by rw[dT h];simp[h]
 rw[List.take_add_one,e]
 simp[jT]
theorem LT:∀{l:List Nat}{k:Nat},(∀c∈l,48<=c/\c<=57)->k<=l.length->jT (l.take k)<10^k
 | l,0,_,_=>by simp[jT]
 | l,k+1,h,hk=>by
  have ih:=LT (k:=k) h (by omega)
  have h2:=h (nth l k) (by rw[dT (by omega)];exact List.getElem_mem _)
  rw[<-aCZ (by omega),Nat.pow_succ]
  omega
section
variable {f:FuncId}{args:List FV}
theorem tV {xs:List Nat}(h:∀(N:Nat->Prop) (w:World) us,dM w N [] args us->(∀b,N b->b<w.heap.size)->Calls Tryz.prog f us.toArray w (rC xs w)):aE true Tryz.prog f [] args (aP (.one (.t (sU true xs)))):=by
 intro N w cs us hL
 obtain⟨rfl,hf⟩:=vH hL
 refine(h _ w us hf (fun b hb=>hb.1)).mono ?_
 rintro e W ⟨A,n,c,rfl,ho,hb⟩
 obtain⟨y1,a1,a2,a3,a4⟩:=xW (N:=fun b=>true=false/\(b<W.heap.size/\b∉VT.fpL [])/\(N b\/w.heap.size<=b)) ho
 refine .mk0 (y:=[y1]) rfl hb (by simp only[VT.okL];exact⟨a3,trivial⟩) ?_ (fun b hb'=>?_) ?_
 ·simp only[VT.fpL,a4,List.append_nil]
  cases A <;> simp[Value.ownBlock]
 ·simp only[VT.fpL,a4,List.append_nil]at hb'
  exact ho.blk b hb'
 exact⟨y1,rfl,a1.symm,mG (fun _ _=>rfl) (fun b hb=>absurd hb.1 (by simp)) _ _ a2⟩
variable {xs ys:List Nat}
theorem mQ {W:World}{N:Nat->Prop}{v:Value}(h:cE W N [] (.one (.t (sU false xs))) v) (hl:Lim 4294967296 xs) (hN:∀b,N b->b<W.heap.size):∃A c,v=.slice A xs.length c/\U32 W W.heap.size A xs.length c xs:=by
 simp only[cE,AR]at h
 obtain⟨A,c,rfl,l⟩:=Ks h hl
 exact⟨A,c,rfl,l.u32 hN⟩
theorem ZD (hx:Lim 4294967296 xs) (h:xs.length<=1099511627776):aE true Tryz.prog 149 [] [.one (.t (sU false xs))] (aP (.one (.t (sU true (trim xs))))):=tV fun N w us hf hN=>by
 obtain⟨u,rfl,h1⟩:=Xj hf
 obtain⟨A,c,rfl,u1⟩:=mQ h1 hx hN
 exact gU A _ c xs w u1 h
theorem Xb (hx:Lim 4294967296 xs) (h:xs.length<=1099511627776):aE true Tryz.prog 201 [] [.one (.t (sU false xs))] (aP (.one (.t (sU true xs)))):=tV fun N w us hf hN=>by
 obtain⟨u,rfl,h1⟩:=Xj hf
 obtain⟨A,c,rfl,u1⟩:=mQ h1 hx hN
 exact vB A _ c xs w u1 h
theorem aBB (hx:Lim 4294967296 xs) (hy:Lim 4294967296 ys):aE true Tryz.prog 232 [] [.one (.t (sU false xs)),.one (.t (sU false ys))] (aP (.one (tv (.int .i64 (sK (vl 4294967296 xs) (vl 4294967296 ys)))))):=sL fun N w us hf hN=>by
 obtain⟨u,v,rfl,h1,h2⟩:=uE hf
 obtain⟨A,c,rfl,u1⟩:=mQ h1 hx hN
 obtain⟨B,d,rfl,u2⟩:=mQ h2 hy hN
 exact(vW A B _ _ c d xs ys _ w u1 u2).mono fun e W ⟨he,k,hk⟩=>⟨he,hk▸iZ (Below.refl _ _) k⟩
theorem LU (hx:Lim 4294967296 xs) (hy:Lim 4294967296 ys) (h:xs.length<=1099511627776) (h':ys.length<=1099511627776):aE true Tryz.prog 218 [] [.one (.t (sU false xs)),.one (.t (sU false ys))] (aP (.one (.t (sU true (dg 4294967296 (vl 4294967296 xs+vl 4294967296 ys)))))):=tV fun N w us hf hN=>by
 obtain⟨u,v,rfl,h1,h2⟩:=uE hf
 obtain⟨A,c,rfl,u1⟩:=mQ h1 hx hN
 obtain⟨B,d,rfl,u2⟩:=mQ h2 hy hN
 exact IG A B _ _ c d xs ys w u1 u2 h h'
theorem aBC (hx:Lim 4294967296 xs) (hy:Lim 4294967296 ys) (h:xs.length<=549755813888) (h':ys.length<=549755813888):aE true Tryz.prog 192 [] [.one (.t (sU false xs)),.one (.t (sU false ys))] (aP (.one (.t (sU true (dg 4294967296 (vl 4294967296 xs*vl 4294967296 ys)))))):=tV fun N w us hf hN=>by
 obtain⟨u,v,rfl,h1,h2⟩:=uE hf
 obtain⟨A,c,rfl,u1⟩:=mQ h1 hx hN
 obtain⟨B,d,rfl,u2⟩:=mQ h2 hy hN
 exact PO A B _ _ c d xs ys w u1 u2 h h'
theorem JB {W:World}{N:Nat->Prop}{t:Nat}{v:Value}(h:cE W N [] (.one (.t (.s false t 1 2 [sU false xs,sU false ys]))) v) (hx:Lim 4294967296 xs) (hy:Lim 4294967296 ys) (hN:∀b,N b->b<W.heap.size):∃A c,v=.slice A 2 c/\URows W W.heap.size A 2 c [xs,ys]:=by
 simp only[cE,AR,FR]at h
 obtain⟨A,c,rfl,h1,h2,_,h4⟩:=h
 rcases h4 with h4 | ⟨ad,rfl,h5,h6⟩
 ·omega
 obtain⟨u0,e0,f0⟩:=rP h6 (j:=0) rfl
 obtain⟨u1,e1,f1⟩:=rP h6 (j:=1) rfl
 obtain⟨A0,c0,rfl,l0⟩:=Ks f0 hx
 obtain⟨A1,c1,rfl,l1⟩:=Ks f1 hy
 rw[Nat.zero_add]at e0 e1
 refine⟨_,c,rfl,rfl,h1,h2,fun k hk=>?_⟩
 obtain⟨b,o,sp⟩:=ad
 match k,hk with
 | 0,_=>exact⟨b,o,sp,A0,_,c0,rfl,hN _ h5,e0,l0.u32 hN⟩
 | 1,_=>exact⟨b,o,sp,A1,_,c1,rfl,hN _ h5,e1,l1.u32 hN⟩
theorem aBD {t:Nat}(hx:Lim 4294967296 xs) (hy:Lim 4294967296 ys) (h:xs.length<=549755813888) (h':ys.length<=549755813888):aE true Tryz.prog 220 [] [.one (.t (.s false t 1 2 [sU false xs,sU false ys]))] (aP (.one (.t (sU true (dg 4294967296 (vX [xs,ys])))))):=tV fun N w us hf hN=>by
 obtain⟨u,rfl,h1⟩:=Xj hf
 obtain⟨A,c,rfl,u1⟩:=JB h1 hx hy hN
 exact PV A 2 c [xs,ys] w u1 (by omega) (fun k hk=>by match k,hk with | 0,_=>exact h | 1,_=>exact h')
theorem Bn (A:Option Addr) (n c:Nat):((Value.slice A n c).ownBlock.toList).Nodup:=by cases A <;> simp[Value.ownBlock]
theorem Zt (hx:Lim 4294967296 xs) (hy:Lim 4294967296 ys) (h:xs.length<=1099511627776) (hle:vl 4294967296 ys<=vl 4294967296 xs):aE true Tryz.prog 219 [] [.one (.t (sU false xs)),.one (.t (sU false ys))] (aP (.tup [.one (.t (sU true (dg 4294967296 (vl 4294967296 xs-vl 4294967296 ys)))),.one (tv (.int .i64 0))])):=by
 intro N w cs us hL
 obtain⟨rfl,hf⟩:=vH hL
 obtain⟨u,v,rfl,h1,h2⟩:=uE hf
 obtain⟨A,c,rfl,u1⟩:=mQ h1 hx fun b hb=>hb.1
 obtain⟨B,d,rfl,u2⟩:=mQ h2 hy fun b hb=>hb.1
 refine(IH A B _ _ c d xs ys w u1 u2 h hle).mono ?_
 rintro e W ⟨A,n,c,rfl,ho,hb⟩
 obtain⟨y1,a1,a2,a3,a4⟩:=xW (N:=fun b=>true=false/\(b<W.heap.size/\b∉VT.fpL [])/\(N b\/w.heap.size<=b)) ho
 refine .mk0 (y:=[y1,.w (.int .i64 0)]) rfl hb (by simp only[VT.okL,VT.ok];exact⟨a3,trivial,trivial⟩) ?_ (fun b hb'=>?_) ?_
 ·simp only[VT.fpL,VT.fp,a4,List.append_nil]
  exact Bn A n c
 ·simp only[VT.fpL,VT.fp,a4,List.append_nil]at hb'
  exact ho.blk b hb'
 refine⟨[_,_],rfl,?_⟩
 exact⟨_,_,[y1],[.w (.int .i64 0)],rfl,rfl,⟨y1,rfl,a1.symm,mG (fun _ _=>rfl) (fun b hb=>absurd hb.1 (by simp)) _ _ a2⟩,_,_,[.w (.int .i64 0)],[],rfl,rfl,⟨_,rfl,rfl,by simp[CR,tv,OR]⟩,rfl,rfl⟩
theorem JC (hx:Lim 4294967296 xs) (hy:Lim 4294967296 ys) (h:xs.length<=549755813888) (h':ys.length<=549755813888) (h0:vl 4294967296 ys≠0):aE true Tryz.prog 217 [] [.one (.t (sU false xs)),.one (.t (sU false ys))] (aP (.tup [.one (.t (sU true (dg 4294967296 (vl 4294967296 xs/vl 4294967296 ys)))),.one (.t (sU true (dg 4294967296 (vl 4294967296 xs%vl 4294967296 ys)))),.one (tv (.int .i64 0))])):=by
 intro N w cs us hL
 obtain⟨rfl,hf⟩:=vH hL
 obtain⟨u,v,rfl,h1,h2⟩:=uE hf
 obtain⟨A,c,rfl,u1⟩:=mQ h1 hx fun b hb=>hb.1
 obtain⟨B,d,rfl,u2⟩:=mQ h2 hy fun b hb=>hb.1
 refine(Jb A B _ _ c d xs ys w u1 u2 h h' h0).mono ?_
 rintro e W ⟨A1,n1,c1,A2,n2,c2,rfl,ho,ho2,hap,hb⟩
 obtain⟨y1,a1,a2,a3,a4⟩:=xW (N:=fun b=>true=false/\(b<W.heap.size/\b∉VT.fpL [])/\(N b\/w.heap.size<=b)) ho
 obtain⟨y2,b1,b2,b3,b4⟩:=xW (N:=fun b=>true=false/\(b<W.heap.size/\b∉VT.fpL [])/\(N b\/w.heap.size<=b)) ho2
 refine .mk0 (y:=[y1,y2,.w (.int .i64 0)]) rfl hb (by simp only[VT.okL,VT.ok];exact⟨a3,b3,trivial,trivial⟩) ?_ (fun b hb'=>?_) ?_
 ·simp only[VT.fpL,VT.fp,a4,b4,List.append_nil]
  rw[List.nodup_append]
  refine⟨Bn ..,Bn ..,fun x hx y hy e=>?_⟩
  subst e
  rcases A1 with _ | a
  ·simp[Value.ownBlock]at hx
  rcases A2 with _ | b
  ·simp[Value.ownBlock]at hy
  simp[Value.ownBlock]at hx hy
  exact hap a b rfl rfl (by rw[<-hx,<-hy])
 ·simp only[VT.fpL,VT.fp,a4,b4,List.append_nil]at hb'
  rcases List.mem_append.1 hb' with hb' | hb'
  ·exact ho.blk b hb'
  exact ho2.blk b hb'
 refine⟨[_,_,_],rfl,?_⟩
 exact⟨_,_,[y1],[y2,.w (.int .i64 0)],rfl,rfl,⟨y1,rfl,a1.symm,mG (fun _ _=>rfl) (fun b hb=>absurd hb.1 (by simp)) _ _ a2⟩,_,_,[y2],[.w (.int .i64 0)],rfl,rfl,⟨y2,rfl,b1.symm,mG (fun _ _=>rfl) (fun b hb=>absurd hb.1 (by simp)) _ _ b2⟩,_,_,[.w (.int .i64 0)],[],rfl,rfl,⟨_,rfl,rfl,by simp[CR,tv,OR]⟩,rfl,rfl⟩
end
section
variable {xs:List Nat}
theorem Zu {d:Nat}(hx:Lim 4294967296 xs) (h:xs.length<=1099511627776) (hd0:0<d) (hd:d<4294967296):aE true Tryz.prog 150 [] [.one (.t (sU false xs)),.one (tv (.int .u32 (d:Int)))] (aP (.tup [.one (.t (sU true (dg 4294967296 (vl 4294967296 xs/d)))),.one (tv (.int .u32 ((vl 4294967296 xs%d:Nat):Int))),.one (tv (.int .i64 0))])):=by
 intro N w cs us hL
 obtain⟨rfl,hf⟩:=vH hL
 obtain⟨u,v,rfl,h1,h2⟩:=uE hf
 obtain⟨A,c,rfl,u1⟩:=mQ h1 hx fun b hb=>hb.1
 obtain rfl:=bE (gH h2)
 refine(uC A _ c d xs w u1 h hd0 hd).mono ?_
 rintro e W ⟨A,n,c,rfl,ho,hb⟩
 obtain⟨y1,a1,a2,a3,a4⟩:=xW (N:=fun b=>true=false/\(b<W.heap.size/\b∉VT.fpL [])/\(N b\/w.heap.size<=b)) ho
 refine .mk0 (y:=[y1,.w (.int .u32 ((vl 4294967296 xs%d:Nat):Int)),.w (.int .i64 0)]) rfl hb (by simp only[VT.okL,VT.ok];exact⟨a3,trivial,trivial,trivial⟩) ?_ (fun b hb'=>?_) ?_
 ·simp only[VT.fpL,VT.fp,a4,List.append_nil]
  exact Bn A n c
 ·simp only[VT.fpL,VT.fp,a4,List.append_nil]at hb'
  exact ho.blk b hb'
 refine⟨[_,_,_],rfl,?_⟩
 exact⟨_,_,[y1],[.w _,.w (.int .i64 0)],rfl,rfl,⟨y1,rfl,a1.symm,mG (fun _ _=>rfl) (fun b hb=>absurd hb.1 (by simp)) _ _ a2⟩,_,_,[.w _],[.w (.int .i64 0)],rfl,rfl,⟨_,rfl,rfl,by simp[CR,tv,OR]⟩,_,_,[.w (.int .i64 0)],[],rfl,rfl,⟨_,rfl,rfl,by simp[CR,tv,OR]⟩,rfl,rfl⟩
theorem MW {v:Nat}(hx:Lim 4294967296 xs) (h:xs.length<=1099511627776) (hv:vl 4294967296 xs=v):aE true Tryz.prog 149 [] [.one (.t (sU false xs))] (aP (.one (.t (sU true (dg 4294967296 v))))):=by
 have e:=fR (B:=4294967296) (by omega) hx
 rw[<-hv,e]
 exact ZD hx h
theorem SU {u d:Nat}(h:(dg 4294967296 u).length<=1099511627776) (hd0:0<d) (hd:d<4294967296):aE true Tryz.prog 150 [] [.one (.t (sU false (dg 4294967296 u))),.one (tv (.int .u32 (d:Int)))] (aP (.tup [.one (.t (sU true (dg 4294967296 (u/d)))),.one (tv (.int .u32 ((u%d:Nat):Int))),.one (tv (.int .i64 0))])):=by
 have e:=cL (B:=4294967296) (by omega) u
 have h2:=Zu (xs:=dg 4294967296 u) (d:=d) (aU (by omega) _) h hd0 hd
 rw[e]at h2
 exact h2
end
theorem Sl {α:Type}{p:α->Bool}:∀{l:List α},l.dropWhile p=[]↔∀x∈l,p x=true
 | []=>by simp
 | x::l=>by
  rw[List.dropWhile_cons]
  by_cases h:p x=true
  ·rw[if_pos h,Sl];simp[h]
  rw[if_neg h];simp[h]
theorem ER {xs:List Nat}(hx:xs.length<=4398046511104):aE false Tryz.prog 226 [] [.one (.t (sI false xs))] (aP (.one (.t (sI false (trim xs))))):=by
 refine bD Tryz.func226 Tryz.ntmps226 fun N w c0 h0=>?_
 refine sq (rl (o1 ?_));refine nl (sq (bl ?_))
 refine lp (γ:=List Nat) (fun zs=>bP [(0,.one (.t (sI false zs)))]) (fun _=>([]:List Ob).map some) (fun zs=>trim zs=trim xs/\zs.length<=xs.length) (fun zs=>zs.length) xs ⟨rfl,aX _⟩ (aH h0 [] rfl) fun zs hz=>?_
 refine sq (sq (rl ?_));(iterate 4 refine o1 ?_);refine WL.split (t:=6) rfl (fun h1=>?_) (fun h1=>?_)
 ·(iterate 4 refine o1 ?_);refine aY 10 (zs.length-1) ?_
  refine o1 ?_;refine cX ([.v (.int .i64 ((nth zs (zs.length-1):Nat):Int))]) (fD zs (k:=zs.length-1) (by omega)) ?_
  refine o1 ?_;refine o1 ?_;refine nl ?_;refine aV rfl (fun h2=>?_) (fun h2=>?_)
  ·refine sk (bl (rl ?_));(iterate 4 refine o1 ?_);refine aY 18 (zs.length-1) ?_
   refine o1 ?_;refine o1 ?_;refine nl ?_
   exact⟨zs.take (zs.length-1),by rw[dU];omega,⟨(by rw[Bi (xs:=zs) (k:=zs.length) (by omega) (aX _) (by omega),List.take_length];exact hz.1),by rw[dU];omega⟩,dC h0 [] _ _ (by decide) ⟨congrArg some (EH (by omega)).symm,trivial⟩ rfl⟩
  refine ex (sq (rl (o1 ?_)));refine o1 ?_;refine nl (rt ?_);refine en (.inl rfl) rfl (bB (.one (.id rfl))) (by decide) (fun h=>by cases h) ?_
  have hx:trim xs=zs:=by
   rw[<-hz.1];have h9:=wB (xs:=zs) (k:=zs.length) (by omega) (aX _) (by omega)
   rwa[List.take_length]at h9
  rw[hx];rfl
 (iterate 7 refine aW ?_);refine o1 ?_;refine nl (dY rfl (ex (sq (rl (o1 ?_)))));refine o1 ?_;refine nl (rt ?_)
 refine en (.inl rfl) rfl (bB (.one (.id rfl))) (by decide) (fun h=>by cases h) ?_
 have hx:trim xs=zs:=by
  have h9:zs=[]:=List.eq_nil_of_length_eq_zero (by omega)
  rw[<-hz.1,h9];rfl
 rw[hx];rfl
theorem mT {xs:List Nat}(hx:xs.length<=1099511627776) (hl:Lim 4294967296 xs):aE false Tryz.prog 185 [] [.one (.t (sU false xs))] (aP (.one (.t (sI false (dg 65536 (vl 4294967296 xs)))))):=by
 refine bD Tryz.func185 Tryz.ntmps185 fun N w c0 h0=>?_
 refine sq (rl (o1 ?_));refine nl (sq (rl (o1 ?_)));refine nl (sq (sq (rl (o1 ?_))));refine nl (bl ?_)
 refine lp (γ:=Nat) (fun k=>bP [(0,.one (.t (sU false xs))),(3,.one (.sl 0 0 (2*k))),(4,iN k)]) (fun k=>[(⟨3,1,(eR (hv (xs.take k))).map .t⟩:Ob)].map some) (fun k=>k<=xs.length) (fun k=>xs.length-k) 0 (Nat.zero_le _) ((nr (i:=3) 0 3 1 rfl rfl rfl rfl).trans (aH h0 [0] ⟨aD (l:=[]) rfl,rfl⟩)) fun k hk=>?_
 have hn:=hl.nth (by omega) k
 refine sq (sq (rl ?_));(iterate 4 refine o1 ?_);refine nl ?_;refine aV rfl (fun h1=>?_) (fun h1=>?_)
 ·refine sk (sq (bl ?_));refine bU [] [15] ?_
  refine dv 0 ?_;refine dv 1 ?_;refine dv 2 ?_;refine dv 3 ?_;refine dQ 4 ([.v (.int .u32 ((nth xs (k):Nat):Int))]) (pD xs (k:=k) (by omega)) ?_
  refine dv 5 ?_;refine WD.cast (t:=16) (u':=.int .u32 ((nth xs k%65536:Nat):Int)) rfl (dN (lG _ 65536)) ?_;refine dv 6 ?_;refine dv 7 ?_;refine dv 8 ?_;refine dv 9 ?_
  refine dQ 10 ([.v (.int .u32 ((nth xs (k):Nat):Int))]) (pD xs (k:=k) (by omega)) ?_
  refine dv 11 ?_ (hC:=(jC 65536 (by omega) (by simp only[jU];omega)))
  refine WD.cast (t:=22) (u':=.int .u32 ((nth xs k/65536:Nat):Int)) rfl (dN (gI _ 65536)) ?_;refine dv 12 ?_;refine dA (key:=1) 13 (by kernel_rfl) rfl rfl aR rfl trivial ?_
  refine LH (j:=2) 14 rfl aR rfl rfl rfl (.sl rfl (by rw[dP,kY,vY,dU];omega)) (.sl rfl rfl rfl) rfl rfl (by omega) (by omega) rfl rfl (by kernel_rfl) rfl ?_
  refine bM 15 ?_
  refine aJ ?_;refine rl ?_;(iterate 3 refine o1 ?_);refine nl ?_
  exact⟨k+1,by omega,by omega,aH h0 [2] ⟨rE rfl (kZ _ [nth xs k%65536,nth xs k/65536]) (Wo (by omega)).symm,rfl⟩⟩
 refine ex (sq (rl (WL.sub (Cc (i:=3) (zs':=hv xs) rfl rfl rfl (by rw[vY,dU];omega) (by rw[cT (by omega)])) ?_)))
 refine o1 ?_;refine ca (ER (by rw[vY];omega)) aA (bC rfl) _ ?_
 refine o1 ?_;refine nl (rt ?_);exact en (.inl rfl) rfl (bB (.one (.id rfl))) (by decide) (fun h=>by cases h) (by rw[LQ hl];rfl)
theorem zR {xs:List Nat}(hx:xs.length<=4398046511104) (hl:Lim 65536 xs):aE true Tryz.prog 186 [] [.one (.t (sI false xs))] (aP (.one (.t (sU true (dg 4294967296 (vl 65536 xs)))))):=by
 refine bD Tryz.func186 Tryz.ntmps186 fun N w c0 h0=>?_
 refine sq (rl (o1 ?_));refine nl (sq (rl (o1 ?_)));refine nl (sq (rl (o1 ?_)))
 refine ca (ER hx) aA (bC rfl) _ ?_;refine o1 ?_;refine nl (sq (sq ?_));have htl:=dH xs
 have hlt:=hl.trim
 generalize hY:trim xs=ys at htl hlt;refine rl (o1 ?_);refine nl (bl ?_)
 refine lp (γ:=Nat) (fun k=>bP [(0,.one (.t (sI false ys))),(3,.one (.sl 0 0 k)),(4,iN (2*k))]) (fun k=>[(⟨223,1,(bF (lb (ys.take (2*k)))).map .t⟩:Ob)].map some) (fun k=>2*k<=ys.length+1) (fun k=>ys.length+1-2*k) 0 (Nat.zero_le _) ((nr (i:=3) 0 223 1 rfl rfl rfl rfl).trans (aH h0 [0] ⟨aD (l:=[]) rfl,rfl⟩)) fun k hk=>?_
 have hn:=hlt.nth (by omega) (2*k)
 have hn2:=hlt.nth (by omega) (2*k+1)
 refine sq (sq (rl ?_));(iterate 4 refine o1 ?_);refine nl ?_;refine aV rfl (fun h1=>?_) (fun h1=>?_)
 ·refine sk (sq (bl (sq (rl (o1 ?_)))));refine nl (sq (sq (rl (o1 ?_))));refine o1 ?_
  refine aY 15 (2*k+1) ?_
  (iterate 3 refine o1 ?_);refine nl ?_;refine aV rfl (fun h2=>?_) (fun h2=>?_)
  ·refine rl ?_;(iterate 3 refine o1 ?_);refine aY 21 (2*k+1) ?_
   refine o1 ?_;refine cX ([.v (.int .i64 ((nth ys (2*k+1):Nat):Int))]) (fD ys (k:=2*k+1) (by omega)) ?_
   refine o1 ?_;refine nl (rl ?_);(iterate 4 refine o1 ?_);refine cX ([.v (.int .i64 ((nth ys (2*k):Nat):Int))]) (fD ys (k:=2*k) (by omega)) ?_
   (iterate 5 refine o1 ?_);refine WL.cast (t:=33) (u':=.int .u32 ((nth ys (2*k)+65536*nth ys (2*k+1):Nat):Int)) rfl (dN (by omega)) ?_
   refine bs 1 ?_;refine fF (j:=2) aR rfl rfl rfl rfl (.sl rfl (by rw[dP,kS,lS,dU];omega)) (.sl rfl rfl rfl) rfl rfl rfl (by omega) (by omega) ?_
   refine o1 ?_;refine nl (rl ?_);(iterate 3 refine o1 ?_);refine nl ?_
   exact⟨k+1,by omega,by omega,aH h0 [2] ⟨EI rfl (Sd _ [nth ys (2*k)+65536*nth ys (2*k+1)]) (Eo (by omega)).symm,rfl⟩⟩
  have hz:=fP (l:=ys) (k:=2*k+1) (by omega)
  refine sk (rl ?_);(iterate 4 refine o1 ?_);refine cX ([.v (.int .i64 ((nth ys (2*k):Nat):Int))]) (fD ys (k:=2*k) (by omega)) ?_
  (iterate 5 refine o1 ?_);refine WL.cast (t:=33) (u':=.int .u32 ((nth ys (2*k)+65536*nth ys (2*k+1):Nat):Int)) rfl (dN (by omega)) ?_
  refine bs 1 ?_;refine fF (j:=2) aR rfl rfl rfl rfl (.sl rfl (by rw[dP,kS,lS,dU];omega)) (.sl rfl rfl rfl) rfl rfl rfl (by omega) (by omega) ?_
  refine o1 ?_;refine nl (rl ?_);(iterate 3 refine o1 ?_);refine nl ?_
  exact⟨k+1,by omega,by omega,aH h0 [2] ⟨EI rfl (Sd _ [nth ys (2*k)+65536*nth ys (2*k+1)]) (Eo (by omega)).symm,rfl⟩⟩
 refine ex (sq (rl (o1 ?_)));refine o1 ?_;refine nl (rt ?_)
 exact en (.inl rfl) rfl (bB (.one (.sl (trs:=bF (lb ys)) rfl rfl (by rw[cT (l:=ys) (by omega),cT (by simp[kS,lS];omega)]) (by rw[kS,lS];omega)))) (by decide) (fun _=>.inl ⟨rfl,gW _⟩) (by rw[<-En,fR (by omega) hl,hY];unfold sU;rw[show k=(lb ys).length by rw[lS];omega];rfl)
theorem uR {xs:List Nat}{k:Nat}:aE true Tryz.prog 224 [] [.one (.t (sI false xs)),.one (tv (.int .i64 ((k:Nat):Int)))] (aP (.one (tv (.int .i64 ((nth xs k:Nat):Int))))):=by
 refine bD Tryz.func224 Tryz.ntmps224 fun N w c0 h0=>?_
 refine sq (rl (o1 ?_));refine nl (sq (sq (rl ?_)));(iterate 4 refine o1 ?_);refine nl ?_;refine aV rfl (fun h1=>?_) (fun h1=>?_)
 ·refine sq (rl ?_);(iterate 3 refine o1 ?_);refine cX ([.v (.int .i64 ((nth xs (k):Nat):Int))]) (fD xs (k:=k) (by omega)) ?_
  refine o1 ?_;refine nl (rt ?_);refine en (.inl rfl) rfl (bB (bO _)) (by decide) (fun _=>trivial) ?_
  rfl
 refine sk (sq (rl (o1 ?_)));refine nl (rt ?_);refine en (.inl rfl) rfl (bB (bO _)) (by decide) (fun _=>trivial) ?_
 rw[fP (by omega)];rfl
theorem QQ {xs:List Nat}(hx:xs.length<=1099511627776) (hlx:Lim 4294967296 xs):aE true Tryz.prog 187 [] [.one (.t (sU false xs))] (aP (.one (.t (sU true (dg 4294967296 (vl 4294967296 xs)))))):=by
 refine bD Tryz.func187 Tryz.ntmps187 fun N w c0 h0=>?_
 have hd:=eZ (v:=vl 4294967296 xs) (L:=xs.length) (by rw[fR (by omega) hlx];exact dH _)
 have hl9:=aU (B:=65536) (by omega) (vl 4294967296 xs)
 refine sq (rl (o1 ?_));refine nl (sq (rl (o1 ?_)))
 refine ca (mT hx hlx) aA (bC rfl) _ ?_;refine nC 0 (zR (by omega) (by assumption)) aA (bC rfl) ?_
 refine o1 ?_;refine nl (rt ?_)
 exact en (.inl rfl) rfl (bB (.one (.sl (trs:=bF (dg 4294967296 (vl 65536 (dg 65536 (vl 4294967296 xs))))) rfl rfl (cC _) (bT _)))) (by decide) (fun _=>.inl ⟨rfl,gW _⟩) (by rw[cL (by omega)];rfl)
theorem Sm {xs ys:List Nat}(hx:xs.length<=1099511627776) (hlx:Lim 4294967296 xs) (hy:ys.length<=1099511627776) (hly:Lim 4294967296 ys):aE true Tryz.prog 176 [] [.one (.t (sU false xs)),.one (.t (sU false ys))] (aP (.one (tv (.int .i64 (((vl 4294967296 xs:Nat):Int)-((vl 4294967296 ys:Nat):Int)).sign)))):=by
 refine bD Tryz.func176 Tryz.ntmps176 fun N w c0 h0=>?_
 refine sq (rl (o1 ?_));refine nl (sq (rl (o1 ?_)))
 refine ca (mT hx hlx) aA (bC rfl) _ ?_;refine o1 ?_
 refine ca (mT hy hly) aA (bC rfl) _ ?_;refine o1 ?_;refine o1 ?_;refine nl (sq (sq ?_))
 have hdx:=eZ (v:=vl 4294967296 xs) (L:=xs.length) (by rw[fR (by omega) hlx];exact dH _)
 have hdy:=eZ (v:=vl 4294967296 ys) (L:=ys.length) (by rw[fR (by omega) hly];exact dH _)
 have hX:=aU (B:=65536) (by omega) (vl 4294967296 xs)
 have hY:=aU (B:=65536) (by omega) (vl 4294967296 ys)
 have hvX:=cL (B:=65536) (by omega) (vl 4294967296 xs)
 have hvY:=cL (B:=65536) (by omega) (vl 4294967296 ys)
 generalize dg 65536 (vl 4294967296 xs)=X at hdx hX hvX⊢;generalize dg 65536 (vl 4294967296 ys)=Y at hdy hY hvY⊢;refine rl ?_;(iterate 5 refine o1 ?_)
 refine aY 16 (max X.length Y.length) ?_
 refine o1 ?_;refine o1 ?_;refine nl (bl ?_)
 refine lp (γ:=Nat) (fun k=>bP [(5,.one (.t (sI false X))),(6,.one (.t (sI false Y))),(7,.one (tv (.int .i64 ((k:Nat)-1))))]) (fun k=>([]:List Ob).map some) (fun k=>(∀j,k<=j->nth X j=nth Y j)/\k<=max X.length Y.length) (fun k=>k) (max X.length Y.length) ⟨fun j hj=>by rw[fP (by omega),fP (by omega)],aX _⟩ (aH h0 [] rfl) fun k hk=>?_
 refine sq (sq (rl (o1 ?_)));refine o1 ?_;refine nl ?_;refine aV rfl (fun h1=>?_) (fun h1=>?_)
 ·refine sk (sq (bl (sq (sq (rl (o1 ?_))))));refine o1 ?_
  refine aY 23 (k-1) ?_
  refine ca (uR) aA (cO rfl rfl) _ ?_;refine o1 ?_;refine o1 ?_
  refine aY 26 (k-1) ?_
  refine ca (uR) aA (cO rfl rfl) _ ?_;refine o1 ?_;refine nl ?_;refine aV rfl (fun h2=>?_) (fun h2=>?_)
  ·refine sq (rl (o1 ?_));refine nl (rt ?_);refine en (.inl rfl) rfl (bB (bO _)) (by decide) (fun _=>trivial) (congrArg (fun z=>FV.one (tv (.int .i64 z))) ?_)
   have he:=Oe (X:=X) (Y:=Y) (k:=k-1) hX (fun j hj=>hk.1 j (by omega)) (by omega)
   rw[hvX,hvY]at he;rw[Int.sign_eq_neg_one_of_neg (by omega)]
  refine sk (sq (rl (o1 ?_)));refine o1 ?_;refine aY 30 (k-1) ?_
  refine ca (uR) aA (cO rfl rfl) _ ?_;refine o1 ?_;refine o1 ?_
  refine aY 33 (k-1) ?_
  refine ca (uR) aA (cO rfl rfl) _ ?_;refine o1 ?_;refine nl ?_;refine aV rfl (fun h3=>?_) (fun h3=>?_)
  ·refine sq (rl (o1 ?_));refine nl (rt ?_);refine en (.inl rfl) rfl (bB (bO _)) (by decide) (fun _=>trivial) (congrArg (fun z=>FV.one (tv (.int .i64 z))) ?_)
   have he:=Oe (X:=Y) (Y:=X) (k:=k-1) hY (fun j hj=>(hk.1 j (by omega)).symm) (by omega)
   rw[hvX,hvY]at he;rw[Int.sign_eq_one_of_pos (by omega)]
  refine sk (rl ?_);(iterate 3 refine o1 ?_);refine nl ?_
  exact⟨k-1,by omega,⟨fun j hj=>(Nat.eq_or_lt_of_le hj).elim (fun h9=>by rw[<-h9];omega) (fun h9=>hk.1 j (by omega)),by omega⟩,dC h0 [] _ _ (by decide) ⟨rfl,rfl,congrArg (fun z=>some (FV.one (tv (.int .i64 z)))) (by omega),trivial⟩ rfl⟩
 refine ex (sq (rl (o1 ?_)));refine nl (rt ?_)
 refine en (.inl rfl) rfl (bB (bO _)) (by decide) (fun _=>trivial) (congrArg (fun z=>FV.one (tv (.int .i64 z))) ?_)
 have he:=EF (fun j=>hk.1 j (by omega))
 rw[hvX,hvY]at he;rw[he,Int.sub_self];rfl
theorem ZE {xs ys:List Nat}(hx:xs.length<=1099511627776) (hlx:Lim 4294967296 xs) (hy:ys.length<=1099511627776) (hly:Lim 4294967296 ys):aE true Tryz.prog 177 [] [.one (.t (sU false xs)),.one (.t (sU false ys))] (aP (.one (.t (sU true (dg 4294967296 (vl 4294967296 xs+vl 4294967296 ys)))))):=by
 refine bD Tryz.func177 Tryz.ntmps177 fun N w c0 h0=>?_
 refine sq (rl (o1 ?_));refine nl (sq (rl (o1 ?_)))
 refine ca (mT hx hlx) aA (bC rfl) _ ?_;refine o1 ?_
 refine ca (mT hy hly) aA (bC rfl) _ ?_;refine o1 ?_;refine o1 ?_;refine nl (sq ?_)
 have hdx:=eZ (v:=vl 4294967296 xs) (L:=xs.length) (by rw[fR (by omega) hlx];exact dH _)
 have hdy:=eZ (v:=vl 4294967296 ys) (L:=ys.length) (by rw[fR (by omega) hly];exact dH _)
 have hX:=aU (B:=65536) (by omega) (vl 4294967296 xs)
 have hY:=aU (B:=65536) (by omega) (vl 4294967296 ys)
 have hvX:=cL (B:=65536) (by omega) (vl 4294967296 xs)
 have hvY:=cL (B:=65536) (by omega) (vl 4294967296 ys)
 generalize dg 65536 (vl 4294967296 xs)=X at hdx hX hvX⊢;generalize dg 65536 (vl 4294967296 ys)=Y at hdy hY hvY⊢;refine rl (o1 ?_);refine nl (sq (rl ?_))
 refine o1 ?_;refine nl (sq (sq (rl (o1 ?_))));refine nl (bl ?_)
 refine lp (γ:=Nat×Nat×List Nat) (fun s=>bP [(5,.one (.t (sI false X))),(6,.one (.t (sI false Y))),(7,.one (.sl 0 0 s.1)),(8,iN s.2.1),(9,iN s.1)]) (fun s=>[(⟨3,1,(eR s.2.2).map .t⟩:Ob)].map some) (fun s=>s.2.2.length=s.1/\Lim 65536 s.2.2/\vl 65536 s.2.2+65536^s.1*s.2.1=vl 65536 (X.take s.1)+vl 65536 (Y.take s.1)/\s.2.1<=1/\(s.1<=max X.length Y.length\/s.1=max X.length Y.length+1/\s.2.1=0)) (fun s=>max X.length Y.length+1-s.1) (0,0,[]) ⟨rfl,Lim.nil,rfl,Nat.zero_le _,.inl (Nat.zero_le _)⟩ ((nr (i:=7) 0 3 1 rfl rfl rfl rfl).trans (aH h0 [0] ⟨aD (l:=[]) rfl,rfl⟩)) ?_
 rintro⟨k,cr,os⟩ ⟨hos,hol,hv,hc1,hkm⟩;dsimp only at hos hol hv hc1 hkm⊢;have hn1:=hX.nth (by omega) k
 have hn2:=hY.nth (by omega) k
 refine sq (sq (rl ?_));(iterate 6 refine o1 ?_);refine aY 20 (max X.length Y.length) ?_
 refine o1 ?_;refine o1 ?_;refine WL.split (t:=22) rfl (fun h1=>?_) (fun h1=>?_)
 ·refine aW ?_;refine aW ?_;refine o1 ?_;refine nl (eU rfl (sk (sq (bl (sq (rl (o1 ?_)))))));refine o1 ?_
  refine ca (uR) aA (cO rfl rfl) _ ?_;refine o1 ?_;refine o1 ?_
  refine ca (uR) aA (cO rfl rfl) _ ?_;(iterate 3 refine o1 ?_)
  refine aY 36 (nth X k+nth Y k+cr) ?_
  refine o1 ?_;refine nl (sq (rl ?_));(iterate 3 refine o1 ?_)
  refine WL.cast (t:=39) (u':=.int .i64 (((nth X k+nth Y k+cr)%65536:Nat):Int)) rfl (dN (lG _ 65536)) ?_;refine bs 1 ?_
  refine fF (j:=2) aR rfl rfl rfl rfl (.sl rfl (by rw[dP,kY,hos];omega)) (.sl rfl rfl rfl) rfl rfl rfl (by omega) (by omega) ?_
  refine o1 ?_;refine nl (rl (o1 ?_));refine o1 ?_ (hC:=(jC 65536 (by omega) (by simp only[jU];omega)))
  refine WL.cast (t:=43) (u':=.int .i64 (((nth X k+nth Y k+cr)/65536:Nat):Int)) rfl (dN (gI _ 65536)) ?_;refine o1 ?_;refine nl (rl ?_);(iterate 3 refine o1 ?_)
  refine nl ?_;have hst:=Sb hos hv
  have hz1:X.length<=k->nth X k=0:=fun h=>fP (by omega)
  have hz2:Y.length<=k->nth Y k=0:=fun h=>fP (by omega)
  exact⟨(k+1,(nth X k+nth Y k+cr)/65536,os++[(nth X k+nth Y k+cr)%65536]),by dsimp only;omega,⟨by simp[hos],hol.append (Lim.cons (Nat.mod_lt _ (by omega)) Lim.nil),hst,by dsimp only;omega,by dsimp only;omega⟩,aH h0 [2] ⟨rE rfl (kZ _ [(nth X k+nth Y k+cr)%65536]) rfl,rfl⟩⟩
 (iterate 3 refine o1 ?_);refine nl ?_;refine aV rfl (fun h2=>?_) (fun h2=>?_)
 ·refine sk (sq (bl (sq (rl (o1 ?_)))));refine o1 ?_
  refine ca (uR) aA (cO rfl rfl) _ ?_;refine o1 ?_;refine o1 ?_
  refine ca (uR) aA (cO rfl rfl) _ ?_;(iterate 3 refine o1 ?_)
  refine aY 36 (nth X k+nth Y k+cr) ?_
  refine o1 ?_;refine nl (sq (rl ?_));(iterate 3 refine o1 ?_)
  refine WL.cast (t:=39) (u':=.int .i64 (((nth X k+nth Y k+cr)%65536:Nat):Int)) rfl (dN (lG _ 65536)) ?_;refine bs 1 ?_
  refine fF (j:=2) aR rfl rfl rfl rfl (.sl rfl (by rw[dP,kY,hos];omega)) (.sl rfl rfl rfl) rfl rfl rfl (by omega) (by omega) ?_
  refine o1 ?_;refine nl (rl (o1 ?_));refine o1 ?_ (hC:=(jC 65536 (by omega) (by simp only[jU];omega)))
  refine WL.cast (t:=43) (u':=.int .i64 (((nth X k+nth Y k+cr)/65536:Nat):Int)) rfl (dN (gI _ 65536)) ?_;refine o1 ?_;refine nl (rl ?_);(iterate 3 refine o1 ?_)
  refine nl ?_;have hst:=Sb hos hv
  have hz1:X.length<=k->nth X k=0:=fun h=>fP (by omega)
  have hz2:Y.length<=k->nth Y k=0:=fun h=>fP (by omega)
  exact⟨(k+1,(nth X k+nth Y k+cr)/65536,os++[(nth X k+nth Y k+cr)%65536]),by dsimp only;omega,⟨by simp[hos],hol.append (Lim.cons (Nat.mod_lt _ (by omega)) Lim.nil),hst,by dsimp only;omega,by dsimp only;omega⟩,aH h0 [2] ⟨rE rfl (kZ _ [(nth X k+nth Y k+cr)%65536]) rfl,rfl⟩⟩
 refine ex (sq (rl ?_));have hc0:cr=0:=by omega
 rw[hc0,Nat.mul_zero,Nat.add_zero,cK 65536 (by omega),cK 65536 (by omega),hvX,hvY]at hv
 refine WL.sub (Cc (i:=7) (zs':=os) rfl rfl rfl (by omega) rfl) ?_
 refine o1 ?_;refine nC 1 (zR (by omega) (by assumption)) aA (bC rfl) ?_
 refine o1 ?_;refine nl (rt ?_)
 exact en (.inl rfl) rfl (bB (.one (.sl (trs:=bF (dg 4294967296 (vl 65536 os))) rfl rfl (cC _) (bT _)))) (by decide) (fun _=>.inl ⟨rfl,gW _⟩) (by rw[hv];rfl)
theorem ES {xs ys:List Nat}(hx:xs.length<=1099511627776) (hlx:Lim 4294967296 xs) (hy:ys.length<=1099511627776) (hly:Lim 4294967296 ys):aE true Tryz.prog 178 [] [.one (.t (sU false xs)),.one (.t (sU false ys))] (aP (.tup [.one (.t (sU true (dg 4294967296 (vl 4294967296 xs-vl 4294967296 ys)))),.one (tv (.int .i64 (if vl 4294967296 xs<vl 4294967296 ys then 2 else 0)))])):=by
 refine bD Tryz.func178 Tryz.ntmps178 fun N w c0 h0=>?_
 refine sq (rl (o1 ?_));refine o1 ?_;refine nl (sq (sq (rl (o1 ?_))));refine o1 ?_
 refine ca (Sm hx hlx hy hly) aA (cO rfl rfl) _ ?_;refine o1 ?_;refine nl ?_
 refine aV rfl (fun h1=>?_) (fun h1=>?_)
 ·refine sq (rl (o1 ?_));refine o1 ?_;refine nl (rt ?_);have hlt:=YT h1
  exact en (.inl rfl) rfl (gP (.cons (.one (.nil (t:=223) (z:=1))) (.cons (bO _) .nil))) (by decide) (fun _=>⟨.inl ⟨rfl,trivial⟩,trivial,trivial⟩) (by rw[Nat.sub_eq_zero_of_le (Nat.le_of_lt hlt),if_pos hlt];rfl)
 refine sk (sq (rl (o1 ?_)));refine ca (mT hx hlx) aA (bC rfl) _ ?_;refine o1 ?_
 refine ca (mT hy hly) aA (bC rfl) _ ?_;refine o1 ?_;refine o1 ?_;refine nl (sq ?_)
 have hge:vl 4294967296 ys<=vl 4294967296 xs:=YS h1
 have hyx:=dS (B:=65536) (by omega) hge
 have hdx:=eZ (v:=vl 4294967296 xs) (L:=xs.length) (by rw[fR (by omega) hlx];exact dH _)
 have hdy:=eZ (v:=vl 4294967296 ys) (L:=ys.length) (by rw[fR (by omega) hly];exact dH _)
 have hX:=aU (B:=65536) (by omega) (vl 4294967296 xs)
 have hY:=aU (B:=65536) (by omega) (vl 4294967296 ys)
 have hvX:=cL (B:=65536) (by omega) (vl 4294967296 xs)
 have hvY:=cL (B:=65536) (by omega) (vl 4294967296 ys)
 generalize dg 65536 (vl 4294967296 xs)=X at hdx hX hvX hyx⊢;generalize dg 65536 (vl 4294967296 ys)=Y at hdy hY hvY hyx⊢;refine rl (o1 ?_);refine nl (sq (rl ?_))
 refine o1 ?_;refine nl (sq (sq (rl (o1 ?_))));refine nl (bl ?_)
 refine lp (γ:=Nat×Nat×List Nat) (fun s=>bP [(6,.one (.t (sI false X))),(7,.one (.t (sI false Y))),(8,.one (.sl 0 0 s.1)),(9,iN s.2.1),(10,iN s.1)]) (fun s=>[(⟨3,1,(eR s.2.2).map .t⟩:Ob)].map some) (fun s=>s.2.2.length=s.1/\Lim 65536 s.2.2/\vl 65536 s.2.2+vl 65536 (Y.take s.1)=vl 65536 (X.take s.1)+65536^s.1*s.2.1/\s.2.1<=1/\s.1<=X.length) (fun s=>X.length-s.1) (0,0,[]) ⟨rfl,Lim.nil,rfl,Nat.zero_le _,Nat.zero_le _⟩ ((nr (i:=8) 0 3 1 rfl rfl rfl rfl).trans (aH h0 [0] ⟨aD (l:=[]) rfl,rfl⟩)) ?_
 rintro⟨k,br,os⟩ ⟨hos,hol,hv,hc1,hkm⟩;dsimp only at hos hol hv hc1 hkm⊢;have hn1:=hX.nth (by omega) k
 have hn2:=hY.nth (by omega) k
 refine sq (sq (rl ?_));(iterate 4 refine o1 ?_);refine nl ?_;refine aV rfl (fun h2=>?_) (fun h2=>?_)
 ·refine sk (sq (bl (sq ?_)));refine bU [] [10] ?_
  refine dv 0 ?_;refine dv 1 ?_;refine dv 2 ?_;refine dQ 3 ([.v (.int .i64 ((nth X (k):Nat):Int))]) (fD X (k:=k) (by omega)) ?_
  refine dv 4 ?_;refine dv 5 ?_;refine dv 8 ?_;refine aG 6 rfl (uR) aA (cO rfl rfl) _ ?_;refine df 7 ?_;refine df 9 ?_
  refine bM 10 ?_
  refine aJ ?_;refine sq (rl (o1 ?_));refine nl (sq (sq (rl (o1 ?_))));refine o1 ?_;refine nl ?_
  refine aV rfl (fun h3=>?_) (fun h3=>?_)
  ·refine sq (rl ?_);(iterate 3 refine o1 ?_);refine nl (rl (o1 ?_));refine nl (rl ?_)
   refine WL.cast (t:=11) (u':=.int .i64 (((nth X k+65536-nth Y k-br:Nat)):Int)) rfl (dN (by omega)) ?_
   refine o1 ?_;refine o1 ?_;refine bs 1 ?_
   refine fF (j:=2) aR rfl rfl rfl rfl (.sl rfl (by rw[dP,kY,hos];omega)) (.sl rfl rfl rfl) rfl rfl rfl (by omega) (by omega) ?_
   refine o1 ?_;refine nl (rl ?_);(iterate 3 refine o1 ?_);refine nl ?_;have hst:=Sc (d:=nth X k+65536-nth Y k-br) (br':=1) hos hv (by omega)
   exact⟨(k+1,1,os++[nth X k+65536-nth Y k-br]),by dsimp only;omega,⟨by simp[hos],hol.append (Lim.cons (by omega) Lim.nil),hst,by dsimp only;omega,by dsimp only;omega⟩,aH h0 [2] ⟨rE rfl (kZ _ [nth X k+65536-nth Y k-br]) rfl,rfl⟩⟩
  refine sk (rl (WL.cast (t:=11) (u':=.int .i64 (((nth X k-nth Y k-br:Nat)):Int)) rfl (dN (by omega)) ?_))
  refine o1 ?_;refine o1 ?_;refine bs 1 ?_
  refine fF (j:=2) aR rfl rfl rfl rfl (.sl rfl (by rw[dP,kY,hos];omega)) (.sl rfl rfl rfl) rfl rfl rfl (by omega) (by omega) ?_
  refine o1 ?_;refine nl (rl ?_);(iterate 3 refine o1 ?_);refine nl ?_;have hst:=Sc (d:=nth X k-nth Y k-br) (br':=0) hos hv (by omega)
  exact⟨(k+1,0,os++[nth X k-nth Y k-br]),by dsimp only;omega,⟨by simp[hos],hol.append (Lim.cons (by omega) Lim.nil),hst,by dsimp only;omega,by dsimp only;omega⟩,aH h0 [2] ⟨rE rfl (kZ _ [nth X k-nth Y k-br]) rfl,rfl⟩⟩
 refine ex (sq (rl ?_));have hoo:=fY hol
 rw[hos]at hoo;rw[cK 65536 (l:=X) (by omega),cK 65536 (l:=Y) (by omega),hvX,hvY]at hv
 have hb0:br=0:=by
  rcases Nat.eq_zero_or_pos br with h0 | h0
  ·exact h0
  have h1:br=1:=by omega
  rw[h1,Nat.mul_one,show k=X.length by omega]at hv
  rw[show k=X.length by omega]at hoo
  omega
 rw[hb0,Nat.mul_zero,Nat.add_zero]at hv;have he:vl 65536 os=vl 4294967296 xs-vl 4294967296 ys:=by omega
 refine WL.sub (Cc (i:=8) (zs':=os) rfl rfl rfl (by omega) rfl) ?_
 refine o1 ?_;refine nC 1 (zR (by omega) (by assumption)) aA (bC rfl) ?_
 refine o1 ?_;refine o1 ?_;refine nl (rt ?_)
 exact en (.inl rfl) rfl (gP (.cons (.one (.sl (trs:=bF (dg 4294967296 (vl 65536 os))) rfl rfl (cC _) (bT _))) (.cons (bO _) .nil))) (by decide) (fun _=>⟨.inl ⟨rfl,gW _⟩,trivial,trivial⟩) (by rw[he,if_neg (by omega)];rfl)
theorem Fq {a:Zi}{k:Int}(ha:Zn a k):aE true Tryz.prog 179 [] [gF a] (aP (.one (tv (.bool (eV a.s a.x))))):=by
 refine bD Tryz.func179 Tryz.ntmps179 fun N w c0 h0=>?_
 have hal:=ha.2.1
 refine sq (rl (bx 0 ?_));refine o1 ?_;refine nl (sq (sq (rl (o1 ?_))));refine ld ?_;refine o1 ?_;refine o1 ?_;refine nl ?_
 refine aV rfl (fun h1=>?_) (fun h1=>?_)
 ·refine sq (rl (o1 ?_));refine ld ?_;refine WL.splitb (t:=8) rfl (fun h2=>?_) (fun h2=>?_)
  ·refine o1 ?_;refine o1 ?_;refine nl (rt ?_);refine en (.inl rfl) rfl (bB (bO _)) (by decide) (fun _=>trivial) (congrArg (fun b=>FV.one (tv (.bool b))) ?_)
   rw[rF (by omega)];simp_all
  refine o1 ?_;refine o1 ?_;refine nl (rt ?_);refine en (.inl rfl) rfl (bB (bO _)) (by decide) (fun _=>trivial) (congrArg (fun b=>FV.one (tv (.bool b))) ?_)
  rw[rF (by omega)];simp_all
 refine sk (sq (rl (o1 ?_)));refine ld ?_;refine o1 ?_;refine ld ?_;refine o1 ?_;refine o1 ?_
 refine aY 15 (a.x.length-1) ?_
 refine o1 ?_;refine cX ([.v (.int .u32 ((nth a.x (a.x.length-1):Nat):Int))]) (pD a.x (k:=a.x.length-1) (by omega)) ?_
 refine o1 ?_;refine o1 ?_;refine nl (rt ?_);refine en (.inl rfl) rfl (bB (bO _)) (by decide) (fun _=>trivial) (congrArg (fun b=>FV.one (tv (.bool b))) ?_)
 exact(Ar rfl (by omega)).symm
theorem iR {a:Zi}{k:Int}(ha:Zn a k):aE false Tryz.prog 127 [] [gF a] (aP (kF k)):=by
 refine bD Tryz.func127 Tryz.ntmps127 fun N w c0 h0=>?_
 refine sq (rl (bx 0 ?_));refine al 1 ?_;refine nl (sq (sq (rl (ld ?_))))
 refine ca (Fq ha) aA (aM rfl) _ ?_;refine WL.splitb (t:=4) rfl (fun h1=>?_) (fun h1=>?_)
 ·refine o1 ?_;refine nl (dY rfl (sk (sq (rl (ld ?_)))));refine st ?_;refine nl (rt ?_)
  exact en (.inl rfl) rfl (bB (.agg (.read _ (l:=[.v (.bool a.s),sU false a.x]) rfl))) (by decide) (fun h=>by cases h) (IV ha h1)
 refine o1 ?_;refine nl (eU rfl (sq (rl (o1 ?_))));refine st ?_;refine nl (rt ?_)
 exact en (.inl rfl) rfl (bB (.agg (.cons (.id rfl) (.cons .nilf .nil)))) (by decide) (fun h=>by cases h) (by rw[ha.wrong h1];exact Ku)
theorem oT {b:Bool}{xs:List Nat}{K:Int}(hx:xs.length<=1099511627776) (hl:Lim 4294967296 xs) (hK:dV b (vl 4294967296 xs)=K):aE true Tryz.prog 129 [] [.one (tv (.bool b)),.one (.t (sU false xs))] (aP (kO K)):=by
 refine bD Tryz.func129 Tryz.ntmps129 fun N w c0 h0=>?_
 refine sq (rl (al 0 ?_));refine nl (sq (rl (o1 ?_)));refine nC 1 (QQ hx hl) aA (bC rfl) ?_;refine o1 ?_;refine nl (sq ?_)
 refine rl (o1 ?_);refine o1 ?_;refine WL.splitb (t:=9) rfl (fun h1=>?_) (fun h1=>?_)
 ·(iterate 6 refine o1 ?_);refine st ?_;refine nl (rt ?_)
  exact en (.inl rfl) rfl (bB (.agg (.cons (.id rfl) (.cons (.sl (trs:=bF (dg 4294967296 (vl 4294967296 xs))) rfl rfl (cC _) (bT _)) .nil)))) (by decide) (fun _=>Kv _ _) (hK▸As (by rw[<-Jc rfl,h1,Bool.true_and];exact decide_eq_decide.2 (by omega)) (mP _ _).symm)
 (iterate 3 refine aW ?_);(iterate 3 refine o1 ?_);refine st ?_;refine nl (rt ?_)
 exact en (.inl rfl) rfl (bB (.agg (.cons (.id rfl) (.cons (.sl (trs:=bF (dg 4294967296 (vl 4294967296 xs))) rfl rfl (cC _) (bT _)) .nil)))) (by decide) (fun _=>Kv _ _) (hK▸As (by rw[<-Jc rfl,h1];rfl) (mP _ _).symm)
theorem jA {n:Int}(h1:-9223372036854775808<=n) (h2:n<=9223372036854775807):aE true Tryz.prog 68 [] [.one (tv (.int .i64 n))] (aP (kO n)):=by
 refine bD Tryz.func68 Tryz.ntmps68 fun N w c0 h0=>?_
 obtain⟨hr1,hr2,hq1,hq2,hv1,hv2⟩:=IN h1 h2
 refine sq (rl (al 0 ?_));refine nl (sq (rl ?_));(iterate 3 refine o1 ?_);refine o1 ?_ (hC:=(by exact⟨by omega,by simp only[jU];omega⟩))
 refine o1 ?_;refine o1 ?_;refine nl (sq (rl ?_));(iterate 6 refine o1 ?_)
 refine aY 14 ((Int.tmod n 4294967296).natAbs) ?_
 refine o1 ?_;refine AZ 15 (Int.tmod n 4294967296).natAbs rfl (by omega) ?_
 (iterate 4 refine o1 ?_);refine aY 19 ((Int.tdiv n 4294967296).natAbs) ?_
 refine o1 ?_;refine AZ 20 (Int.tdiv n 4294967296).natAbs rfl (by omega) ?_
 refine bs 1 ?_
 refine WL.sub (fzU (i:=21) (zs:=[(Int.tmod n 4294967296).natAbs,(Int.tdiv n 4294967296).natAbs]) (zs':=[(Int.tmod n 4294967296).natAbs,(Int.tdiv n 4294967296).natAbs]) rfl rfl rfl rfl rfl) ?_
 refine nC 2 (oT (K:=n) (by simp) (Lim.cons (by omega) (Lim.cons (by omega) Lim.nil)) (YV hv1)) aA (cO rfl rfl) ?_
 refine st ?_;refine nl (rt ?_)
 exact en (.inl rfl) rfl (bB (.agg (.cons (.id rfl) (.cons (.sl (trs:=bF (dg 4294967296 (n).natAbs)) rfl rfl (cC _) (bT _)) .nil)))) (by decide) (fun _=>fT (n)) rfl
theorem Pt {a b:Zi}{k k':Int}(ha:Zn a k) (hb:Zn b k'):aE true Tryz.prog 118 [] [gF a,gF b] (aP (.one (tv (.int .i64 (k-k').sign)))):=by
 refine bD Tryz.func118 Tryz.ntmps118 fun N w c0 h0=>?_
 have hkl:=ha.len
 have hkl':=hb.len
 refine sq (rl (bx 0 ?_));refine bx 1 ?_;refine o1 ?_;refine nl (sq (rl (ld ?_)));refine ca (iR ha) aA (aM rfl) _ ?_
 refine st ?_;refine nl (sq (rl (ld ?_)));refine ca (iR hb) aA (aM rfl) _ ?_;refine st ?_;refine nl (sq (bl (sq ?_)))
 refine rl (o1 ?_);refine ld ?_;refine o1 ?_;refine WL.splitb (t:=12) rfl (fun h1=>?_) (fun h1=>?_)
 ·refine o1 ?_;refine ld ?_;refine WL.splitb (t:=14) rfl (fun h2=>?_) (fun h2=>?_)
  ·(iterate 3 refine o1 ?_);refine nl (dY rfl (sq (rl (o1 ?_))));refine ld ?_;refine o1 ?_;refine WL.cast (t:=20) rfl (congrArg Value.bool h2) ?_
   refine o1 ?_;refine ld ?_;refine WL.cast (t:=22) rfl (congrArg Value.bool h1) ?_;(iterate 3 refine o1 ?_);refine nl (dY rfl (sq (rl (o1 ?_))))
   refine ld ?_;refine o1 ?_;refine nl ?_;refine eU (congrArg (fun b=>FV.one (tv (.bool b))) h1) ?_
   refine sq (rl (o1 ?_));refine ld ?_;refine o1 ?_;refine ld ?_
   refine ca (Sm (by omega) (aU (by omega) _) (by omega) (aU (by omega) _)) aA (cO rfl rfl) _ ?_
   refine o1 ?_;refine nl (rt ?_);refine en (.inl rfl) rfl (bB (bO _)) (by decide) (fun _=>trivial) (congrArg (fun z=>FV.one (tv (.int .i64 z))) ?_)
   rw[cB,cB];exact QL h1 h2
  (iterate 3 refine o1 ?_);refine nl (eU rfl (sq (rl (o1 ?_))));refine nl (rt ?_)
  refine en (.inl rfl) rfl (bB (bO _)) (by decide) (fun _=>trivial) (congrArg (fun z=>FV.one (tv (.int .i64 z))) ?_)
  exact QJ h1 h2
 (iterate 3 refine aW ?_);refine o1 ?_;refine o1 ?_;refine nl (dY rfl (sq (rl (o1 ?_))));refine ld ?_;refine o1 ?_
 refine WL.splitb (t:=20) rfl (fun h3=>?_) (fun h3=>?_)
 ·refine o1 ?_;refine ld ?_;refine WL.cast (t:=22) rfl (congrArg Value.bool h1) ?_;(iterate 3 refine o1 ?_);refine nl (eU rfl (sq (rl (o1 ?_))))
  refine nl (rt ?_);refine en (.inl rfl) rfl (bB (bO _)) (by decide) (fun _=>trivial) (congrArg (fun z=>FV.one (tv (.int .i64 z))) ?_)
  exact QK h1 h3
 (iterate 3 refine aW ?_);refine o1 ?_;refine o1 ?_;refine nl (dY rfl (sq (rl (o1 ?_))));refine ld ?_;refine o1 ?_;refine nl ?_
 refine dY (congrArg (fun b=>FV.one (tv (.bool b))) h1) ?_
 refine sk (sq (rl (o1 ?_)));refine ld ?_;refine o1 ?_;refine ld ?_
 refine ca (Sm (by omega) (aU (by omega) _) (by omega) (aU (by omega) _)) aA (cO rfl rfl) _ ?_
 refine o1 ?_;refine nl (rt ?_);refine en (.inl rfl) rfl (bB (bO _)) (by decide) (fun _=>trivial) (congrArg (fun z=>FV.one (tv (.int .i64 z))) ?_)
 rw[cB,cB];exact QM h1 h3
theorem nK {a:Zi}{k:Int}(ha:Zn a k):aE true Tryz.prog 120 [] [gF a] (aP (.one (tv (.int .i64 k.sign)))):=by
 refine bD Tryz.func120 Tryz.ntmps120 fun N w c0 h0=>?_
 have hkl:=ha.len
 refine sq (rl (bx 0 ?_));refine o1 ?_;refine nl (sq (rl (ld ?_)));refine o1 ?_
 refine ca (Pt ha zn0) aA ⟨nD rfl,Hk rfl (.cons .t (.cons .nil .nil)),rfl⟩ _ ?_;refine o1 ?_;refine nl (rt ?_)
 exact Ho (.inl rfl) rfl (by rw[Int.sub_zero])
theorem Hw {a:Zi}{k:Int}(ha:Zn a k):aE true Tryz.prog 156 [] [gF a] (aP (kO (-k))):=by
 refine bD Tryz.func156 Tryz.ntmps156 fun N w c0 h0=>?_
 have hkl:=ha.len
 refine sq (rl (bx 0 ?_));refine al 1 ?_;refine nl (sq ?_);refine bU [0,1] [8] ?_
 refine aF 0 ?_;refine aF 4 ?_;refine aG 1 rfl (iR ha) aA (aM rfl) _ ?_;refine df 2 ?_;refine df 3 ?_;refine aG 5 rfl (iR ha) aA (aM rfl) _ ?_
 refine df 6 ?_;refine qA 2 7 rfl (oT (K:=-k) (by omega) (aU (by omega) _) (by rw[cB];exact Wq k)) aA (cO rfl rfl) ?_
 refine dst 8 ?_;refine aJ ?_;refine rt ?_
 exact en (.inl rfl) rfl (bB (.agg (.cons (.id rfl) (.cons (.sl (trs:=bF (dg 4294967296 (-k).natAbs)) rfl rfl (cC _) (bT _)) .nil)))) (by decide) (fun _=>fT (-k)) rfl
theorem qS {a b:Zi}{k k':Int}(ha:Zn a k) (hb:Zn b k'):aE true Tryz.prog 119 [] [gF a,gF b] (aP (kO (k+k'))):=by
 refine bD Tryz.func119 Tryz.ntmps119 fun N w c0 h0=>?_
 have hkl:=ha.len
 have hkl':=hb.len
 refine sq (rl (bx 0 ?_));refine bx 1 ?_;refine al 2 ?_;refine nl (sq (rl (ld ?_)));refine ca (iR ha) aA (aM rfl) _ ?_
 refine st ?_;refine nl (sq (rl (ld ?_)));refine ca (iR hb) aA (aM rfl) _ ?_;refine st ?_;refine nl (sq (sq (rl ?_)))
 refine o1 ?_;refine ld ?_;refine o1 ?_;refine ld ?_;refine o1 ?_;refine nl ?_;refine rH rfl (fun h1=>?_) (fun h1=>?_)
 ·refine sq ?_;refine bU [0,1,2] [8] ?_
  refine dv 0 ?_;refine aF 1 ?_;refine dv 2 ?_;refine aF 3 ?_;refine dv 4 ?_;refine aF 5 ?_
  have hn2:=Kt (xs:=(dg 4294967296 (k).natAbs)) (ys:=(dg 4294967296 (k').natAbs)) (aU (by omega) _) (aU (by omega) _)
  refine aG 6 rfl (ZE (by omega) (aU (by omega) _) (by omega) (aU (by omega) _)) aA (cO rfl rfl) _ ?_
  refine qA 3 7 rfl (oT (K:=k+k') (by omega) (aU (by omega) _) (by simp only[cL (B:=4294967296) (by omega)];exact Mt rfl (eq_of_beq h1))) aA (cO rfl rfl) ?_
  refine dst 8 ?_;refine aJ ?_;refine rt ?_
  exact en (.inl rfl) rfl (bB (.agg (.cons (.id rfl) (.cons (.sl (trs:=bF (dg 4294967296 (k+k').natAbs)) rfl rfl (cC _) (bT _)) .nil)))) (by decide) (fun _=>fT (k+k')) rfl
 refine sk (sq (rl (o1 ?_)));refine ld ?_;refine o1 ?_;refine ld ?_
 have hn3:=Ws (xs:=(dg 4294967296 (k).natAbs)) (ys:=(dg 4294967296 (k').natAbs)) (aU (by omega) _)
 refine ca (ES (by omega) (aU (by omega) _) (by omega) (aU (by omega) _)) aA (cO rfl rfl) _ ?_
 (iterate 5 refine o1 ?_);refine nl (sq (sq (rl (o1 ?_))));refine o1 ?_;refine nl ?_;refine aV rfl (fun h4=>?_) (fun h4=>?_)
 ·refine sq (rl (o1 ?_));refine ld ?_;refine o1 ?_
  refine nC 3 (oT (K:=k+k') (by omega) (aU (by omega) _) (by simp only[cL (B:=4294967296) (by omega)];exact Wt rfl (ne_of_beq_false h1) (fun h8=>by rw[cB,cB,if_pos h8]at h4;omega))) aA (cO rfl rfl) ?_
  refine st ?_;refine nl (rt ?_)
  exact en (.inl rfl) rfl (bB (.agg (.cons (.id rfl) (.cons (.sl (trs:=bF (dg 4294967296 (k+k').natAbs)) rfl rfl (cC _) (bT _)) .nil)))) (by decide) (fun _=>fT (k+k')) rfl
 refine sk (sq (rl (o1 ?_)));refine ld ?_;refine o1 ?_;refine ld ?_
 have hn5:=Ws (xs:=(dg 4294967296 (k').natAbs)) (ys:=(dg 4294967296 (k).natAbs)) (aU (by omega) _)
 refine ca (ES (by omega) (aU (by omega) _) (by omega) (aU (by omega) _)) aA (cO rfl rfl) _ ?_
 (iterate 4 refine o1 ?_);refine nl (sq (rl (o1 ?_)));refine ld ?_;refine o1 ?_
 refine nC 3 (oT (K:=k+k') (by omega) (aU (by omega) _) (by simp only[cL (B:=4294967296) (by omega)];exact Wu rfl (ne_of_beq_false h1) (Decidable.byContradiction fun h8=>h4 (by rw[cB,cB,if_neg h8])))) aA (cO rfl rfl) ?_
 refine st ?_;refine nl (rt ?_)
 exact en (.inl rfl) rfl (bB (.agg (.cons (.id rfl) (.cons (.sl (trs:=bF (dg 4294967296 (k+k').natAbs)) rfl rfl (cC _) (bT _)) .nil)))) (by decide) (fun _=>fT (k+k')) rfl
theorem ZF {a b:Zi}{k k':Int}(ha:Zn a k) (hb:Zn b k'):aE true Tryz.prog 175 [] [gF a,gF b] (aP (kO (k-k'))):=by
 refine bD Tryz.func175 Tryz.ntmps175 fun N w c0 h0=>?_
 have hkl:=ha.len
 have hkl':=hb.len
 refine sq (rl (bx 0 ?_));refine bx 1 ?_;refine al 2 ?_;refine nl (sq ?_);refine bU [0,1,2] [4] ?_
 refine aF 0 ?_;refine aF 1 ?_;have hn1:=nS (k')
 refine aG 2 rfl (Hw hb) aA (aM rfl) _ ?_;refine qA 3 3 rfl (qS ha (Zn.of (k:=-k') (by omega))) aA (bN rfl rfl) ?_
 refine dst 4 ?_;refine aJ ?_;refine rt ?_
 exact en (.inl rfl) rfl (bB (.agg (.cons (.id rfl) (.cons (.sl (trs:=bF (dg 4294967296 (k+-k').natAbs)) rfl rfl (cC _) (bT _)) .nil)))) (by decide) (fun _=>fT (k+-k')) rfl
theorem Ji {xs:List Nat}(hx:xs.length<=4398046511104):aE false Tryz.prog 221 [] [.one (.t (sI false xs))] (aP (.one (.t (sI false (trim xs))))):=by
 refine bD Tryz.func221 Tryz.ntmps221 fun N w c0 h0=>?_
 refine sq (rl (o1 ?_));refine nl (sq (bl ?_))
 refine lp (γ:=List Nat) (fun zs=>bP [(0,.one (.t (sI false zs)))]) (fun _=>([]:List Ob).map some) (fun zs=>trim zs=trim xs/\zs.length<=xs.length) (fun zs=>zs.length) xs ⟨rfl,aX _⟩ (aH h0 [] rfl) fun zs hz=>?_
 refine sq (sq (rl ?_));(iterate 4 refine o1 ?_);refine WL.split (t:=6) rfl (fun h1=>?_) (fun h1=>?_)
 ·(iterate 4 refine o1 ?_);refine aY 10 (zs.length-1) ?_
  refine o1 ?_;refine cX ([.v (.int .i64 ((nth zs (zs.length-1):Nat):Int))]) (fD zs (k:=zs.length-1) (by omega)) ?_
  refine o1 ?_;refine o1 ?_;refine nl ?_;refine aV rfl (fun h2=>?_) (fun h2=>?_)
  ·refine sk (bl (rl ?_));(iterate 4 refine o1 ?_);refine aY 18 (zs.length-1) ?_
   refine o1 ?_;refine o1 ?_;refine nl ?_
   exact⟨zs.take (zs.length-1),by rw[dU];omega,⟨(by rw[Bi (xs:=zs) (k:=zs.length) (by omega) (aX _) (by omega),List.take_length];exact hz.1),by rw[dU];omega⟩,dC h0 [] _ _ (by decide) ⟨congrArg some (EH (by omega)).symm,trivial⟩ rfl⟩
  refine ex (sq (rl (o1 ?_)));refine o1 ?_;refine nl (rt ?_);refine en (.inl rfl) rfl (bB (.one (.id rfl))) (by decide) (fun h=>by cases h) ?_
  have hx:trim xs=zs:=by
   rw[<-hz.1];have h9:=wB (xs:=zs) (k:=zs.length) (by omega) (aX _) (by omega)
   rwa[List.take_length]at h9
  rw[hx];rfl
 (iterate 7 refine aW ?_);refine o1 ?_;refine nl (dY rfl (ex (sq (rl (o1 ?_)))));refine o1 ?_;refine nl (rt ?_)
 refine en (.inl rfl) rfl (bB (.one (.id rfl))) (by decide) (fun h=>by cases h) ?_
 have hx:trim xs=zs:=by
  have h9:zs=[]:=List.eq_nil_of_length_eq_zero (by omega)
  rw[<-hz.1,h9];rfl
 rw[hx];rfl
theorem qM {xs:List Nat}(hx:xs.length<=1099511627776) (hl:Lim 4294967296 xs):aE false Tryz.prog 173 [] [.one (.t (sU false xs))] (aP (.one (.t (sI false (dg 65536 (vl 4294967296 xs)))))):=by
 refine bD Tryz.func173 Tryz.ntmps173 fun N w c0 h0=>?_
 refine sq (rl (o1 ?_));refine nl (sq (rl (o1 ?_)));refine nl (sq (sq (rl (o1 ?_))));refine nl (bl ?_)
 refine lp (γ:=Nat) (fun k=>bP [(0,.one (.t (sU false xs))),(3,.one (.sl 0 0 (2*k))),(4,iN k)]) (fun k=>[(⟨3,1,(eR (hv (xs.take k))).map .t⟩:Ob)].map some) (fun k=>k<=xs.length) (fun k=>xs.length-k) 0 (Nat.zero_le _) ((nr (i:=3) 0 3 1 rfl rfl rfl rfl).trans (aH h0 [0] ⟨aD (l:=[]) rfl,rfl⟩)) fun k hk=>?_
 have hn:=hl.nth (by omega) k
 refine sq (sq (rl ?_));(iterate 4 refine o1 ?_);refine nl ?_;refine aV rfl (fun h1=>?_) (fun h1=>?_)
 ·refine sk (sq (bl ?_));refine bU [] [15] ?_
  refine dv 0 ?_;refine dv 1 ?_;refine dv 2 ?_;refine dv 3 ?_;refine dQ 4 ([.v (.int .u32 ((nth xs (k):Nat):Int))]) (pD xs (k:=k) (by omega)) ?_
  refine dv 5 ?_;refine WD.cast (t:=16) (u':=.int .u32 ((nth xs k%65536:Nat):Int)) rfl (dN (lG _ 65536)) ?_;refine dv 6 ?_;refine dv 7 ?_;refine dv 8 ?_;refine dv 9 ?_
  refine dQ 10 ([.v (.int .u32 ((nth xs (k):Nat):Int))]) (pD xs (k:=k) (by omega)) ?_
  refine dv 11 ?_ (hC:=(jC 65536 (by omega) (by simp only[jU];omega)))
  refine WD.cast (t:=22) (u':=.int .u32 ((nth xs k/65536:Nat):Int)) rfl (dN (gI _ 65536)) ?_;refine dv 12 ?_;refine dA (key:=1) 13 (by kernel_rfl) rfl rfl aR rfl trivial ?_
  refine LH (j:=2) 14 rfl aR rfl rfl rfl (.sl rfl (by rw[dP,kY,vY,dU];omega)) (.sl rfl rfl rfl) rfl rfl (by omega) (by omega) rfl rfl (by kernel_rfl) rfl ?_
  refine bM 15 ?_
  refine aJ ?_;refine rl ?_;(iterate 3 refine o1 ?_);refine nl ?_
  exact⟨k+1,by omega,by omega,aH h0 [2] ⟨rE rfl (kZ _ [nth xs k%65536,nth xs k/65536]) (Wo (by omega)).symm,rfl⟩⟩
 refine ex (sq (rl (WL.sub (Cc (i:=3) (zs':=hv xs) rfl rfl rfl (by rw[vY,dU];omega) (by rw[cT (by omega)])) ?_)))
 refine o1 ?_;refine ca (Ji (by rw[vY];omega)) aA (bC rfl) _ ?_
 refine o1 ?_;refine nl (rt ?_);exact en (.inl rfl) rfl (bB (.one (.id rfl))) (by decide) (fun h=>by cases h) (by rw[LQ hl];rfl)
theorem Au {xs zs:List Nat}(hx:xs.length<=4398046511104) (hl:Lim 65536 xs) (hz:lb xs=zs):aE true Tryz.prog 174 [] [.one (.t (sI false xs))] (aP (.one (.t (sU true zs)))):=by
 refine bD Tryz.func174 Tryz.ntmps174 fun N w c0 h0=>?_
 refine sq (rl (o1 ?_));refine nl (sq (rl ?_));(iterate 3 refine o1 ?_)
 refine aY 7 (xs.length+1) ?_
 refine o1 ?_ (hC:=(jC 2 (by omega) (by simp only[jU];omega)))
 refine WL.cast (t:=8) (u':=.int .i64 (((xs.length+1)/2:Nat):Int)) rfl (dN (gI _ 2)) ?_;refine mk (m:=(xs.length+1)/2) 0 (by omega) (IU _) ?_
 refine o1 ?_;refine nl (sq (sq (rl (o1 ?_))));refine nl (bl ?_)
 refine lp (γ:=Nat) (fun k=>bP [(0,.one (.t (sI false xs))),(3,.one (.sl 0 0 ((xs.length+1)/2))),(4,iN k)]) (fun k=>[(⟨223,1,(bF (oE xs k ((xs.length+1)/2))).map .t⟩:Ob)].map some) (fun k=>k<=xs.length) (fun k=>xs.length-k) 0 (Nat.zero_le _) (aH h0 [0] ⟨EI rfl rfl IS.symm,rfl⟩) fun k hk=>?_
 have hn:=hl.nth (by omega) k
 have hln:=QG (l:=xs) (k:=k) (N:=(xs.length+1)/2) rfl hk
 refine sq (sq (rl ?_));(iterate 4 refine o1 ?_);refine nl ?_;refine aV rfl (fun h1=>?_) (fun h1=>?_)
 ·refine sk (sq (bl (sq (rl (o1 ?_)))));refine o1 ?_;refine WL.cast (t:=17) (u':=.int .i64 ((k%2:Nat):Int)) rfl (dN (lG _ 2)) ?_
  refine o1 ?_;refine nl ?_;refine aV rfl (fun h2=>?_) (fun h2=>?_)
  ·refine rl (o1 ?_);refine o1 ?_;refine o1 ?_ (hC:=(jC 2 (by omega) (by simp only[jU];omega)))
   refine WL.cast (t:=21) (u':=.int .i64 ((k/2:Nat):Int)) rfl (dN (gI _ 2)) ?_;(iterate 3 refine o1 ?_)
   refine cX ([.v (.int .i64 ((nth xs (k):Nat):Int))]) (fD xs (k:=k) (by omega)) ?_
   refine o1 ?_;refine WL.cast (t:=26) (u':=.int .u32 ((nth xs k:Nat):Int)) rfl (dN rfl) ?_;refine o1 ?_
   refine Li (Wx (oE xs k ((xs.length+1)/2)) (k:=k/2) (v:=nth xs k) (by omega)) (EM (oE xs k ((xs.length+1)/2)) (by omega)) ?_
   refine nl (rl (o1 ?_));refine o1 ?_;refine aY 15 (k+1) ?_
   refine o1 ?_;refine nl ?_;exact⟨k+1,by omega,by omega,aH h0 [0] ⟨EI rfl rfl (IT rfl (by omega) (by omega)),rfl⟩⟩
  have hnt:=Fe (l:=xs) (k:=k) (N:=(xs.length+1)/2) rfl (by omega) (by omega)
  have hb1:=hl.nth (by omega) (k-1)
  refine bU [0] [16] ?_
  refine dv 0 ?_;refine dv 1 ?_;refine dv 2 ?_ (hC:=(jC 2 (by omega) (by simp only[jU];omega)))
  refine WD.cast (t:=30) (u':=.int .i64 ((k/2:Nat):Int)) rfl (dN (gI _ 2)) ?_;refine dv 3 ?_;refine dv 4 ?_
  refine dv 5 ?_ (hC:=(jC 2 (by omega) (by simp only[jU];omega)))
  refine WD.cast (t:=33) (u':=.int .i64 ((k/2:Nat):Int)) rfl (dN (gI _ 2)) ?_;refine dv 6 ?_;refine aCV 7 (YX (oE xs k ((xs.length+1)/2)) (k:=k/2) (by omega)) ?_
  refine dv 8 ?_;refine dv 9 ?_;refine dv 10 ?_;refine dQ 11 ([.v (.int .i64 ((nth xs (k):Nat):Int))]) (fD xs (k:=k) (by omega)) ?_
  refine dv 12 ?_;refine dv 13 ?_;refine dv 14 ?_
  refine WD.cast (t:=42) (u':=.int .u32 ((nth (oE xs k ((xs.length+1)/2)) (k/2)+65536*nth xs k:Nat):Int)) rfl (dN (by omega)) ?_
  refine dv 15 ?_
  refine FU 16 (Wx (oE xs k ((xs.length+1)/2)) (k:=k/2) (v:=nth (oE xs k ((xs.length+1)/2)) (k/2)+65536*nth xs k) (by omega)) (EM (oE xs k ((xs.length+1)/2)) (by omega)) ?_
  refine aJ ?_;refine rl (o1 ?_);refine o1 ?_;refine aY 15 (k+1) ?_
  refine o1 ?_;refine nl ?_;exact⟨k+1,by omega,by omega,aH h0 [0] ⟨EI rfl rfl (QI rfl (by omega) (by omega)),rfl⟩⟩
 refine ex (sq (rl (o1 ?_)));refine o1 ?_;refine nl (rt ?_)
 exact en (.inl rfl) rfl (bB (.one (.sl (trs:=bF (lb xs)) rfl rfl (by rw[QF rfl (by omega),Nat.mul_one,cT (by simp[kS,lS])]) (by simp[kS,lS])))) (by decide) (fun _=>.inl ⟨rfl,gW _⟩) (by subst hz;unfold sU;rw[lS];rfl)
theorem Sn {xs ys:List Nat}(hx:xs.length<=1099511627776) (hy:ys.length<=1099511627776) (hlx:Lim 65536 xs) (hly:Lim 65536 ys):aE false Tryz.prog 182 [] [.one (.t (sI false xs)),.one (.t (sI false ys))] (aP (.one (.t (sI false (dg 65536 (vl 65536 xs*vl 65536 ys)))))):=by
 refine bD Tryz.func182 Tryz.ntmps182 fun N w c0 h0=>?_
 refine sq (rl (o1 ?_));refine nl (sq (rl ?_));(iterate 5 refine o1 ?_)
 refine aY 14 (xs.length+ys.length) ?_
 refine o1 ?_;refine aY 15 (xs.length+ys.length+1) ?_
 refine mk (m:=xs.length+ys.length+1) 0 (by omega) (Fs _) ?_
 refine o1 ?_;refine nl (sq (sq (rl (o1 ?_))));refine nl (bl ?_)
 refine lp (γ:=Nat×List Nat) (fun s=>bP [(0,.one (.t (sI false xs))),(1,.one (.t (sI false ys))),(5,.one (.sl 0 0 (xs.length+ys.length+1))),(6,iN s.1)]) (fun s=>[(⟨3,1,(eR s.2).map .t⟩:Ob)].map some) (fun s=>s.1<=xs.length/\Lim 65536 s.2/\s.2.length=xs.length+ys.length+1/\vl 65536 s.2=vl 65536 (xs.take s.1)*vl 65536 ys) (fun s=>xs.length-s.1) (0,List.replicate (xs.length+ys.length+1) 0) ⟨Nat.zero_le _,Lim.replicate (by omega) _,List.length_replicate,by rw[Bh];simp[vl]⟩ (aH h0 [0] ⟨rE rfl rfl rfl,rfl⟩) ?_
 rintro⟨i,os⟩ ⟨hi,hol,hos,hv⟩;dsimp only at hi hol hos hv⊢;refine sq (sq (rl ?_));(iterate 4 refine o1 ?_);refine nl ?_;refine aV rfl (fun h1=>?_) (fun h1=>?_)
 ·refine sk (sq (bl (sq (rl (o1 ?_)))));refine nl (sq (rl (o1 ?_)));refine nl (bl ?_)
  have hil:=hlx.nth (by omega) i
  refine lp (γ:=Nat×Nat×List Nat) (fun s=>bP [(0,.one (.t (sI false xs))),(1,.one (.t (sI false ys))),(5,.one (.sl 0 0 (xs.length+ys.length+1))),(6,iN i),(7,iN s.2.1),(8,iN s.1)]) (fun s=>[(⟨3,1,(eR s.2.2).map .t⟩:Ob)].map some) (fun s=>s.1<=ys.length+1/\Lim 65536 s.2.2/\s.2.2.length=xs.length+ys.length+1/\vl 65536 s.2.2+65536^(i+s.1)*s.2.1=vl 65536 (xs.take i)*vl 65536 ys+65536^i*(nth xs i*vl 65536 (ys.take s.1))/\s.2.1<=65535) (fun s=>ys.length+1-s.1) (0,0,os) ⟨Nat.zero_le _,hol,hos,by dsimp only;rw[hv];simp[vl],Nat.zero_le _⟩ (aH h0 [0] ⟨rE rfl rfl rfl,rfl⟩) ?_
  rintro⟨k,cr,os2⟩ ⟨hk,hol2,hos2,hv2,hcb⟩;dsimp only at hk hol2 hos2 hv2 hcb⊢;refine sq (sq (rl ?_));(iterate 5 refine o1 ?_)
  refine WL.split (t:=27) rfl (fun h2=>?_) (fun h2=>?_)
  ·refine aW ?_;refine aW ?_;refine o1 ?_;refine nl (eU rfl (sk (sq (bl (sq ?_)))))
   have hkl:k<=ys.length:=by first | omega | exact Sf hlx hly (by omega) hk hv2 (by omega)
   have hon:=hol2.nth (by omega) (i+k)
   have hyn:=hly.nth (by omega) k
   have hmul:=Nat.mul_le_mul (Nat.le_of_lt_succ hil) (Nat.le_of_lt_succ hyn)
   refine rl ?_;(iterate 4 refine o1 ?_);refine aY 36 (i+k) ?_
   refine o1 ?_;refine YC (Sg os2 (k:=i+k) (by omega)) ?_
   refine o1 ?_;refine o1 ?_;refine aY 40 (nth os2 (i+k)+cr) ?_
   refine o1 ?_;refine nl (sq (sq (rl ?_)));(iterate 4 refine o1 ?_);refine nl ?_;refine aV rfl (fun h3=>?_) (fun h3=>?_)
   ·refine bU [] [11] ?_
    refine dv 0 ?_;refine dv 1 ?_;refine dv 2 ?_;refine dv 3 ?_;refine dQ 4 ([.v (.int .i64 ((nth xs (i):Nat):Int))]) (fD xs (k:=i) (by omega)) ?_
    refine dv 5 ?_;refine dv 6 ?_;refine dv 7 ?_;refine dQ 8 ([.v (.int .i64 ((nth ys (k):Nat):Int))]) (fD ys (k:=k) (by omega)) ?_
    refine dv 9 ?_;refine WD.cast (t:=54) (u':=.int .i64 ((nth xs i*nth ys k:Nat):Int)) rfl (dN (Int.natCast_mul _ _).symm) ?_;refine dv 10 ?_
    refine Er 55 (nth os2 (i+k)+cr+nth xs i*nth ys k) ?_
    refine bM 11 ?_
    refine aJ ?_;refine sq (rl ?_);(iterate 4 refine o1 ?_);refine aY 59 (i+k) ?_
    refine o1 ?_;refine o1 ?_;refine WL.cast (t:=61) (u':=.int .i64 (((nth os2 (i+k)+cr+nth xs i*nth ys k)%65536:Nat):Int)) rfl (dN (lG _ 65536)) ?_;refine o1 ?_
    refine Li (uV os2 (k:=i+k) (v:=(nth os2 (i+k)+cr+nth xs i*nth ys k)%65536) (by omega)) (yD os2 (by omega)) ?_
    refine nl (rl (o1 ?_));refine o1 ?_ (hC:=(jC 65536 (by omega) (by simp only[jU];omega)))
    refine WL.cast (t:=64) (u':=.int .i64 (((nth os2 (i+k)+cr+nth xs i*nth ys k)/65536:Nat):Int)) rfl (dN (gI _ 65536)) ?_;refine o1 ?_;refine nl (rl ?_)
    refine o1 ?_;refine o1 ?_;refine aY 32 (k+1) ?_
    refine o1 ?_;refine nl ?_;have hst:=uQ (x:=nth os2 (i+k)+cr+nth xs i*nth ys k) (by omega) hv2 (by rfl)
    exact⟨(k+1,(nth os2 (i+k)+cr+nth xs i*nth ys k)/65536,os2.set (i+k) ((nth os2 (i+k)+cr+nth xs i*nth ys k)%65536)),by dsimp only;omega,⟨by dsimp only;omega,hol2.set _ (Nat.mod_lt _ (by omega)),by rw[List.length_set];exact hos2,hst,by dsimp only;omega⟩,aH h0 [0] ⟨rE rfl rfl rfl,rfl⟩⟩
   refine sk (sq (rl ?_));(iterate 4 refine o1 ?_);refine aY 59 (i+k) ?_
   refine o1 ?_;refine o1 ?_;refine WL.cast (t:=61) (u':=.int .i64 (((nth os2 (i+k)+cr)%65536:Nat):Int)) rfl (dN (lG _ 65536)) ?_;refine o1 ?_
   refine Li (uV os2 (k:=i+k) (v:=(nth os2 (i+k)+cr)%65536) (by omega)) (yD os2 (by omega)) ?_
   refine nl (rl (o1 ?_));refine o1 ?_ (hC:=(jC 65536 (by omega) (by simp only[jU];omega)))
   refine WL.cast (t:=64) (u':=.int .i64 (((nth os2 (i+k)+cr)/65536:Nat):Int)) rfl (dN (gI _ 65536)) ?_;refine o1 ?_;refine nl (rl (o1 ?_));refine o1 ?_
   refine aY 32 (k+1) ?_
   refine o1 ?_;refine nl ?_;have hny:nth ys k=0:=fP (by omega)
   have hst:=uQ (x:=nth os2 (i+k)+cr) (by omega) hv2 (by rw[hny,Nat.mul_zero,Nat.add_zero])
   exact⟨(k+1,(nth os2 (i+k)+cr)/65536,os2.set (i+k) ((nth os2 (i+k)+cr)%65536)),by dsimp only;omega,⟨by dsimp only;omega,hol2.set _ (Nat.mod_lt _ (by omega)),by rw[List.length_set];exact hos2,hst,by dsimp only;omega⟩,aH h0 [0] ⟨rE rfl rfl rfl,rfl⟩⟩
  (iterate 3 refine o1 ?_);refine nl ?_;refine aV rfl (fun h4=>?_) (fun h4=>?_)
  ·refine sk (sq (bl (sq ?_)));have hkl:k<=ys.length:=by first | omega | exact Sf hlx hly (by omega) hk hv2 (by omega)
   have hon:=hol2.nth (by omega) (i+k)
   have hyn:=hly.nth (by omega) k
   have hmul:=Nat.mul_le_mul (Nat.le_of_lt_succ hil) (Nat.le_of_lt_succ hyn)
   refine rl ?_;(iterate 4 refine o1 ?_);refine aY 36 (i+k) ?_
   refine o1 ?_;refine YC (Sg os2 (k:=i+k) (by omega)) ?_
   refine o1 ?_;refine o1 ?_;refine aY 40 (nth os2 (i+k)+cr) ?_
   refine o1 ?_;refine nl (sq (sq (rl ?_)));(iterate 4 refine o1 ?_);refine nl ?_;refine aV rfl (fun h5=>?_) (fun h5=>?_)
   ·refine bU [] [11] ?_
    refine dv 0 ?_;refine dv 1 ?_;refine dv 2 ?_;refine dv 3 ?_;refine dQ 4 ([.v (.int .i64 ((nth xs (i):Nat):Int))]) (fD xs (k:=i) (by omega)) ?_
    refine dv 5 ?_;refine dv 6 ?_;refine dv 7 ?_;refine dQ 8 ([.v (.int .i64 ((nth ys (k):Nat):Int))]) (fD ys (k:=k) (by omega)) ?_
    refine dv 9 ?_;refine WD.cast (t:=54) (u':=.int .i64 ((nth xs i*nth ys k:Nat):Int)) rfl (dN (Int.natCast_mul _ _).symm) ?_;refine dv 10 ?_
    refine Er 55 (nth os2 (i+k)+cr+nth xs i*nth ys k) ?_
    refine bM 11 ?_
    refine aJ ?_;refine sq (rl ?_);(iterate 4 refine o1 ?_);refine aY 59 (i+k) ?_
    refine o1 ?_;refine o1 ?_;refine WL.cast (t:=61) (u':=.int .i64 (((nth os2 (i+k)+cr+nth xs i*nth ys k)%65536:Nat):Int)) rfl (dN (lG _ 65536)) ?_;refine o1 ?_
    refine Li (uV os2 (k:=i+k) (v:=(nth os2 (i+k)+cr+nth xs i*nth ys k)%65536) (by omega)) (yD os2 (by omega)) ?_
    refine nl (rl (o1 ?_));refine o1 ?_ (hC:=(jC 65536 (by omega) (by simp only[jU];omega)))
    refine WL.cast (t:=64) (u':=.int .i64 (((nth os2 (i+k)+cr+nth xs i*nth ys k)/65536:Nat):Int)) rfl (dN (gI _ 65536)) ?_;refine o1 ?_;refine nl (rl ?_)
    refine o1 ?_;refine o1 ?_;refine aY 32 (k+1) ?_
    refine o1 ?_;refine nl ?_;have hst:=uQ (x:=nth os2 (i+k)+cr+nth xs i*nth ys k) (by omega) hv2 (by rfl)
    exact⟨(k+1,(nth os2 (i+k)+cr+nth xs i*nth ys k)/65536,os2.set (i+k) ((nth os2 (i+k)+cr+nth xs i*nth ys k)%65536)),by dsimp only;omega,⟨by dsimp only;omega,hol2.set _ (Nat.mod_lt _ (by omega)),by rw[List.length_set];exact hos2,hst,by dsimp only;omega⟩,aH h0 [0] ⟨rE rfl rfl rfl,rfl⟩⟩
   refine sk (sq (rl ?_));(iterate 4 refine o1 ?_);refine aY 59 (i+k) ?_
   refine o1 ?_;refine o1 ?_;refine WL.cast (t:=61) (u':=.int .i64 (((nth os2 (i+k)+cr)%65536:Nat):Int)) rfl (dN (lG _ 65536)) ?_;refine o1 ?_
   refine Li (uV os2 (k:=i+k) (v:=(nth os2 (i+k)+cr)%65536) (by omega)) (yD os2 (by omega)) ?_
   refine nl (rl (o1 ?_));refine o1 ?_ (hC:=(jC 65536 (by omega) (by simp only[jU];omega)))
   refine WL.cast (t:=64) (u':=.int .i64 (((nth os2 (i+k)+cr)/65536:Nat):Int)) rfl (dN (gI _ 65536)) ?_;refine o1 ?_;refine nl (rl (o1 ?_));refine o1 ?_
   refine aY 32 (k+1) ?_
   refine o1 ?_;refine nl ?_;have hny:nth ys k=0:=fP (by omega)
   have hst:=uQ (x:=nth os2 (i+k)+cr) (by omega) hv2 (by rw[hny,Nat.mul_zero,Nat.add_zero])
   exact⟨(k+1,(nth os2 (i+k)+cr)/65536,os2.set (i+k) ((nth os2 (i+k)+cr)%65536)),by dsimp only;omega,⟨by dsimp only;omega,hol2.set _ (Nat.mod_lt _ (by omega)),by rw[List.length_set];exact hos2,hst,by dsimp only;omega⟩,aH h0 [0] ⟨rE rfl rfl rfl,rfl⟩⟩
  refine ex (rl (o1 ?_));refine o1 ?_;refine aY 22 (i+1) ?_
  refine o1 ?_;refine nl ?_;have hcr0:cr=0:=by omega
  rw[hcr0,Nat.mul_zero,Nat.add_zero,Jf (by omega)]at hv2
  exact⟨(i+1,os2),by dsimp only;omega,⟨by dsimp only;omega,hol2,hos2,hv2⟩,aH h0 [0] ⟨rE rfl rfl rfl,rfl⟩⟩
 refine ex (sq (rl ?_));rw[cK 65536 (by omega)]at hv
 refine WL.sub (Cc (i:=5) (zs':=os) rfl rfl rfl (by omega) rfl) ?_
 refine o1 ?_;refine ca (Ji (by omega)) aA (bC rfl) _ ?_
 refine o1 ?_;refine nl (rt ?_);exact en (.inl rfl) rfl (bB (.one (.id rfl))) (by decide) (fun h=>by cases h) (by rw[Gt (by omega) hol hv];rfl)
theorem jE {a b:Zi}{k k':Int}(ha:Zn a k) (hb:Zn b k'):aE true Tryz.prog 124 [] [gF a,gF b] (aP (kO (k*k'))):=by
 refine bD Tryz.func124 Tryz.ntmps124 fun N w c0 h0=>?_
 have hkl:=ha.len
 have hkl':=hb.len
 refine sq (rl (bx 0 ?_));refine bx 1 ?_;refine al 2 ?_;refine nl (sq (rl (ld ?_)));refine ca (iR ha) aA (aM rfl) _ ?_
 refine st ?_;refine nl (sq (rl (ld ?_)));refine ca (iR hb) aA (aM rfl) _ ?_;refine st ?_;refine nl (sq ?_)
 refine bU [0,1,2] [14] ?_
 refine dv 0 ?_;refine aF 1 ?_;refine dv 2 ?_;refine aF 3 ?_;refine dv 4 ?_;refine dv 5 ?_;refine aF 6 ?_;refine dv 8 ?_;refine aF 9 ?_
 have hn1:=eZ (v:=vl 4294967296 (dg 4294967296 (k).natAbs)) (L:=(dg 4294967296 (k).natAbs).length) (by rw[cL (by omega)];exact aX _)
 refine aG 7 rfl (qM (by omega) (aU (by omega) _)) aA (bC rfl) _ ?_
 have hn2:=eZ (v:=vl 4294967296 (dg 4294967296 (k').natAbs)) (L:=(dg 4294967296 (k').natAbs).length) (by rw[cL (by omega)];exact aX _)
 refine aG 10 rfl (qM (by omega) (aU (by omega) _)) aA (bC rfl) _ ?_
 have hn3:=Db (xs:=(dg 65536 (vl 4294967296 (dg 4294967296 (k).natAbs)))) (ys:=(dg 65536 (vl 4294967296 (dg 4294967296 (k').natAbs)))) (aU (by omega) _) (aU (by omega) _)
 refine aG 11 rfl (Sn (by omega) (by omega) (aU (by omega) _) (aU (by omega) _)) aA (cO rfl rfl) _ ?_
 have hn4:=rG (vl 65536 (dg 65536 (vl 4294967296 (dg 4294967296 (k).natAbs)))*vl 65536 (dg 65536 (vl 4294967296 (dg 4294967296 (k').natAbs))))
 refine aG 12 rfl (Au (zs:=(dg 4294967296 (vl 65536 (dg 65536 (vl 4294967296 (dg 4294967296 (k).natAbs)))*vl 65536 (dg 65536 (vl 4294967296 (dg 4294967296 (k').natAbs)))))) (by omega) (aU (by omega) _) (En _)) aA (bC rfl) _ ?_
 refine qA 3 13 rfl (oT (K:=k*k') (by omega) (aU (by omega) _) (by simp only[cL (B:=4294967296) (by omega),cL (B:=65536) (by omega)];exact Wl k k')) aA (cO rfl rfl) ?_
 refine dst 14 ?_;refine aJ ?_;refine rt ?_
 exact en (.inl rfl) rfl (bB (.agg (.cons (.id rfl) (.cons (.sl (trs:=bF (dg 4294967296 (k*k').natAbs)) rfl rfl (cC _) (bT _)) .nil)))) (by decide) (fun _=>fT (k*k')) rfl
theorem QR {u v:Nat}(hx:(dg 65536 (u)).length<=4398046511104) (hy:(dg 65536 (v)).length<=4398046511104):aE true Tryz.prog 239 [] [.one (.t (sI false (dg 65536 u))),.one (.t (sI false (dg 65536 v)))] (aP (.one (tv (.bool (decide (u<v)))))):=by
 refine bD Tryz.func239 Tryz.ntmps239 fun N w c0 h0=>?_
 refine sq (rl (o1 ?_));refine nl (sq (sq (rl ?_)));(iterate 5 refine o1 ?_);refine nl ?_;refine aV rfl (fun h1=>?_) (fun h1=>?_)
 ·refine sq (rl ?_);(iterate 6 refine o1 ?_);refine nl (rt ?_)
  refine en (.inl rfl) rfl (bB (bO _)) (by decide) (fun _=>trivial) (congrArg (fun z=>FV.one (tv (.bool z))) ?_)
  exact IP rfl rfl (by omega)
 refine sk (sq (sq (rl ?_)));(iterate 4 refine o1 ?_);refine nl (bl ?_)
 refine lp (γ:=Nat) (fun k=>bP [(0,.one (.t (sI false (dg 65536 u)))),(1,.one (.t (sI false (dg 65536 v)))),(5,.one (tv (.int .i64 ((k:Nat)-1))))]) (fun k=>([]:List Ob).map some) (fun k=>(∀j,k<=j->nth (dg 65536 (u)) j=nth (dg 65536 (v)) j)/\k<=(dg 65536 (u)).length) (fun k=>k) (dg 65536 (u)).length ⟨fun j hj=>by rw[fP (by omega),fP (by omega)],aX _⟩ (aH h0 [] rfl) fun k hk=>?_
 refine sq (sq (rl (o1 ?_)));refine o1 ?_;refine nl ?_;refine aV rfl (fun h2=>?_) (fun h2=>?_)
 ·refine sk (sq (bl (sq ?_)));refine bU [] [] ?_
  refine dv 0 ?_;refine dv 1 ?_;refine Er 24 (k-1) ?_
  refine dv 2 ?_;refine dQ 3 ([.v (.int .i64 ((nth (dg 65536 (u)) (k-1):Nat):Int))]) (fD (dg 65536 (u)) (k:=k-1) (by omega)) ?_
  refine dv 4 ?_;refine dv 5 ?_;refine Er 28 (k-1) ?_
  refine dv 6 ?_;refine dQ 7 ([.v (.int .i64 ((nth (dg 65536 (v)) (k-1):Nat):Int))]) (fD (dg 65536 (v)) (k:=k-1) (by omega)) ?_
  refine dv 8 ?_;refine aJ ?_;refine aV rfl (fun h3=>?_) (fun h3=>?_)
  ·refine sq ?_;refine bU [] [9] ?_
   refine dv 0 ?_;refine dv 1 ?_;refine Er 33 (k-1) ?_
   refine dv 2 ?_;refine dQ 3 ([.v (.int .i64 ((nth (dg 65536 (u)) (k-1):Nat):Int))]) (fD (dg 65536 (u)) (k:=k-1) (by omega)) ?_
   refine dv 4 ?_;refine dv 5 ?_;refine Er 37 (k-1) ?_
   refine dv 6 ?_;refine dQ 7 ([.v (.int .i64 ((nth (dg 65536 (v)) (k-1):Nat):Int))]) (fD (dg 65536 (v)) (k:=k-1) (by omega)) ?_
   refine dv 8 ?_;refine bM 9 ?_
   refine aJ ?_;refine rt ?_;refine en (.inl rfl) rfl (bB (bO _)) (by decide) (fun _=>trivial) (congrArg (fun z=>FV.one (tv (.bool z))) ?_)
   exact QB (k:=k-1) (fun j hj=>hk.1 j (by omega)) (by omega)
  refine sk (rl ?_);(iterate 3 refine o1 ?_);refine nl ?_
  exact⟨k-1,by omega,⟨fun j hj=>(Nat.eq_or_lt_of_le hj).elim (fun h9=>by rw[<-h9];omega) (fun h9=>hk.1 j (by omega)),by omega⟩,dC h0 [] _ _ (by decide) ⟨rfl,rfl,congrArg (fun z=>some (FV.one (tv (.int .i64 z)))) (by omega),trivial⟩ rfl⟩
 refine ex (sq (rl (o1 ?_)));refine nl (rt ?_)
 refine en (.inl rfl) rfl (bB (bO _)) (by decide) (fun _=>trivial) (congrArg (fun z=>FV.one (tv (.bool z))) ?_)
 have he:=EF (fun j=>hk.1 j (by omega))
 rw[cL (by omega),cL (by omega)]at he
 rw[he,decide_eq_false (Nat.lt_irrefl v)]
theorem QS {u v n:Nat}(hx:(dg 65536 (u)).length<=1099511627776) (hy:(dg 65536 (v)).length<=1099511627776) (hn:n<=65536) (hnv:n*v<=u):aE false Tryz.prog 223 [] [.one (.t (sI false (dg 65536 u))),.one (.t (sI false (dg 65536 v))),.one (tv (.int .i64 ((n:Nat):Int)))] (aP (.one (.t (sI false (dg 65536 (u-n*v)))))):=by
 refine bD Tryz.func223 Tryz.ntmps223 fun N w c0 h0=>?_
 have hlu:=aU (B:=65536) (by omega) u
 have hlv:=aU (B:=65536) (by omega) v
 refine sq (rl (o1 ?_));refine nl (sq (rl (o1 ?_)));refine nl (sq (rl (o1 ?_)));refine nl (sq (sq ?_))
 refine rl (o1 ?_);refine nl (bl ?_)
 refine lp (γ:=Nat×Nat×List Nat) (fun s=>bP [(0,.one (.t (sI false (dg 65536 u)))),(1,.one (.t (sI false (dg 65536 v)))),(2,iN n),(7,.one (.sl 0 0 s.1)),(8,iN s.2.1),(9,iN s.1)]) (fun s=>[(⟨3,1,(eR s.2.2).map .t⟩:Ob)].map some) (fun s=>s.2.2.length=s.1/\Lim 65536 s.2.2/\vl 65536 s.2.2+n*vl 65536 ((dg 65536 (v)).take s.1)=vl 65536 ((dg 65536 (u)).take s.1)+65536^s.1*s.2.1/\s.2.1<=65536/\s.1<=(dg 65536 (u)).length) (fun s=>(dg 65536 (u)).length-s.1) (0,0,[]) ⟨rfl,Lim.nil,by simp[vl],Nat.zero_le _,Nat.zero_le _⟩ ((nr (i:=7) 0 3 1 rfl rfl rfl rfl).trans (aH h0 [0] ⟨aD (l:=[]) rfl,rfl⟩)) ?_
 rintro⟨k,br,os⟩ ⟨hos,hol,hv,hc1,hkm⟩;dsimp only at hos hol hv hc1 hkm⊢;have hn1:=hlu.nth (by omega) k
 have hn2:=hlv.nth (by omega) k
 have hmul:=Nat.mul_le_mul hn (Nat.le_of_lt_succ hn2)
 refine sq (sq (rl ?_));(iterate 4 refine o1 ?_);refine nl ?_;refine aV rfl (fun h1=>?_) (fun h1=>?_)
 ·refine sk (sq (bl (sq (rl ?_))));(iterate 3 refine o1 ?_)
  refine cX ([.v (.int .i64 ((nth (dg 65536 (u)) (k):Nat):Int))]) (fD (dg 65536 (u)) (k:=k) (by omega)) ?_
  (iterate 3 refine o1 ?_);refine nl (sq (sq (rl ?_)));(iterate 4 refine o1 ?_);refine nl ?_;refine aV rfl (fun h2=>?_) (fun h2=>?_)
  ·refine rl ?_;(iterate 5 refine o1 ?_);refine cX ([.v (.int .i64 ((nth (dg 65536 (v)) (k):Nat):Int))]) (fD (dg 65536 (v)) (k:=k) (by omega)) ?_
   (iterate 3 refine o1 ?_);refine nl (sq (rl (o1 ?_)));refine nl (sq (sq (rl (o1 ?_))));refine o1 ?_;refine nl ?_
   refine aV rfl (fun h3=>?_) (fun h3=>?_)
   ·refine sq (rl (o1 ?_));refine o1 ?_
    refine aY 38 (65535+n*nth (dg 65536 (v)) k+br-nth (dg 65536 (u)) k) ?_
    refine o1 ?_ (hC:=(jC 65536 (by omega) (by simp only[jU];omega)))
    refine WL.cast (t:=39) (u':=.int .i64 (((65535+n*nth (dg 65536 (v)) k+br-nth (dg 65536 (u)) k)/65536:Nat):Int)) rfl (dN (gI _ 65536)) ?_;refine o1 ?_;refine nl ?_
    refine rl ?_;(iterate 5 refine o1 ?_);refine nl (rl (o1 ?_));refine o1 ?_
    refine aY 45 (nth (dg 65536 (u)) k+65536*((65535+n*nth (dg 65536 (v)) k+br-nth (dg 65536 (u)) k)/65536)-br-n*nth (dg 65536 (v)) k) ?_
    refine bs 1 ?_;refine fF (j:=2) aR rfl rfl rfl rfl (.sl rfl (by rw[dP,kY,hos];omega)) (.sl rfl rfl rfl) rfl rfl rfl (by omega) (by omega) ?_
    refine o1 ?_;refine nl (rl (o1 ?_));refine o1 ?_;refine aY 16 (k+1) ?_
    refine o1 ?_;refine nl ?_
    have hst:=xB (d:=nth (dg 65536 (u)) k+65536*((65535+n*nth (dg 65536 (v)) k+br-nth (dg 65536 (u)) k)/65536)-br-n*nth (dg 65536 (v)) k) (br:=br) (br':=(65535+n*nth (dg 65536 (v)) k+br-nth (dg 65536 (u)) k)/65536) hos hv (by omega)
    exact⟨(k+1,(65535+n*nth (dg 65536 (v)) k+br-nth (dg 65536 (u)) k)/65536,os++[nth (dg 65536 (u)) k+65536*((65535+n*nth (dg 65536 (v)) k+br-nth (dg 65536 (u)) k)/65536)-br-n*nth (dg 65536 (v)) k]),by dsimp only;omega,⟨by simp[hos],hol.append (Lim.cons (by omega) Lim.nil),hst,by dsimp only;omega,by dsimp only;omega⟩,aH h0 [2] ⟨rE rfl (kZ _ [nth (dg 65536 (u)) k+65536*((65535+n*nth (dg 65536 (v)) k+br-nth (dg 65536 (u)) k)/65536)-br-n*nth (dg 65536 (v)) k]) rfl,rfl⟩⟩
   refine sk (rl (o1 ?_));refine o1 ?_;refine aY 45 (nth (dg 65536 (u)) k-br-n*nth (dg 65536 (v)) k) ?_
   refine bs 1 ?_;refine fF (j:=2) aR rfl rfl rfl rfl (.sl rfl (by rw[dP,kY,hos];omega)) (.sl rfl rfl rfl) rfl rfl rfl (by omega) (by omega) ?_
   refine o1 ?_;refine nl (rl (o1 ?_));refine o1 ?_;refine aY 16 (k+1) ?_
   refine o1 ?_;refine nl ?_;have hst:=xB (d:=nth (dg 65536 (u)) k-br-n*nth (dg 65536 (v)) k) (br:=br) (br':=0) hos hv (by omega)
   exact⟨(k+1,0,os++[nth (dg 65536 (u)) k-br-n*nth (dg 65536 (v)) k]),by dsimp only;omega,⟨by simp[hos],hol.append (Lim.cons (by omega) Lim.nil),hst,by dsimp only;omega,by dsimp only;omega⟩,aH h0 [2] ⟨rE rfl (kZ _ [nth (dg 65536 (u)) k-br-n*nth (dg 65536 (v)) k]) rfl,rfl⟩⟩
  refine sk (sq (rl (o1 ?_)));refine nl (sq (sq (rl (o1 ?_))));refine o1 ?_;refine nl ?_
  refine aV rfl (fun h4=>?_) (fun h4=>?_)
  ·refine sq (rl (o1 ?_));refine o1 ?_;refine aY 38 (65535+br-nth (dg 65536 (u)) k) ?_
   refine o1 ?_ (hC:=(jC 65536 (by omega) (by simp only[jU];omega)))
   refine WL.cast (t:=39) (u':=.int .i64 (((65535+br-nth (dg 65536 (u)) k)/65536:Nat):Int)) rfl (dN (gI _ 65536)) ?_;refine o1 ?_;refine nl (rl ?_)
   (iterate 5 refine o1 ?_);refine nl (rl (o1 ?_));refine o1 ?_
   refine aY 45 (nth (dg 65536 (u)) k+65536*((65535+br-nth (dg 65536 (u)) k)/65536)-br) ?_
   refine bs 1 ?_;refine fF (j:=2) aR rfl rfl rfl rfl (.sl rfl (by rw[dP,kY,hos];omega)) (.sl rfl rfl rfl) rfl rfl rfl (by omega) (by omega) ?_
   refine o1 ?_;refine nl (rl (o1 ?_));refine o1 ?_;refine aY 16 (k+1) ?_
   refine o1 ?_;refine nl ?_;have hny:nth (dg 65536 (v)) k=0:=fP (by omega)
   have hst:=xB (d:=nth (dg 65536 (u)) k+65536*((65535+br-nth (dg 65536 (u)) k)/65536)-br) (br:=br) (br':=(65535+br-nth (dg 65536 (u)) k)/65536) hos hv (by rw[hny,Nat.mul_zero];omega)
   exact⟨(k+1,(65535+br-nth (dg 65536 (u)) k)/65536,os++[nth (dg 65536 (u)) k+65536*((65535+br-nth (dg 65536 (u)) k)/65536)-br]),by dsimp only;omega,⟨by simp[hos],hol.append (Lim.cons (by omega) Lim.nil),hst,by dsimp only;omega,by dsimp only;omega⟩,aH h0 [2] ⟨rE rfl (kZ _ [nth (dg 65536 (u)) k+65536*((65535+br-nth (dg 65536 (u)) k)/65536)-br]) rfl,rfl⟩⟩
  refine sk (rl (o1 ?_));refine o1 ?_;refine aY 45 (nth (dg 65536 (u)) k-br) ?_
  refine bs 1 ?_;refine fF (j:=2) aR rfl rfl rfl rfl (.sl rfl (by rw[dP,kY,hos];omega)) (.sl rfl rfl rfl) rfl rfl rfl (by omega) (by omega) ?_
  refine o1 ?_;refine nl (rl (o1 ?_));refine o1 ?_;refine aY 16 (k+1) ?_
  refine o1 ?_;refine nl ?_;have hny:nth (dg 65536 (v)) k=0:=fP (by omega)
  have hst:=xB (d:=nth (dg 65536 (u)) k-br) (br:=br) (br':=0) hos hv (by rw[hny,Nat.mul_zero];omega)
  exact⟨(k+1,0,os++[nth (dg 65536 (u)) k-br]),by dsimp only;omega,⟨by simp[hos],hol.append (Lim.cons (by omega) Lim.nil),hst,by dsimp only;omega,by dsimp only;omega⟩,aH h0 [2] ⟨rE rfl (kZ _ [nth (dg 65536 (u)) k-br]) rfl,rfl⟩⟩
 refine ex (sq (rl ?_));have hve:vl 65536 os=u-n*v:=IQ rfl (by omega) hol hv hnv
 refine WL.sub (Cc (i:=7) (zs':=os) rfl rfl rfl (by omega) rfl) ?_
 refine o1 ?_;refine ca (Ji (by omega)) aA (bC rfl) _ ?_
 refine o1 ?_;refine nl (rt ?_);exact en (.inl rfl) rfl (bB (.one (.id rfl))) (by decide) (fun h=>by cases h) (by rw[Gt (by omega) hol hve];rfl)
theorem JD {u v:Nat}(hx:(dg 65536 (u)).length<=1099511627776) (hy:(dg 65536 (v)).length<=1099511627776) (huv:u<65536*v):aE true Tryz.prog 222 [] [.one (.t (sI false (dg 65536 u))),.one (.t (sI false (dg 65536 v)))] (aP (.one (tv (.int .i64 ((u/v:Nat):Int))))):=by
 refine bD Tryz.func222 Tryz.ntmps222 fun N w c0 h0=>?_
 refine sq (rl (o1 ?_));refine nl (sq (rl (o1 ?_)));refine o1 ?_;refine nl (sq (bl ?_))
 refine lp (γ:=Nat×Nat) (fun s=>bP [(0,.one (.t (sI false (dg 65536 u)))),(1,.one (.t (sI false (dg 65536 v)))),(5,iN s.1),(6,iN s.2)]) (fun s=>([]:List Ob).map some) (fun s=>s.1*v<=u/\u<s.2*v/\s.1<s.2/\s.2<=65536) (fun s=>s.2-s.1) (0,65536) ⟨by simp,huv,by decide,aX _⟩ (aH h0 [] rfl) ?_
 rintro⟨lo,hi⟩ ⟨h91,h92,h93,h94⟩;dsimp only at h91 h92 h93 h94⊢;refine sq (sq (rl ?_));(iterate 3 refine o1 ?_)
 refine aY 10 (hi-lo) ?_
 refine o1 ?_;refine nl ?_;refine aV rfl (fun h1=>?_) (fun h1=>?_)
 ·refine sk (bl (sq (rl ?_)));(iterate 3 refine o1 ?_);refine aY 14 (lo+hi) ?_
  refine o1 ?_ (hC:=(jC 2 (by omega) (by simp only[jU];omega)))
  refine WL.cast (t:=15) (u':=.int .i64 (((lo+hi)/2:Nat):Int)) rfl (dN (gI _ 2)) ?_;refine o1 ?_;refine nl (sq (rl ?_));(iterate 3 refine o1 ?_)
  refine bs 0 ?_;refine WL.sub (Cc (i:=19) (zs:=[(lo+hi)/2]) (zs':=[(lo+hi)/2]) rfl rfl rfl rfl rfl) ?_;have h1l:[(lo+hi)/2].length=1:=rfl
  have hn2:=Db (xs:=(dg 65536 (v))) (ys:=[(lo+hi)/2]) (aU (by omega) _) (Lim.cons (d:=(lo+hi)/2) (by omega) Lim.nil)
  refine ca (Sn (by omega) (by omega) (aU (by omega) _) (Lim.cons (d:=(lo+hi)/2) (by omega) Lim.nil)) aA (cO rfl rfl) _ ?_
  refine ca (QR (by omega) (by omega)) aA (cO rfl rfl) _ ?_
  refine nl ?_;refine aV rfl (fun h3=>?_) (fun h3=>?_)
  ·refine rl (o1 ?_);refine o1 ?_;refine nl ?_;rw[cL (by omega),xN,Nat.mul_comm]at h3
   exact⟨(lo,(lo+hi)/2),by dsimp only;omega,⟨by dsimp only;omega,by dsimp only;omega,by dsimp only;omega,by dsimp only;omega⟩,aH h0 [] rfl⟩
  refine rl (o1 ?_);refine o1 ?_;refine nl ?_;rw[cL (by omega),xN,Nat.mul_comm]at h3
  exact⟨((lo+hi)/2,hi),by dsimp only;omega,⟨by dsimp only;omega,by dsimp only;omega,by dsimp only;omega,by dsimp only;omega⟩,aH h0 [] rfl⟩
 refine ex (sq (rl (o1 ?_)));refine o1 ?_;refine nl (rt ?_)
 exact en (.inl rfl) rfl (bB (bO _)) (by decide) (fun _=>trivial) (congrArg (fun z=>FV.one (tv (.int .i64 ((z:Nat):Int)))) (EJ h91 h92 (by omega)).symm)
theorem ET {xs zs:List Nat}(hx:xs.length<=4398046511104) (hz:trim xs=zs):aE false Tryz.prog 221 [] [.one (.t (sI false xs))] (aP (.one (.t (sI false zs)))):=by
 subst hz
 exact Ji hx
theorem So {u v:Nat}(hx:(dg 65536 (u)).length<=549755813888) (hy:(dg 65536 (v)).length<=549755813888) (hvp:0<v):aE false Tryz.prog 172 [] [.one (.t (sI false (dg 65536 u))),.one (.t (sI false (dg 65536 v)))] (aP (.tup [.one (.t (sI false (dg 65536 (u/v)))),.one (.t (sI false (dg 65536 (u%v))))])):=by
 refine bD Tryz.func172 Tryz.ntmps172 fun N w c0 h0=>?_
 have hlu:=aU (B:=65536) (by omega) u
 refine sq (rl (o1 ?_));refine o1 ?_;refine nl (sq (rl (o1 ?_)));refine o1 ?_
 refine WL.cast (t:=11) (u':=.int .i64 (((dg 65536 (u)).length:Nat):Int)) rfl (dN rfl) ?_;refine mk (m:=(dg 65536 (u)).length) 0 (by omega) (Fs _) ?_
 refine o1 ?_;refine nl (sq (rl (o1 ?_)));refine nl (sq (sq (rl ?_)));(iterate 4 refine o1 ?_);refine nl (bl ?_)
 refine lp (γ:=Nat×List Nat×Nat) (fun s=>bP [(0,.one (.t (sI false (dg 65536 u)))),(1,.one (.t (sI false (dg 65536 v)))),(6,.one (.sl 0 0 (dg 65536 (u)).length)),(7,.one (.t (sI false (dg 65536 s.2.2)))),(8,.one (tv (.int .i64 ((s.1:Nat)-1))))]) (fun s=>[(⟨3,1,(eR s.2.1).map .t⟩:Ob)].map some) (fun s=>s.2.1.length=(dg 65536 (u)).length/\Lim 65536 s.2.1/\vl 65536 ((dg 65536 (u)).drop s.1)=v*vl 65536 (s.2.1.drop s.1)+s.2.2/\s.2.2<v/\s.1<=(dg 65536 (u)).length) (fun s=>s.1) ((dg 65536 (u)).length,List.replicate (dg 65536 (u)).length 0,0) ⟨List.length_replicate,Lim.replicate (by omega) _,by dsimp only;rw[List.drop_of_length_le (aX _),List.drop_of_length_le (by rw[List.length_replicate];exact aX _)];simp[vl],hvp,aX _⟩ (((nr (i:=7) 1 3 1 rfl rfl rfl rfl).trans (Cc (i:=7) (k:=1) (zs:=[]) (zs':=dg 65536 0) rfl rfl rfl rfl (kI _).symm)).trans (aH h0 [0] ⟨rE rfl rfl rfl,rfl⟩)) ?_
 rintro⟨k,os,r⟩ ⟨hos,hol,hv,hr,hkm⟩;dsimp only at hos hol hv hr hkm⊢;have hrl:=dS (B:=65536) (by omega) (Nat.le_of_lt hr)
 have hau:=hlu.nth (by omega) (k-1)
 have hce:=IR (a:=nth (dg 65536 (u)) (k-1)) hau hr
 have hql:(nth (dg 65536 (u)) (k-1)+65536*r)/v<65536:=(Nat.div_lt_iff_lt_mul hvp).2 (by omega)
 refine sq (sq (rl (o1 ?_)));refine o1 ?_;refine nl ?_;refine aV rfl (fun h1=>?_) (fun h1=>?_)
 ·refine sk (sq (bl (sq (rl (o1 ?_)))));refine o1 ?_;refine aY 21 (k-1) ?_
  refine o1 ?_;refine cX ([.v (.int .i64 ((nth (dg 65536 (u)) (k-1):Nat):Int))]) (fD (dg 65536 (u)) (k:=k-1) (by omega)) ?_
  refine bs 1 ?_;refine o1 ?_;refine nl (sq (rl (o1 ?_)));refine o1 ?_
  refine fF (j:=2) aR rfl rfl rfl rfl (.sl rfl (rfl)) .fz (YU _) (IM _) rfl (by omega) (by omega) ?_
  refine WL.sub (Cc (i:=27) (k:=2) (zs:=[nth (dg 65536 (u)) (k-1)]++dg 65536 r) (zs':=[nth (dg 65536 (u)) (k-1)]++dg 65536 r) rfl rfl (congrArg (fun l=>some (⟨3,1,l⟩:Ob)) (kZ [nth (dg 65536 (u)) (k-1)] (dg 65536 r))) (by rw[cJ];rfl) rfl) ?_
  refine ca (ET (zs:=(dg 65536 (nth (dg 65536 (u)) (k-1)+65536*r))) (by rw[cJ];exact Nat.le_trans (Nat.add_le_add_left hrl 1) (by omega)) (Dc (by omega))) aA (bC rfl) _ ?_
  refine o1 ?_;refine nl (sq (rl (o1 ?_)));refine o1 ?_;refine aY 30 (k-1) ?_
  refine o1 ?_;refine o1 ?_;refine ca (JD (by omega) (by omega) (by omega)) aA (cO rfl rfl) _ ?_
  refine o1 ?_;refine Li (uV os (k:=k-1) (v:=(nth (dg 65536 (u)) (k-1)+65536*r)/v) (by omega)) (yD os (by omega)) ?_
  refine nl (rl ?_);(iterate 4 refine o1 ?_);refine aY 38 (k-1) ?_
  refine o1 ?_;refine YC (Sg (os.set (k-1) ((nth (dg 65536 (u)) (k-1)+65536*r)/v)) (k:=k-1) (by rw[List.length_set];omega)) ?_
  refine WL.cast (t:=40) (u':=.int .i64 (((nth (dg 65536 (u)) (k-1)+65536*r)/v:Nat):Int)) rfl (dN (by rw[Se (by omega)])) ?_
  refine ca (QS (by omega) (by omega) (by omega) (Nat.div_mul_le_self _ _)) aA ⟨a1 rfl,a1 rfl,a1 rfl,rfl⟩ _ ?_
  refine o1 ?_;refine nl (rl ?_);(iterate 3 refine o1 ?_);refine nl ?_
  have hst:=Zq (k:=k) (q:=(nth (dg 65536 (u)) (k-1)+65536*r)/v) (by omega) (by omega) (by omega) hv rfl rfl
  have hmod:=Nat.mod_lt (nth (dg 65536 (u)) (k-1)+65536*r) hvp
  have hdm:=Nat.div_add_mod' (nth (dg 65536 (u)) (k-1)+65536*r) v
  exact⟨(k-1,os.set (k-1) ((nth (dg 65536 (u)) (k-1)+65536*r)/v),nth (dg 65536 (u)) (k-1)+65536*r-(nth (dg 65536 (u)) (k-1)+65536*r)/v*v),by dsimp only;omega,⟨by rw[List.length_set];exact hos,hol.set _ hql,hst,by dsimp only;omega,by dsimp only;omega⟩,dC h0 [0] _ _ (by decide) ⟨rfl,rfl,rfl,rfl,congrArg (fun z=>some (FV.one (tv (.int .i64 z)))) (by omega),trivial⟩ ⟨rE rfl rfl rfl,rfl⟩⟩
 refine ex (sq (rl ?_));have hk0:k=0:=by omega
 rw[hk0,List.drop_zero,List.drop_zero,cL (by omega)]at hv
 obtain⟨hq1,hq2⟩:=EK hv hr
 refine WL.sub (Cc (i:=6) (zs':=os) rfl rfl rfl (by omega) rfl) ?_
 refine o1 ?_;refine ca (ET (zs:=(dg 65536 (u/v))) (by omega) (by rw[Gt (by omega) hol rfl,hq1])) aA (bC rfl) _ ?_
 (iterate 3 refine o1 ?_);refine nl (rt ?_);exact en (.inl rfl) rfl (gP (.cons (.one (.id rfl)) (.cons (.one (.id rfl)) .nil))) (by decide) (fun h=>by cases h) (by rw[hq2];rfl)
theorem Pu {a b:Zi}{k k':Int}(ha:Zn a k) (hb:Zn b k'):aE true Tryz.prog 157 [] [gF a,gF b] (aP (kO ((Int.gcd k k':Nat):Int))):=by
 refine bD Tryz.func157 Tryz.ntmps157 fun N w c0 h0=>?_
 have hkl:=ha.len
 have hkl':=hb.len
 refine sq (rl (bx 0 ?_));refine bx 1 ?_;refine al 2 ?_;refine nl (sq ?_);refine bU [0,1,2] [9] ?_
 refine aF 0 ?_;refine aF 4 ?_;refine aG 1 rfl (iR ha) aA (aM rfl) _ ?_;refine df 2 ?_
 have hn1:=eZ (v:=vl 4294967296 (dg 4294967296 (k).natAbs)) (L:=(dg 4294967296 (k).natAbs).length) (by rw[cL (by omega)];exact aX _)
 refine aG 3 rfl (qM (by omega) (aU (by omega) _)) aA (bC rfl) _ ?_
 refine aG 5 rfl (iR hb) aA (aM rfl) _ ?_;refine df 6 ?_
 have hn2:=eZ (v:=vl 4294967296 (dg 4294967296 (k').natAbs)) (L:=(dg 4294967296 (k').natAbs).length) (by rw[cL (by omega)];exact aX _)
 refine aG 7 rfl (qM (by omega) (aU (by omega) _)) aA (bC rfl) _ ?_
 refine bM 8 ?_
 refine bM 9 ?_
 refine aJ ?_;refine sq (bl ?_)
 refine lp (γ:=Nat×Nat) (fun s=>bP [(4,pN 0),(5,.one (.t (sI false (dg 65536 s.1)))),(6,.one (.t (sI false (dg 65536 s.2))))]) (fun s=>[(⟨36,0,[tv (.bool false),tv (.slice none 0 0)]⟩:Ob)].map some) (fun s=>Nat.gcd s.1 s.2=Int.gcd k k'/\(dg 65536 s.1).length<=549755813888/\(dg 65536 s.2).length<=549755813888) (fun s=>s.2) (vl 4294967296 (dg 4294967296 (k).natAbs),vl 4294967296 (dg 4294967296 (k').natAbs)) ⟨by dsimp only;rw[cL (by omega),cL (by omega)];rfl,by dsimp only;omega,by dsimp only;omega⟩ (aH h0 [2] ⟨oe rfl rfl,rfl⟩) ?_
 rintro⟨ga,gb⟩ ⟨hg,hga,hgb⟩;dsimp only at hg hga hgb⊢;have hbz:gb=0↔(dg 65536 gb).length=0:=by rw[List.length_eq_zero_iff,fC (by omega)]
 refine sq (sq (rl ?_));(iterate 3 refine o1 ?_);refine nl ?_;refine aV rfl (fun h3=>?_) (fun h3=>?_)
 ·refine sk (bl (sq ?_));have hb0:0<gb:=by omega
  refine rl (o1 ?_);refine o1 ?_;have hn4:=dS (B:=65536) (by omega) (Nat.div_le_self (ga) (gb))
  have hn5:=dS (B:=65536) (by omega) (Nat.mod_le (ga) (gb))
  refine ca (So (by omega) (by omega) hb0) aA (cO rfl rfl) _ ?_
  (iterate 5 refine o1 ?_);refine nl (sq (rl (o1 ?_)));refine o1 ?_;refine nl (rl (o1 ?_));refine o1 ?_;refine nl ?_;have hmod:=Nat.mod_lt ga hb0
  have hml:=dS (B:=65536) (by omega) (Nat.le_of_lt hmod)
  exact⟨(gb,ga%gb),by dsimp only;omega,⟨by dsimp only;rw[<-hg,Nat.gcd_comm gb (ga%gb),<-Nat.gcd_rec,Nat.gcd_comm],by dsimp only;omega,by dsimp only;omega⟩,aH h0 [0] ⟨oe rfl rfl,rfl⟩⟩
 refine ex (sq ?_);have hb00:gb=0:=by omega
 rw[hb00,Nat.gcd_zero_right]at hg;refine rl (o1 ?_);have hn6:=rG (ga)
 refine ca (Au (zs:=(dg 4294967296 (ga))) (by omega) (aU (by omega) _) (En _)) aA (bC rfl) _ ?_
 refine nC 1 (oT (K:=((Int.gcd k k':Nat):Int)) (by omega) (aU (by omega) _) (by rw[cL (by omega),hg];rfl)) aA (cO rfl rfl) ?_
 refine st ?_;refine nl (rt ?_)
 exact en (.inl rfl) rfl (bB (.agg (.cons (.id rfl) (.cons (.sl (trs:=bF (dg 4294967296 (((Int.gcd k k':Nat):Int)).natAbs)) rfl rfl (cC _) (bT _)) .nil)))) (by decide) (fun _=>fT (((Int.gcd k k':Nat):Int))) rfl
theorem iI {a b:Zi}{k k':Int}(ha:Zn a k) (hb:Zn b k'):aE false Tryz.prog 117 [] [gF a,gF b] (aP (.tup [kF (if k'=0 then 0 else k.fdiv k'),kF (if k'=0 then 0 else k.fmod k'),.one (tv (.int .i64 (if k'=0 then 20 else 0)))])):=by
 refine bD Tryz.func117 Tryz.ntmps117 fun N w c0 h0=>?_
 have hkl:=ha.len
 have hkl':=hb.len
 refine sq (rl (bx 0 ?_));refine bx 1 ?_;refine al 2 ?_;refine al 3 ?_;refine o1 ?_;refine nl (sq (rl (ld ?_)))
 refine ca (iR ha) aA (aM rfl) _ ?_;refine st ?_;refine nl (sq (rl (ld ?_)));refine ca (iR hb) aA (aM rfl) _ ?_;refine st ?_
 refine nl (sq (sq (rl (o1 ?_))));refine ld ?_;refine o1 ?_;refine o1 ?_;refine nl ?_;refine aV rfl (fun h1=>?_) (fun h1=>?_)
 ·refine sq (rl (o1 ?_));refine o1 ?_;refine st ?_;refine st ?_;refine o1 ?_;refine nl (rt ?_);have hk0:k'=0:=by have:=Tq (k:=k') (by omega);omega
  exact en (.inl rfl) rfl (lD (.cons (.agg (.cons (.id rfl) (.cons .nilf .nil))) (.cons (.agg (.cons (.id rfl) (.cons .nilf .nil))) (.cons (bO _) .nil)))) (by decide) (fun h=>by cases h) (by rw[if_pos hk0,if_pos hk0,if_pos hk0,<-Ku];rfl)
 refine sk (sq ?_);have hkn:k'≠0:=EL (by omega)
 have hva:0<vl 4294967296 (dg 4294967296 (k').natAbs):=by rw[cL (by omega)];omega
 refine bU [0,1,2,3] [11] ?_
 refine dv 0 ?_;refine aF 1 ?_;refine dv 3 ?_;refine aF 4 ?_
 have hn2:=eZ (v:=vl 4294967296 (dg 4294967296 (k).natAbs)) (L:=(dg 4294967296 (k).natAbs).length) (by rw[cL (by omega)];exact aX _)
 refine aG 2 rfl (qM (by omega) (aU (by omega) _)) aA (bC rfl) _ ?_
 have hn3:=eZ (v:=vl 4294967296 (dg 4294967296 (k').natAbs)) (L:=(dg 4294967296 (k').natAbs).length) (by rw[cL (by omega)];exact aX _)
 refine aG 5 rfl (qM (by omega) (aU (by omega) _)) aA (bC rfl) _ ?_
 have hn4:=dS (B:=65536) (by omega) (Nat.div_le_self (vl 4294967296 (dg 4294967296 (k).natAbs)) (vl 4294967296 (dg 4294967296 (k').natAbs)))
 have hn5:=dS (B:=65536) (by omega) (Nat.mod_le (vl 4294967296 (dg 4294967296 (k).natAbs)) (vl 4294967296 (dg 4294967296 (k').natAbs)))
 refine aG 6 rfl (So (by omega) (by omega) hva) aA (cO rfl rfl) _ ?_
 refine df 7 ?_;refine df 8 ?_;refine df 9 ?_;refine bM 10 ?_
 refine bM 11 ?_
 refine aJ ?_
 refine md (γ:=Unit) (fun _=>bP [(3,pN 0),(4,pN 1),(5,pN 2),(6,.one (tv (.int .i64 0))),(9,pN 3),(10,pN 4)]) (fun _=>([⟨36,0,[tv (.bool (aZ (k'))),.t (sU false (dg 4294967296 (k').natAbs))]⟩,⟨36,0,[tv (.bool false),tv (.slice none 0 0)]⟩,⟨36,0,[tv (.bool false),tv (.slice none 0 0)]⟩,⟨36,0,[tv (.bool (aZ (dV (aZ k != aZ k') (k.natAbs/k'.natAbs)))),.t (sU false (dg 4294967296 (dV (aZ k != aZ k') (k.natAbs/k'.natAbs)).natAbs))]⟩,⟨36,0,[tv (.bool (aZ (dV (aZ k) (k.natAbs%k'.natAbs)))),.t (sU false (dg 4294967296 (dV (aZ k) (k.natAbs%k'.natAbs)).natAbs))]⟩]:List Ob).map some) (fun _=>True) ?_ fun _ _=>?_
 ·have hnq:=rG ((vl 4294967296 (dg 4294967296 (k).natAbs))/(vl 4294967296 (dg 4294967296 (k').natAbs)))
  have hLq:=Au (xs:=dg 65536 ((vl 4294967296 (dg 4294967296 (k).natAbs))/(vl 4294967296 (dg 4294967296 (k').natAbs)))) (zs:=dg 4294967296 ((vl 4294967296 (dg 4294967296 (k).natAbs))/(vl 4294967296 (dg 4294967296 (k').natAbs)))) (by omega) (aU (by omega) _) (En _)
  have hMq:=oT (b:=aZ k != aZ k') (xs:=dg 4294967296 ((vl 4294967296 (dg 4294967296 (k).natAbs))/(vl 4294967296 (dg 4294967296 (k').natAbs)))) (K:=dV (aZ k != aZ k') (k.natAbs/k'.natAbs)) (by omega) (aU (by omega) _) (by simp only[cL (B:=4294967296) (by omega)] <;> rfl)
  have hnr:=rG ((vl 4294967296 (dg 4294967296 (k).natAbs))%(vl 4294967296 (dg 4294967296 (k').natAbs)))
  have hLr:=Au (xs:=dg 65536 ((vl 4294967296 (dg 4294967296 (k).natAbs))%(vl 4294967296 (dg 4294967296 (k').natAbs)))) (zs:=dg 4294967296 ((vl 4294967296 (dg 4294967296 (k).natAbs))%(vl 4294967296 (dg 4294967296 (k').natAbs)))) (by omega) (aU (by omega) _) (En _)
  have hMr:=oT (b:=aZ k) (xs:=dg 4294967296 ((vl 4294967296 (dg 4294967296 (k).natAbs))%(vl 4294967296 (dg 4294967296 (k').natAbs)))) (K:=dV (aZ k) (k.natAbs%k'.natAbs)) (by omega) (aU (by omega) _) (by simp only[cL (B:=4294967296) (by omega)] <;> rfl)
  generalize dg 4294967296 ((vl 4294967296 (dg 4294967296 (k).natAbs))/(vl 4294967296 (dg 4294967296 (k').natAbs)))=zq at hLq hMq
  generalize dg 4294967296 ((vl 4294967296 (dg 4294967296 (k).natAbs))%(vl 4294967296 (dg 4294967296 (k').natAbs)))=zr at hLr hMr;refine bU [0,1,2,3] [16] ?_
  refine dv 0 ?_;refine aF 1 ?_;refine dv 2 ?_;refine aF 3 ?_;refine dv 4 ?_;refine dv 5 ?_;refine dv 8 ?_;refine aF 9 ?_;refine dv 10 ?_
  refine wK 6 13 14 ?_ ?_ ?_
  ·refine dE 6 rfl (hLq) aA (bC rfl) _ ?_;refine wK 7 13 14 ?_ ?_ ?_
   ·refine dE 7 rfl (hMq) aA (cO rfl rfl) _ ?_;refine wK 11 13 14 ?_ ?_ ?_
    ·refine dE 11 rfl (hLr) aA (bC rfl) _ ?_;refine wK 12 13 14 ?_ ?_ ?_
     ·refine dE 12 rfl (hMr) aA (cO rfl rfl) _ ?_;refine dD 13 14 ?_ ?_
      ·refine bQ 4 13 ?_;refine eE 5 14 ?_
       refine aT 15 ?_
       refine dst 16 ?_;refine aJ ?_
       exact⟨(),trivial,aH h0 [1,2,3,4,5] ⟨oe rfl rfl,oe rfl rfl,oe rfl rfl,oe rfl rfl,oe rfl rfl,rfl⟩⟩
      refine bQ 4 14 ?_;refine eE 5 13 ?_
      refine aT 15 ?_
      refine dst 16 ?_;refine aJ ?_
      exact⟨(),trivial,aH h0 [1,2,3,5,4] ⟨oe rfl rfl,oe rfl rfl,oe rfl rfl,oe rfl rfl,oe rfl rfl,rfl⟩⟩
     ·refine bQ 4 13 ?_;refine dD 12 14 ?_ ?_
      ·refine dE 12 rfl (hMr) aA (cO rfl rfl) _ ?_
       refine eE 5 14 ?_
       refine aT 15 ?_
       refine dst 16 ?_;refine aJ ?_
       exact⟨(),trivial,aH h0 [1,2,3,4,5] ⟨oe rfl rfl,oe rfl rfl,oe rfl rfl,oe rfl rfl,oe rfl rfl,rfl⟩⟩
      refine bQ 5 14 ?_;refine aG 12 rfl (hMr) aA (cO rfl rfl) _ ?_
      refine aT 15 ?_
      refine dst 16 ?_;refine aJ ?_
      exact⟨(),trivial,aH h0 [1,2,3,4,5] ⟨oe rfl rfl,oe rfl rfl,oe rfl rfl,oe rfl rfl,oe rfl rfl,rfl⟩⟩
     refine bQ 4 14 ?_;refine dD 12 13 ?_ ?_
     ·refine dE 12 rfl (hMr) aA (cO rfl rfl) _ ?_
      refine eE 5 13 ?_
      refine aT 15 ?_
      refine dst 16 ?_;refine aJ ?_
      exact⟨(),trivial,aH h0 [1,2,3,5,4] ⟨oe rfl rfl,oe rfl rfl,oe rfl rfl,oe rfl rfl,oe rfl rfl,rfl⟩⟩
     refine bQ 5 13 ?_;refine aG 12 rfl (hMr) aA (cO rfl rfl) _ ?_
     refine aT 15 ?_
     refine dst 16 ?_;refine aJ ?_
     exact⟨(),trivial,aH h0 [1,2,3,5,4] ⟨oe rfl rfl,oe rfl rfl,oe rfl rfl,oe rfl rfl,oe rfl rfl,rfl⟩⟩
    ·refine bQ 4 13 ?_;refine dD 11 14 ?_ ?_
     ·refine dE 11 rfl (hLr) aA (bC rfl) _ ?_;refine dD 12 14 ?_ ?_
      ·refine dE 12 rfl (hMr) aA (cO rfl rfl) _ ?_
       refine eE 5 14 ?_
       refine aT 15 ?_
       refine dst 16 ?_;refine aJ ?_
       exact⟨(),trivial,aH h0 [1,2,3,4,5] ⟨oe rfl rfl,oe rfl rfl,oe rfl rfl,oe rfl rfl,oe rfl rfl,rfl⟩⟩
      refine bQ 5 14 ?_;refine aG 12 rfl (hMr) aA (cO rfl rfl) _ ?_
      refine aT 15 ?_
      refine dst 16 ?_;refine aJ ?_
      exact⟨(),trivial,aH h0 [1,2,3,4,5] ⟨oe rfl rfl,oe rfl rfl,oe rfl rfl,oe rfl rfl,oe rfl rfl,rfl⟩⟩
     refine bQ 5 14 ?_;refine aG 11 rfl (hLr) aA (bC rfl) _ ?_
     refine aG 12 rfl (hMr) aA (cO rfl rfl) _ ?_
     refine aT 15 ?_
     refine dst 16 ?_;refine aJ ?_
     exact⟨(),trivial,aH h0 [1,2,3,4,5] ⟨oe rfl rfl,oe rfl rfl,oe rfl rfl,oe rfl rfl,oe rfl rfl,rfl⟩⟩
    refine bQ 4 14 ?_;refine dD 11 13 ?_ ?_
    ·refine dE 11 rfl (hLr) aA (bC rfl) _ ?_;refine dD 12 13 ?_ ?_
     ·refine dE 12 rfl (hMr) aA (cO rfl rfl) _ ?_
      refine eE 5 13 ?_
      refine aT 15 ?_
      refine dst 16 ?_;refine aJ ?_
      exact⟨(),trivial,aH h0 [1,2,3,5,4] ⟨oe rfl rfl,oe rfl rfl,oe rfl rfl,oe rfl rfl,oe rfl rfl,rfl⟩⟩
     refine bQ 5 13 ?_;refine aG 12 rfl (hMr) aA (cO rfl rfl) _ ?_
     refine aT 15 ?_
     refine dst 16 ?_;refine aJ ?_
     exact⟨(),trivial,aH h0 [1,2,3,5,4] ⟨oe rfl rfl,oe rfl rfl,oe rfl rfl,oe rfl rfl,oe rfl rfl,rfl⟩⟩
    refine bQ 5 13 ?_;refine aG 11 rfl (hLr) aA (bC rfl) _ ?_
    refine aG 12 rfl (hMr) aA (cO rfl rfl) _ ?_
    refine aT 15 ?_
    refine dst 16 ?_;refine aJ ?_
    exact⟨(),trivial,aH h0 [1,2,3,5,4] ⟨oe rfl rfl,oe rfl rfl,oe rfl rfl,oe rfl rfl,oe rfl rfl,rfl⟩⟩
   ·refine bQ 4 13 ?_;refine dD 7 14 ?_ ?_
    ·refine dE 7 rfl (hMq) aA (cO rfl rfl) _ ?_;refine dD 11 14 ?_ ?_
     ·refine dE 11 rfl (hLr) aA (bC rfl) _ ?_;refine dD 12 14 ?_ ?_
      ·refine dE 12 rfl (hMr) aA (cO rfl rfl) _ ?_
       refine eE 5 14 ?_
       refine aT 15 ?_
       refine dst 16 ?_;refine aJ ?_
       exact⟨(),trivial,aH h0 [1,2,3,4,5] ⟨oe rfl rfl,oe rfl rfl,oe rfl rfl,oe rfl rfl,oe rfl rfl,rfl⟩⟩
      refine bQ 5 14 ?_;refine aG 12 rfl (hMr) aA (cO rfl rfl) _ ?_
      refine aT 15 ?_
      refine dst 16 ?_;refine aJ ?_
      exact⟨(),trivial,aH h0 [1,2,3,4,5] ⟨oe rfl rfl,oe rfl rfl,oe rfl rfl,oe rfl rfl,oe rfl rfl,rfl⟩⟩
     refine bQ 5 14 ?_;refine aG 11 rfl (hLr) aA (bC rfl) _ ?_
     refine aG 12 rfl (hMr) aA (cO rfl rfl) _ ?_
     refine aT 15 ?_
     refine dst 16 ?_;refine aJ ?_
     exact⟨(),trivial,aH h0 [1,2,3,4,5] ⟨oe rfl rfl,oe rfl rfl,oe rfl rfl,oe rfl rfl,oe rfl rfl,rfl⟩⟩
    refine bQ 5 14 ?_;refine aG 7 rfl (hMq) aA (cO rfl rfl) _ ?_
    refine aG 11 rfl (hLr) aA (bC rfl) _ ?_;refine aG 12 rfl (hMr) aA (cO rfl rfl) _ ?_
    refine aT 15 ?_
    refine dst 16 ?_;refine aJ ?_
    exact⟨(),trivial,aH h0 [1,2,3,4,5] ⟨oe rfl rfl,oe rfl rfl,oe rfl rfl,oe rfl rfl,oe rfl rfl,rfl⟩⟩
   refine bQ 4 14 ?_;refine dD 7 13 ?_ ?_
   ·refine dE 7 rfl (hMq) aA (cO rfl rfl) _ ?_;refine dD 11 13 ?_ ?_
    ·refine dE 11 rfl (hLr) aA (bC rfl) _ ?_;refine dD 12 13 ?_ ?_
     ·refine dE 12 rfl (hMr) aA (cO rfl rfl) _ ?_
      refine eE 5 13 ?_
      refine aT 15 ?_
      refine dst 16 ?_;refine aJ ?_
      exact⟨(),trivial,aH h0 [1,2,3,5,4] ⟨oe rfl rfl,oe rfl rfl,oe rfl rfl,oe rfl rfl,oe rfl rfl,rfl⟩⟩
     refine bQ 5 13 ?_;refine aG 12 rfl (hMr) aA (cO rfl rfl) _ ?_
     refine aT 15 ?_
     refine dst 16 ?_;refine aJ ?_
     exact⟨(),trivial,aH h0 [1,2,3,5,4] ⟨oe rfl rfl,oe rfl rfl,oe rfl rfl,oe rfl rfl,oe rfl rfl,rfl⟩⟩
    refine bQ 5 13 ?_;refine aG 11 rfl (hLr) aA (bC rfl) _ ?_
    refine aG 12 rfl (hMr) aA (cO rfl rfl) _ ?_
    refine aT 15 ?_
    refine dst 16 ?_;refine aJ ?_
    exact⟨(),trivial,aH h0 [1,2,3,5,4] ⟨oe rfl rfl,oe rfl rfl,oe rfl rfl,oe rfl rfl,oe rfl rfl,rfl⟩⟩
   refine bQ 5 13 ?_;refine aG 7 rfl (hMq) aA (cO rfl rfl) _ ?_
   refine aG 11 rfl (hLr) aA (bC rfl) _ ?_;refine aG 12 rfl (hMr) aA (cO rfl rfl) _ ?_
   refine aT 15 ?_
   refine dst 16 ?_;refine aJ ?_
   exact⟨(),trivial,aH h0 [1,2,3,5,4] ⟨oe rfl rfl,oe rfl rfl,oe rfl rfl,oe rfl rfl,oe rfl rfl,rfl⟩⟩
  ·refine bQ 4 13 ?_;refine dD 6 14 ?_ ?_
   ·refine dE 6 rfl (hLq) aA (bC rfl) _ ?_;refine dD 7 14 ?_ ?_
    ·refine dE 7 rfl (hMq) aA (cO rfl rfl) _ ?_;refine dD 11 14 ?_ ?_
     ·refine dE 11 rfl (hLr) aA (bC rfl) _ ?_;refine dD 12 14 ?_ ?_
      ·refine dE 12 rfl (hMr) aA (cO rfl rfl) _ ?_
       refine eE 5 14 ?_
       refine aT 15 ?_
       refine dst 16 ?_;refine aJ ?_
       exact⟨(),trivial,aH h0 [1,2,3,4,5] ⟨oe rfl rfl,oe rfl rfl,oe rfl rfl,oe rfl rfl,oe rfl rfl,rfl⟩⟩
      refine bQ 5 14 ?_;refine aG 12 rfl (hMr) aA (cO rfl rfl) _ ?_
      refine aT 15 ?_
      refine dst 16 ?_;refine aJ ?_
      exact⟨(),trivial,aH h0 [1,2,3,4,5] ⟨oe rfl rfl,oe rfl rfl,oe rfl rfl,oe rfl rfl,oe rfl rfl,rfl⟩⟩
     refine bQ 5 14 ?_;refine aG 11 rfl (hLr) aA (bC rfl) _ ?_
     refine aG 12 rfl (hMr) aA (cO rfl rfl) _ ?_
     refine aT 15 ?_
     refine dst 16 ?_;refine aJ ?_
     exact⟨(),trivial,aH h0 [1,2,3,4,5] ⟨oe rfl rfl,oe rfl rfl,oe rfl rfl,oe rfl rfl,oe rfl rfl,rfl⟩⟩
    refine bQ 5 14 ?_;refine aG 7 rfl (hMq) aA (cO rfl rfl) _ ?_
    refine aG 11 rfl (hLr) aA (bC rfl) _ ?_;refine aG 12 rfl (hMr) aA (cO rfl rfl) _ ?_
    refine aT 15 ?_
    refine dst 16 ?_;refine aJ ?_
    exact⟨(),trivial,aH h0 [1,2,3,4,5] ⟨oe rfl rfl,oe rfl rfl,oe rfl rfl,oe rfl rfl,oe rfl rfl,rfl⟩⟩
   refine bQ 5 14 ?_;refine aG 6 rfl (hLq) aA (bC rfl) _ ?_
   refine aG 7 rfl (hMq) aA (cO rfl rfl) _ ?_;refine aG 11 rfl (hLr) aA (bC rfl) _ ?_
   refine aG 12 rfl (hMr) aA (cO rfl rfl) _ ?_;refine aT 15 ?_
   refine dst 16 ?_;refine aJ ?_
   exact⟨(),trivial,aH h0 [1,2,3,4,5] ⟨oe rfl rfl,oe rfl rfl,oe rfl rfl,oe rfl rfl,oe rfl rfl,rfl⟩⟩
  refine bQ 4 14 ?_;refine dD 6 13 ?_ ?_
  ·refine dE 6 rfl (hLq) aA (bC rfl) _ ?_;refine dD 7 13 ?_ ?_
   ·refine dE 7 rfl (hMq) aA (cO rfl rfl) _ ?_;refine dD 11 13 ?_ ?_
    ·refine dE 11 rfl (hLr) aA (bC rfl) _ ?_;refine dD 12 13 ?_ ?_
     ·refine dE 12 rfl (hMr) aA (cO rfl rfl) _ ?_
      refine eE 5 13 ?_
      refine aT 15 ?_
      refine dst 16 ?_;refine aJ ?_
      exact⟨(),trivial,aH h0 [1,2,3,5,4] ⟨oe rfl rfl,oe rfl rfl,oe rfl rfl,oe rfl rfl,oe rfl rfl,rfl⟩⟩
     refine bQ 5 13 ?_;refine aG 12 rfl (hMr) aA (cO rfl rfl) _ ?_
     refine aT 15 ?_
     refine dst 16 ?_;refine aJ ?_
     exact⟨(),trivial,aH h0 [1,2,3,5,4] ⟨oe rfl rfl,oe rfl rfl,oe rfl rfl,oe rfl rfl,oe rfl rfl,rfl⟩⟩
    refine bQ 5 13 ?_;refine aG 11 rfl (hLr) aA (bC rfl) _ ?_
    refine aG 12 rfl (hMr) aA (cO rfl rfl) _ ?_
    refine aT 15 ?_
    refine dst 16 ?_;refine aJ ?_
    exact⟨(),trivial,aH h0 [1,2,3,5,4] ⟨oe rfl rfl,oe rfl rfl,oe rfl rfl,oe rfl rfl,oe rfl rfl,rfl⟩⟩
   refine bQ 5 13 ?_;refine aG 7 rfl (hMq) aA (cO rfl rfl) _ ?_
   refine aG 11 rfl (hLr) aA (bC rfl) _ ?_;refine aG 12 rfl (hMr) aA (cO rfl rfl) _ ?_
   refine aT 15 ?_
   refine dst 16 ?_;refine aJ ?_
   exact⟨(),trivial,aH h0 [1,2,3,5,4] ⟨oe rfl rfl,oe rfl rfl,oe rfl rfl,oe rfl rfl,oe rfl rfl,rfl⟩⟩
  refine bQ 5 13 ?_;refine aG 6 rfl (hLq) aA (bC rfl) _ ?_
  refine aG 7 rfl (hMq) aA (cO rfl rfl) _ ?_;refine aG 11 rfl (hLr) aA (bC rfl) _ ?_
  refine aG 12 rfl (hMr) aA (cO rfl rfl) _ ?_;refine aT 15 ?_
  refine dst 16 ?_;refine aJ ?_
  exact⟨(),trivial,aH h0 [1,2,3,5,4] ⟨oe rfl rfl,oe rfl rfl,oe rfl rfl,oe rfl rfl,oe rfl rfl,rfl⟩⟩
 have hlq:(dg 4294967296 (dV (aZ k != aZ k') (k.natAbs/k'.natAbs)).natAbs).length<=(dg 4294967296 (k).natAbs).length:=by rw[mP];exact eH (Nat.div_le_self _ _)
 have hlr:(dg 4294967296 (dV (aZ k) (k.natAbs%k'.natAbs)).natAbs).length<=(dg 4294967296 (k).natAbs).length:=by rw[mP];exact eH (Nat.mod_le _ _)
 refine sq (sq ?_);refine bU [0,1,2,3,4] [] ?_
 refine aF 0 ?_;refine aG 1 rfl (nK (Zn.of (k:=dV (aZ k) (k.natAbs%k'.natAbs)) (by omega))) aA (aM rfl) _ ?_
 refine df 2 ?_;refine df 3 ?_;refine WD.split (t:=47) rfl rfl (fun h6=>?_) (fun h6=>?_)
 ·refine aF 4 ?_;refine aF 6 ?_
  refine aG 5 rfl (nK (Zn.of (k:=dV (aZ k) (k.natAbs%k'.natAbs)) (by omega))) aA (aM rfl) _ ?_
  refine aG 7 rfl (nK (Zn.of (k:=k') (by omega))) aA (aM rfl) _ ?_
  refine df 8 ?_;refine df 9 ?_;refine aJ ?_;refine aV rfl (fun h7=>?_) (fun h7=>?_)
  ·refine sq ?_;refine bU [0,1,2,3,4] [2,3] ?_
   refine aF 0 ?_;have hol:(dg 4294967296 (1:Int).natAbs).length<=1:=cW (by omega) (by decide)
   refine aG 1 rfl (jA (n:=1) (by omega) (by omega)) aA (bC rfl) _ ?_
   refine aG 2 rfl (ZF (Zn.of (k:=dV (aZ k != aZ k') (k.natAbs/k'.natAbs)) (by omega)) (Zn.of (k:=(1:Int)) (by omega))) aA (bN rfl rfl) _ ?_
   refine dst 3 ?_;refine aJ ?_;refine rl (ld ?_);refine ld ?_
   refine ca (qS (Zn.of (k:=dV (aZ k) (k.natAbs%k'.natAbs)) (by omega)) (Zn.of (k:=k') (by omega))) aA (bN rfl rfl) _ ?_
   refine st ?_;refine nl (sq ?_);refine bU [0,2,3,4] [3,4] ?_
   refine aF 0 ?_;refine aF 1 ?_;refine aT 2 ?_
   refine dst 3 ?_;refine bM 4 ?_
   refine aJ ?_;refine rt ?_;obtain⟨hd1,hd2⟩:=QE (a:=k) (b:=k') hkn rfl rfl h6 h7
   exact en (.inl rfl) rfl (lD (.cons (.agg (.cons (.id rfl) (.cons (.id rfl) .nil))) (.cons (.agg (.cons (.id rfl) (.cons (.id rfl) .nil))) (.cons (bO _) .nil)))) (by decide) (fun h=>by cases h) (by rw[if_neg hkn,if_neg hkn,if_neg hkn,<-hd1,<-hd2];rfl)
  refine sk (sq ?_);refine bU [0,2,3,4] [3,4] ?_
  refine aF 0 ?_;refine aF 1 ?_;refine aT 2 ?_
  refine dst 3 ?_;refine bM 4 ?_
  refine aJ ?_;refine rt ?_;obtain⟨hd1,hd2⟩:=Wv (a:=k) (b:=k') hkn rfl rfl (.inr (Decidable.byContradiction h7))
  exact en (.inl rfl) rfl (lD (.cons (.agg (.cons (.id rfl) (.cons (.id rfl) .nil))) (.cons (.agg (.cons (.id rfl) (.cons (.id rfl) .nil))) (.cons (bO _) .nil)))) (by decide) (fun h=>by cases h) (by rw[if_neg hkn,if_neg hkn,if_neg hkn,<-hd1,<-hd2];rfl)
 refine cF 4 ?_;refine cF 6 ?_;refine cF 5 ?_;refine cF 7 ?_;refine cF 8 ?_;refine df 9 ?_;refine aJ ?_;refine dY rfl (sk (sq ?_))
 refine bU [0,2,3,4] [3,4] ?_
 refine aF 0 ?_;refine aF 1 ?_;refine aT 2 ?_
 refine dst 3 ?_;refine bM 4 ?_
 refine aJ ?_;refine rt ?_;obtain⟨hd1,hd2⟩:=Wv (a:=k) (b:=k') hkn rfl rfl (.inl (Decidable.byContradiction h6))
 exact en (.inl rfl) rfl (lD (.cons (.agg (.cons (.id rfl) (.cons (.id rfl) .nil))) (.cons (.agg (.cons (.id rfl) (.cons (.id rfl) .nil))) (.cons (bO _) .nil)))) (by decide) (fun h=>by cases h) (by rw[if_neg hkn,if_neg hkn,if_neg hkn,<-hd1,<-hd2];rfl)
end Go.Proofs.YtimiaildfkimfaaGreatDoor
