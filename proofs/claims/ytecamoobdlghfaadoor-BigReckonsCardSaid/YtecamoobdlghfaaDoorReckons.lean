/- The statement BigReckons (a tied card): for every input the law returns true, and the input reads as before; what is listed is laid by the program. -/
import Derived.Test.YtecamoobdlghfaaDoorCards
import Derived.Test.YtecamoobdlghfaaDoorTie
import Derived.WalkKit
import Derived.ProofKit
import Derived.OpenShut
import Derived.Deep.DeepHandedRow
import Derived.Lib.LaidTab
import Derived.Test.YtecamoobdlghfaaDoorM5
import Derived.Test.YtecamoobdlghfaaDoorM9
import Derived.Test.YtecamoobdlghfaaDoorM10
set_option maxRecDepth 100000
set_option linter.unusedVariables false
set_option linter.unusedSimpArgs false
namespace Go.Proofs.YtecamoobdlghfaaDoor.bigReckons
open Go Go.ChangeShapes Go.WideShapes Go.ChangeAt Go.RowKit
set_option linter.unusedVariables false

theorem own:ownKnob Tryd.prog.godebug=none:=by kernel_rfl
theorem zU:laidOutB Tryd.prog=true:=by kernel_rfl
set_option maxRecDepth 100000 in
theorem Hv (H:Type) (enc:TypeId×Value→H) (W:World) (base:Nat) (args:Array Value) (ds gs:List (DataW H)) (before:List MemPlace)
    (hval0:∀(j:Nat) t v,Tryd.f3.params[j]? =some t→args[j]? =some v→Value.okWide Tryd.prog W .any base t v)
    (hW:DataW.Whole enc Tryd.prog Tryd.f3.params.toList Rows.bigReckonsSpec.vars false W args.toList ds gs before):
    Calls Tryd.prog 3 args W fun e W'=>∃v,e=.returned v∧Rows.bigReckonsSpec.post enc Tryd.prog Tryd.f3 false true false false W args v W':=by
  have hval:∀(j:Nat) t v,Tryd.f3.params[j]? =some t→args[j]? =some v→Value.okWide Tryd.prog W .any base t v:=hval0
  have hW':=hW
  obtain⟨p,q,hA0,hV,rfl,hfz,hnd⟩:=hW
  have hA:DataW.TrodAll enc Tryd.prog W 0 (fun _=>true) true Tryd.f3.params.toList args.toList ds p:=hA0
  rw[Tryd.params3]at hA hval
  obtain⟨v0,vs0,d0,ds0,p0,q0,hargs,rfl,rfl,h0,r0⟩:=trodAll_cons hA
  obtain⟨v1,vs1,d1,ds1,p1,q1,rfl,rfl,rfl,h1,r1⟩:=trodAll_cons r0
  obtain⟨rfl,rfl,rfl⟩:=trodAll_nil r1
  obtain rfl:args= #[v0,v1]:=by cases args;simp_all
  obtain⟨rfl,rfl⟩:=trodVars_none hV
  have k0:=h0
  have lt0:∀x∈p0,x.block<W.heap.size:=by obtain⟨m,hm⟩:=k0;exact DataW.trod_lt m _ _ _ hm
  have k1:=h1
  have lt1:∀x∈p1,x.block<W.heap.size:=by obtain⟨m,hm⟩:=k1;exact DataW.trod_lt m _ _ _ hm
  obtain⟨cs0,rfl,_⟩:=okWide_struct Tryd.underlying24 (hval 0 24 v0 rfl rfl)
  obtain⟨fuel0,hf0⟩:=h0
  obtain⟨l0,⟨a,hla,rfl⟩,_,hr0⟩:=Bx.2 H enc W fuel0 _ _ hf0
  have hv0:=Bz hr0
  obtain⟨cs1,rfl,_⟩:=okWide_struct Tryd.underlying24 (hval 1 24 v1 rfl rfl)
  obtain⟨fuel1,hf1⟩:=h1
  obtain⟨l1,⟨b,hlb,rfl⟩,_,hr1⟩:=Bx.2 H enc W fuel1 _ _ hf1
  have hv1:=Bz hr1
  clear hA0 hval0
  refine(Gk (xB hla hlb) (show bU W (tA W) [] [gF a,gF b] [.agg cs0,.agg cs1] by simp only[bU];exact⟨hv0,hv1,trivial⟩)).mono fun e W' ⟨he,bel⟩=>?_
  subst he
  exact⟨_,rfl,_,_,_,[],_,[],hW',trodAll_mk1 (shut_bool Tryd.underlying4 _),(trodAll_cons_mk (Below.trod zU (by kernel_rfl) (of_decide_eq_true (by kernel_rfl)) k0 bel lt0) (trodAll_cons_mk (Below.trod zU (by kernel_rfl) (of_decide_eq_true (by kernel_rfl)) k1 bel lt1) trodAll_mk0)),rfl,bel.frame _,fun h=>by cases h⟩
/-- the settled world, the two tables as they are laid -/
noncomputable def oJ (os:Os):World:=
  {World.holding Tryd.prog os ⟨#[], #[],[]⟩with heap:=((World.holding Tryd.prog os ⟨#[], #[],[]⟩).heap.modify 1 (fun o=>match o with | .cells _ t frozen=>.cells (Pinned.utf8FirstZ.map fun(n:Nat)=>Value.int .u8 (n:Int)).toArray t frozen | o=>o)).modify 2 (fun o=>match o with | .cells _ t frozen=>.cells #[.int .u8 128,.int .u8 191,.int .u8 160,.int .u8 191,.int .u8 128,.int .u8 159,.int .u8 144,.int .u8 191,.int .u8 128,.int .u8 143,.int .u8 0,.int .u8 0,.int .u8 0,.int .u8 0,.int .u8 0,.int .u8 0,.int .u8 0,.int .u8 0,.int .u8 0,.int .u8 0,.int .u8 0,.int .u8 0,.int .u8 0,.int .u8 0,.int .u8 0,.int .u8 0,.int .u8 0,.int .u8 0,.int .u8 0,.int .u8 0,.int .u8 0,.int .u8 0] t frozen | o=>o)}
theorem Hw (os:Os):laidMet Tryd.prog Rows.bigReckonsRow.laid ((oJ os).forCall (fun _ _=>0) ⟨#[], #[.agg #[.bool false,.slice none 0 0],.agg #[.bool false,.slice none 0 0]],[]⟩).memory:=
  laidMet_of_run' 8 (by kernel_rfl) (by kernel_rfl)
theorem Sm (os:Os){H:Type}(enc:TypeId×Value→H):∃places,DataW.whole enc Tryd.prog ((oJ os).forCall (fun _ _=>0) ⟨#[], #[.agg #[.bool false,.slice none 0 0],.agg #[.bool false,.slice none 0 0]],[]⟩).memory Tryd.f3.params.toList Rows.bigReckonsSpec.vars false #[.agg #[.bool false,.slice none 0 0],.agg #[.bool false,.slice none 0 0]].toList 8=some ([.agg [.lit (.bool false),.nil],.agg [.lit (.bool false),.nil]],[],places):=
  ⟨[],by kernel_rfl⟩
set_option maxRecDepth 100000 in
theorem Qt (os:Os) (started:os.Started) (H:Type) (enc:TypeId×Value→H) (F:Stop.Interp):
    ReturnsInHanded {} Tryd.checked os 3 .any ((OpenSpec.ofChange Rows.bigReckonsSpec).preRow enc Tryd.prog Tryd.f3 Rows.bigReckonsRow.domain false Rows.bigReckonsRow.laid) (((OpenSpec.ofChange Rows.bigReckonsSpec).at F).post enc Tryd.prog Tryd.f3 false true false false):=by
  obtain⟨places,hx⟩:=Sm os enc
  refine returnsInHanded_of_row (C:=Tryd.checked) (s:=OpenSpec.ofChange Rows.bigReckonsSpec) own started (by kernel_rfl) Tryd.func3
    (witness_row_at (enc:=enc) (C:=Tryd.checked) false (oJ os) #[.agg #[.bool false,.slice none 0 0],.agg #[.bool false,.slice none 0 0]] rfl (by kernel_rfl) (by kernel_rfl) (by kernel_rfl)
      (OpenSpec.preRow_of_cond 8 hx (by kernel_rfl) (fun k hk=>by cases hk) (by kernel_rfl) (Hw os))) ?_
  intro W base args ds gs before hval hW _ _ _ hL _ _
  exact Hv H enc W base args ds gs before hval hW
theorem Ux:Rows.BigReckonsSaid:=
  OpenClaim.holds_of_cond 3 Tryd.f3 rfl rfl rfl rfl rfl rfl rfl ⟨rfl,rfl,rfl,rfl,rfl⟩ rfl rfl rfl rfl rfl (by kernel_rfl) Tryd.func3 (by kernel_rfl)
    (of_decide_eq_true (by kernel_rfl)) (by unfold Func.isWrapper;first | (rw[if_pos (by decide+kernel)];kernel_rfl) | (rw[if_neg (by decide+kernel)];exact⟨rfl,rfl⟩))
    (fun os started H enc _ F=>by rw[OpenClaim.pre_eq_preRow];exact Qt os started H enc F)
theorem Sn (f:FuncId) (fn:Func) (hf:Tryd.pinned.checked.prog.funcNamed "tallage/tallagelaw03.BigReckons" =some f) (hfn:Tryd.pinned.checked.prog.funcs[f]? =some fn):
    false=Tryd.pinned.checked.prog.looks []∧∀(j:Nat) t,fn.params[j]? =some t→Tryd.pinned.checked.prog.wantsStandIn t=false:=by
  obtain rfl:f=3:=Option.some.inj ((show Tryd.prog.funcNamed "tallage/tallagelaw03.BigReckons" =some 3 by kernel_rfl).symm.trans hf) |>.symm
  obtain rfl:fn=Tryd.f3:=(Option.some.inj (Tryd.func3.symm.trans hfn)).symm
  refine⟨by kernel_rfl,fun j t ht=>?_⟩
  rw[Tryd.params3]at ht
  have hm:t∈[24,24]:=by simpa using Array.mem_of_getElem? ht
  have hall:([24,24].all fun u=> !Tryd.prog.wantsStandIn u)=true:=by kernel_rfl
  exact(show Tryd.prog.wantsStandIn t=false by simpa using List.all_eq_true.1 hall t hm)
theorem card:Rows.BigReckonsCardSaid:=
  Claim7.holds_tied_plain_at .later [] _ _ _ _ Ux (fun _ h=>by cases h) (by kernel_rfl) (fun _ h=>by cases h) bigReckons_row_tie rfl ⟨rfl,rfl⟩ (by kernel_rfl) rfl Sn (by kernel_rfl)
end Go.Proofs.YtecamoobdlghfaaDoor.bigReckons
namespace Go.Proofs.YtecamoobdlghfaaDoor
/-- the statement -/
theorem bigReckons_holds:Rows.BigReckonsCardSaid:=bigReckons.card
end Go.Proofs.YtecamoobdlghfaaDoor
#print axioms Go.Proofs.YtecamoobdlghfaaDoor.bigReckons_holds

