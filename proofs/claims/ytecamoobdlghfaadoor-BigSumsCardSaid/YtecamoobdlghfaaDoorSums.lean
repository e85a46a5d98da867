/- The statement BigSums (a tied card): for every input the law returns true, and the input reads as before; what is listed is laid by the program. -/
import Derived.Test.YtecamoobdlghfaaDoorCards
import Derived.Test.YtecamoobdlghfaaDoorTie
import Derived.WalkKit
import Derived.ProofKit
import Derived.OpenShut
import Derived.Deep.DeepHandedRow
import Derived.Lib.LaidTab
import Derived.Test.YtecamoobdlghfaaDoorM4
import Derived.Test.YtecamoobdlghfaaDoorM8
set_option maxRecDepth 100000
set_option linter.unusedVariables false
set_option linter.unusedSimpArgs false
namespace Go.Proofs.YtecamoobdlghfaaDoor.bigSums
open Go Go.ChangeShapes Go.WideShapes Go.ChangeAt Go.RowKit
set_option linter.unusedVariables false

theorem own:ownKnob Tryd.prog.godebug=none:=by kernel_rfl
theorem Hv:laidOutB Tryd.prog=true:=by kernel_rfl
set_option maxRecDepth 100000 in
theorem Ef (H:Type) (enc:TypeId×Value→H) (W:World) (base:Nat) (args:Array Value) (ds gs:List (DataW H)) (before:List MemPlace)
    (hval0:∀(j:Nat) t v,Tryd.f4.params[j]? =some t→args[j]? =some v→Value.okWide Tryd.prog W .any base t v)
    (hW:DataW.Whole enc Tryd.prog Tryd.f4.params.toList Rows.bigSumsSpec.vars false W args.toList ds gs before):
    Calls Tryd.prog 4 args W fun e W'=>∃v,e=.returned v∧Rows.bigSumsSpec.post enc Tryd.prog Tryd.f4 false true false false W args v W':=by
  have hval:∀(j:Nat) t v,Tryd.f4.params[j]? =some t→args[j]? =some v→Value.okWide Tryd.prog W .any base t v:=hval0
  have hW':=hW
  obtain⟨p,q,hA0,hV,rfl,hfz,hnd⟩:=hW
  have hA:DataW.TrodAll enc Tryd.prog W 0 (fun _=>true) true Tryd.f4.params.toList args.toList ds p:=hA0
  rw[Tryd.params4]at hA hval
  obtain⟨v0,vs0,d0,ds0,p0,q0,hargs,rfl,rfl,h0,r0⟩:=trodAll_cons hA
  obtain⟨rfl,rfl,rfl⟩:=trodAll_nil r0
  obtain rfl:args= #[v0]:=by cases args;simp_all
  obtain⟨rfl,rfl⟩:=trodVars_none hV
  have k0:=h0
  have lt0:∀x∈p0,x.block<W.heap.size:=by obtain⟨m,hm⟩:=k0;exact DataW.trod_lt m _ _ _ hm
  obtain⟨a0,len0,cap0,rfl⟩:=okWide_slice Tryd.underlying33 (hval 0 33 v0 rfl rfl)
  obtain⟨fuel0,hf0⟩:=h0
  obtain⟨l0,⟨zs,hz,rfl⟩,_,hr0⟩:=Hu.2 H enc W fuel0 _ _ hf0
  have hv0:=Mi rfl hr0
  clear hA0 hval0
  refine(Dc (Bs hz) (show bE W (rX W) [] [.one (.t (sZ 24 zs))] [.slice a0 len0 cap0] by simp only[bE];exact⟨hv0,trivial⟩)).mono fun e W' ⟨he,bel⟩=>?_
  subst he
  exact⟨_,rfl,_,_,_,[],_,[],hW',trodAll_mk1 (shut_bool Tryd.underlying4 _),(trodAll_cons_mk (Below.trod Hv (by kernel_rfl) (of_decide_eq_true (by kernel_rfl)) k0 bel lt0) trodAll_mk0),rfl,bel.frame _,fun h=>by cases h⟩
/-- the settled world, the two tables as they are laid -/
noncomputable def nC (os:Os):World:=
  {World.holding Tryd.prog os ⟨#[], #[],[]⟩with heap:=((World.holding Tryd.prog os ⟨#[], #[],[]⟩).heap.modify 1 (fun o=>match o with | .cells _ t frozen=>.cells (Pinned.utf8FirstZ.map fun(n:Nat)=>Value.int .u8 (n:Int)).toArray t frozen | o=>o)).modify 2 (fun o=>match o with | .cells _ t frozen=>.cells #[.int .u8 128,.int .u8 191,.int .u8 160,.int .u8 191,.int .u8 128,.int .u8 159,.int .u8 144,.int .u8 191,.int .u8 128,.int .u8 143,.int .u8 0,.int .u8 0,.int .u8 0,.int .u8 0,.int .u8 0,.int .u8 0,.int .u8 0,.int .u8 0,.int .u8 0,.int .u8 0,.int .u8 0,.int .u8 0,.int .u8 0,.int .u8 0,.int .u8 0,.int .u8 0,.int .u8 0,.int .u8 0,.int .u8 0,.int .u8 0,.int .u8 0,.int .u8 0] t frozen | o=>o)}
theorem Eg (os:Os):laidMet Tryd.prog Rows.bigSumsRow.laid ((nC os).forCall (fun _ _=>0) ⟨#[], #[.slice none 0 0],[]⟩).memory:=
  laidMet_of_run' 8 (by kernel_rfl) (by kernel_rfl)
theorem Oh (os:Os){H:Type}(enc:TypeId×Value→H):∃places,DataW.whole enc Tryd.prog ((nC os).forCall (fun _ _=>0) ⟨#[], #[.slice none 0 0],[]⟩).memory Tryd.f4.params.toList Rows.bigSumsSpec.vars false #[.slice none 0 0].toList 8=some ([.nil],[],places):=
  ⟨[],by kernel_rfl⟩
set_option maxRecDepth 100000 in
theorem Mj (os:Os) (started:os.Started) (H:Type) (enc:TypeId×Value→H) (F:Stop.Interp):
    ReturnsInHanded {} Tryd.checked os 4 .any ((OpenSpec.ofChange Rows.bigSumsSpec).preRow enc Tryd.prog Tryd.f4 Rows.bigSumsRow.domain false Rows.bigSumsRow.laid) (((OpenSpec.ofChange Rows.bigSumsSpec).at F).post enc Tryd.prog Tryd.f4 false true false false):=by
  obtain⟨places,hx⟩:=Oh os enc
  refine returnsInHanded_of_row (C:=Tryd.checked) (s:=OpenSpec.ofChange Rows.bigSumsSpec) own started (by kernel_rfl) Tryd.func4
    (witness_row_at (enc:=enc) (C:=Tryd.checked) false (nC os) #[.slice none 0 0] rfl (by kernel_rfl) (by kernel_rfl) (by kernel_rfl)
      (OpenSpec.preRow_of_cond 8 hx (by kernel_rfl) (fun k hk=>by cases hk) (by kernel_rfl) (Eg os))) ?_
  intro W base args ds gs before hval hW _ _ _ hL _ _
  exact Ef H enc W base args ds gs before hval hW
theorem Qr:Rows.BigSumsSaid:=
  OpenClaim.holds_of_cond 4 Tryd.f4 rfl rfl rfl rfl rfl rfl rfl ⟨rfl,rfl,rfl,rfl,rfl⟩ rfl rfl rfl rfl rfl (by kernel_rfl) Tryd.func4 (by kernel_rfl)
    (of_decide_eq_true (by kernel_rfl)) (by unfold Func.isWrapper;first | (rw[if_pos (by decide+kernel)];kernel_rfl) | (rw[if_neg (by decide+kernel)];exact⟨rfl,rfl⟩))
    (fun os started H enc _ F=>by rw[OpenClaim.pre_eq_preRow];exact Mj os started H enc F)
theorem Oi (f:FuncId) (fn:Func) (hf:Tryd.pinned.checked.prog.funcNamed "tallage/tallagelaw03.BigSums" =some f) (hfn:Tryd.pinned.checked.prog.funcs[f]? =some fn):
    false=Tryd.pinned.checked.prog.looks []∧∀(j:Nat) t,fn.params[j]? =some t→Tryd.pinned.checked.prog.wantsStandIn t=false:=by
  obtain rfl:f=4:=Option.some.inj ((show Tryd.prog.funcNamed "tallage/tallagelaw03.BigSums" =some 4 by kernel_rfl).symm.trans hf) |>.symm
  obtain rfl:fn=Tryd.f4:=(Option.some.inj (Tryd.func4.symm.trans hfn)).symm
  refine⟨by kernel_rfl,fun j t ht=>?_⟩
  rw[Tryd.params4]at ht
  have hm:t∈[33]:=by simpa using Array.mem_of_getElem? ht
  have hall:([33].all fun u=> !Tryd.prog.wantsStandIn u)=true:=by kernel_rfl
  exact(show Tryd.prog.wantsStandIn t=false by simpa using List.all_eq_true.1 hall t hm)
theorem card:Rows.BigSumsCardSaid:=
  Claim7.holds_tied_plain_at .later [] _ _ _ _ Qr (fun _ h=>by cases h) (by kernel_rfl) (fun _ h=>by cases h) bigSums_row_tie rfl ⟨rfl,rfl⟩ (by kernel_rfl) rfl Oi (by kernel_rfl)
end Go.Proofs.YtecamoobdlghfaaDoor.bigSums
namespace Go.Proofs.YtecamoobdlghfaaDoor
/-- the statement -/
theorem bigSums_holds:Rows.BigSumsCardSaid:=bigSums.card
end Go.Proofs.YtecamoobdlghfaaDoor
#print axioms Go.Proofs.YtecamoobdlghfaaDoor.bigSums_holds

