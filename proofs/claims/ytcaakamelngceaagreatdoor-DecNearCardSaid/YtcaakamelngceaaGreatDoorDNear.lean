/- The statement DecNear (a tied card): for every input the law returns true, and the input reads as before; what is listed is laid by the program. -/
import Derived.Test.YtcaakamelngceaaGreatDoorCards
import Derived.Test.YtcaakamelngceaaGreatDoorTie
import Derived.WalkKit
import Derived.ProofKit
import Derived.OpenShut
import Derived.Deep.DeepHandedRow
import Derived.Lib.LaidTab
import Derived.Test.YtcaakamelngceaaGreatDoorM5
import Derived.Test.YtcaakamelngceaaGreatDoorM10
set_option maxRecDepth 100000
set_option linter.unusedVariables false
set_option linter.unusedSimpArgs false
namespace Go.Proofs.YtcaakamelngceaaGreatDoor.decNear
open Go Go.ChangeShapes Go.WideShapes Go.ChangeAt Go.RowKit
set_option linter.unusedVariables false

theorem own:ownKnob Tryz.prog.godebug=none:=by kernel_rfl
theorem vR:laidOutB Tryz.prog=true:=by kernel_rfl
set_option maxRecDepth 100000 in
theorem Nj (H:Type) (enc:TypeId×Value→H) (W:World) (base:Nat) (args:Array Value) (ds gs:List (DataW H)) (before:List MemPlace)
    (hval0:∀(j:Nat) t v,Tryz.f5.params[j]? =some t→args[j]? =some v→Value.okWide Tryz.prog W .any base t v)
    (hW:DataW.Whole enc Tryz.prog Tryz.f5.params.toList Rows.decNearSpec.vars false W args.toList ds gs before):
    Calls Tryz.prog 5 args W fun e W'=>∃v,e=.returned v∧Rows.decNearSpec.post enc Tryz.prog Tryz.f5 false true false false W args v W':=by
  have hval:∀(j:Nat) t v,Tryz.f5.params[j]? =some t→args[j]? =some v→Value.okWide Tryz.prog W .any base t v:=hval0
  have hW':=hW
  obtain⟨p,q,hA0,hV,rfl,hfz,hnd⟩:=hW
  have hA:DataW.TrodAll enc Tryz.prog W 0 (fun _=>true) true Tryz.f5.params.toList args.toList ds p:=hA0
  rw[Tryz.params5]at hA hval
  obtain⟨v0,vs0,d0,ds0,p0,q0,hargs,rfl,rfl,h0,r0⟩:=trodAll_cons hA
  obtain⟨v1,vs1,d1,ds1,p1,q1,rfl,rfl,rfl,h1,r1⟩:=trodAll_cons r0
  obtain⟨v2,vs2,d2,ds2,p2,q2,rfl,rfl,rfl,h2,r2⟩:=trodAll_cons r1
  obtain⟨rfl,rfl,rfl⟩:=trodAll_nil r2
  obtain rfl:args= #[v0,v1,v2]:=by cases args;simp_all
  obtain⟨rfl,rfl⟩:=trodVars_none hV
  have k0:=h0
  have lt0:∀x∈p0,x.block<W.heap.size:=by obtain⟨m,hm⟩:=k0;exact DataW.trod_lt m _ _ _ hm
  have k1:=h1
  have lt1:∀x∈p1,x.block<W.heap.size:=by obtain⟨m,hm⟩:=k1;exact DataW.trod_lt m _ _ _ hm
  have k2:=h2
  have lt2:∀x∈p2,x.block<W.heap.size:=by obtain⟨m,hm⟩:=k2;exact DataW.trod_lt m _ _ _ hm
  obtain⟨cs0,rfl,_⟩:=okWide_struct Tryz.underlying27 (hval 0 27 v0 rfl rfl)
  obtain⟨fuel0,hf0⟩:=h0
  obtain⟨l0,⟨a,ha,rfl⟩,_,hr0⟩:=Wd.2 H enc W fuel0 _ _ hf0
  have hv0:=We hr0
  obtain⟨n1,rfl⟩:=okWide_int Tryz.underlying5 (hval 1 5 v1 rfl rfl)
  obtain⟨fuel1,hf1⟩:=h1
  obtain⟨l1,⟨m,hm,rfl⟩,_,hr1⟩:=BY.2 H enc W fuel1 _ _ hf1
  have hv1:=Jh rfl hr1
  obtain⟨s2,rfl⟩:=okWide_string Tryz.underlying9 (hval 2 9 v2 rfl rfl)
  obtain⟨fuel2,hf2⟩:=h2
  obtain⟨l2,⟨xs,⟨hl,_⟩,rfl⟩,_,hr2⟩:=Sl.2 H enc W fuel2 _ _ hf2
  have hv2:=Jh rfl hr2
  clear hA0 hval0
  refine(Nk (Ji ha hm hl) (show cA W (sH W) [] [qF a,.one (tv (.int .u8 ((m:Nat):Int))),.one (tv (.string (aA xs)))] [.agg cs0,.int .u8 n1,.string s2] by simp only[cA];exact⟨hv0,hv1,hv2,trivial⟩)).mono fun e W' ⟨he,bel⟩=>?_
  subst he
  exact⟨_,rfl,_,_,_,[],_,[],hW',trodAll_mk1 (shut_bool Tryz.underlying4 _),(trodAll_cons_mk (Below.trod vR (by kernel_rfl) (of_decide_eq_true (by kernel_rfl)) k0 bel lt0) (trodAll_cons_mk (Below.trod vR (by kernel_rfl) (of_decide_eq_true (by kernel_rfl)) k1 bel lt1) (trodAll_cons_mk (Below.trod vR (by kernel_rfl) (of_decide_eq_true (by kernel_rfl)) k2 bel lt2) trodAll_mk0))),rfl,bel.frame _,fun h=>by cases h⟩
/-- the settled world, what is listed as it is laid -/
noncomputable def low:Nat:=(World.holding Tryz.prog default ⟨#[], #[],[]⟩).heap.size
noncomputable def qA (os:Os):World:=
  {World.holding Tryz.prog os ⟨#[.cells #[.string {data:= #[118,97,108,117,101,32,111,117,116,32,111,102,32,114,97,110,103,101]}] 232,.cells #[.string {data:= #[105,110,118,97,108,105,100,32,115,121,110,116,97,120]}] 232], #[],[]⟩with heap:=((((((((World.holding Tryz.prog os ⟨#[.cells #[.string {data:= #[118,97,108,117,101,32,111,117,116,32,111,102,32,114,97,110,103,101]}] 232,.cells #[.string {data:= #[105,110,118,97,108,105,100,32,115,121,110,116,97,120]}] 232], #[],[]⟩).heap.modify 7 (fun o=>match o with | .cells _ t frozen=>.cells (#[.int .u8 0,.int .u8 1,.int .u8 28,.int .u8 2,.int .u8 29,.int .u8 14,.int .u8 24,.int .u8 3,.int .u8 30,.int .u8 22,.int .u8 20,.int .u8 15,.int .u8 25,.int .u8 17,.int .u8 4,.int .u8 8,.int .u8 31,.int .u8 27,.int .u8 13,.int .u8 23,.int .u8 21,.int .u8 19,.int .u8 16,.int .u8 7,.int .u8 26,.int .u8 12,.int .u8 18,.int .u8 6,.int .u8 11,.int .u8 5,.int .u8 10,.int .u8 9]) t frozen | o=>o)).modify 8 (fun o=>match o with | .cells _ t frozen=>.cells (#[.int .u8 0,.int .u8 1,.int .u8 56,.int .u8 2,.int .u8 57,.int .u8 49,.int .u8 28,.int .u8 3,.int .u8 61,.int .u8 58,.int .u8 42,.int .u8 50,.int .u8 38,.int .u8 29,.int .u8 17,.int .u8 4,.int .u8 62,.int .u8 47,.int .u8 59,.int .u8 36,.int .u8 45,.int .u8 43,.int .u8 51,.int .u8 22,.int .u8 53,.int .u8 39,.int .u8 33,.int .u8 30,.int .u8 24,.int .u8 18,.int .u8 12,.int .u8 5,.int .u8 63,.int .u8 55,.int .u8 48,.int .u8 27,.int .u8 60,.int .u8 41,.int .u8 37,.int .u8 16,.int .u8 46,.int .u8 35,.int .u8 44,.int .u8 21,.int .u8 52,.int .u8 32,.int .u8 23,.int .u8 11,.int .u8 54,.int .u8 26,.int .u8 40,.int .u8 15,.int .u8 34,.int .u8 20,.int .u8 31,.int .u8 10,.int .u8 25,.int .u8 14,.int .u8 19,.int .u8 9,.int .u8 13,.int .u8 8,.int .u8 7,.int .u8 6]) t frozen | o=>o)).modify 6 (fun o=>match o with | .cells _ t frozen=>.cells (#[.int .u64 1,.int .u64 10,.int .u64 100,.int .u64 1000,.int .u64 10000,.int .u64 100000,.int .u64 1000000,.int .u64 10000000,.int .u64 100000000,.int .u64 1000000000,.int .u64 10000000000,.int .u64 100000000000,.int .u64 1000000000000,.int .u64 10000000000000,.int .u64 100000000000000,.int .u64 1000000000000000,.int .u64 10000000000000000,.int .u64 100000000000000000,.int .u64 1000000000000000000,.int .u64 10000000000000000000]) t frozen | o=>o)).modify 3 (fun o=>match o with | .cells _ t frozen=>.cells (#[.int .u8 128,.int .u8 191,.int .u8 160,.int .u8 191,.int .u8 128,.int .u8 159,.int .u8 144,.int .u8 191,.int .u8 128,.int .u8 143,.int .u8 0,.int .u8 0,.int .u8 0,.int .u8 0,.int .u8 0,.int .u8 0,.int .u8 0,.int .u8 0,.int .u8 0,.int .u8 0,.int .u8 0,.int .u8 0,.int .u8 0,.int .u8 0,.int .u8 0,.int .u8 0,.int .u8 0,.int .u8 0,.int .u8 0,.int .u8 0,.int .u8 0,.int .u8 0]) t frozen | o=>o)).modify 5 (fun o=>match o with | .cells _ t frozen=>.cells (#[.iface 230 (.pointer (some ⟨low+0,0,none⟩))]) t frozen | o=>o)).modify 4 (fun o=>match o with | .cells _ t frozen=>.cells (#[.iface 230 (.pointer (some ⟨low+1,0,none⟩))]) t frozen | o=>o)).modify 2 (fun o=>match o with | .cells _ t frozen=>.cells ((Pinned.utf8FirstZ.map fun(n:Nat)=>Value.int .u8 (n:Int)).toArray) t frozen | o=>o))}
theorem Nl (os:Os):laidMet Tryz.prog Rows.decNearRow.laid ((qA os).forCall (fun _ _=>0) ⟨#[], #[.agg #[.bool false,.slice none 0 0,.bool false,.slice none 0 0],.int .u8 0,.string ⟨#[]⟩],[]⟩).memory:=
  laidMet_of_run' 8 (by kernel_rfl) (by kernel_rfl)
theorem BZ (os:Os){H:Type}(enc:TypeId×Value→H):∃places,DataW.whole enc Tryz.prog ((qA os).forCall (fun _ _=>0) ⟨#[], #[.agg #[.bool false,.slice none 0 0,.bool false,.slice none 0 0],.int .u8 0,.string ⟨#[]⟩],[]⟩).memory Tryz.f5.params.toList Rows.decNearSpec.vars false #[.agg #[.bool false,.slice none 0 0,.bool false,.slice none 0 0],.int .u8 0,.string ⟨#[]⟩].toList 8=some ([.agg [.agg [.lit (.bool false),.nil],.agg [.lit (.bool false),.nil]],.lit (.int .u8 0),.lit (.string [])],[],places):=
  ⟨[],by kernel_rfl⟩
set_option maxRecDepth 100000 in
theorem Wf (os:Os) (started:os.Started) (H:Type) (enc:TypeId×Value→H) (F:Stop.Interp):
    ReturnsInHanded {} Tryz.checked os 5 .any ((OpenSpec.ofChange Rows.decNearSpec).preRow enc Tryz.prog Tryz.f5 Rows.decNearRow.domain false Rows.decNearRow.laid) (((OpenSpec.ofChange Rows.decNearSpec).at F).post enc Tryz.prog Tryz.f5 false true false false):=by
  obtain⟨places,hx⟩:=BZ os enc
  refine returnsInHanded_of_row (C:=Tryz.checked) (s:=OpenSpec.ofChange Rows.decNearSpec) own started (by kernel_rfl) Tryz.func5
    (witness_row_at (enc:=enc) (C:=Tryz.checked) false (qA os) #[.agg #[.bool false,.slice none 0 0,.bool false,.slice none 0 0],.int .u8 0,.string ⟨#[]⟩] rfl (by kernel_rfl) (by kernel_rfl) (by kernel_rfl)
      (OpenSpec.preRow_of_cond 8 hx (by kernel_rfl) (fun k hk=>by cases hk) (by kernel_rfl) (Nl os))) ?_
  intro W base args ds gs before hval hW _ _ _ hL _ _
  exact Nj H enc W base args ds gs before hval hW
theorem FT:Rows.DecNearSaid:=
  OpenClaim.holds_of_cond 5 Tryz.f5 rfl rfl rfl rfl rfl rfl rfl ⟨rfl,rfl,rfl,rfl,rfl⟩ rfl rfl rfl rfl rfl (by kernel_rfl) Tryz.func5 (by kernel_rfl)
    (of_decide_eq_true (by kernel_rfl)) (by unfold Func.isWrapper;first | (rw[if_pos (by decide+kernel)];kernel_rfl) | (rw[if_neg (by decide+kernel)];exact⟨rfl,rfl⟩))
    (fun os started H enc _ F=>by rw[OpenClaim.pre_eq_preRow];exact Wf os started H enc F)
theorem CA (f:FuncId) (fn:Func) (hf:Tryz.pinned.checked.prog.funcNamed "tallage/tallagelaw06.DecNear" =some f) (hfn:Tryz.pinned.checked.prog.funcs[f]? =some fn):
    true=Tryz.pinned.checked.prog.looks []∧∀(j:Nat) t,fn.params[j]? =some t→Tryz.pinned.checked.prog.wantsStandIn t=false:=by
  obtain rfl:f=5:=Option.some.inj ((show Tryz.prog.funcNamed "tallage/tallagelaw06.DecNear" =some 5 by kernel_rfl).symm.trans hf) |>.symm
  obtain rfl:fn=Tryz.f5:=(Option.some.inj (Tryz.func5.symm.trans hfn)).symm
  refine⟨by kernel_rfl,fun j t ht=>?_⟩
  rw[Tryz.params5]at ht
  have hm:t∈[27,5,9]:=by simpa using Array.mem_of_getElem? ht
  have hall:([27,5,9].all fun u=> !Tryz.prog.wantsStandIn u)=true:=by kernel_rfl
  exact(show Tryz.prog.wantsStandIn t=false by simpa using List.all_eq_true.1 hall t hm)
theorem card:Rows.DecNearCardSaid:=
  Claim7.holds_tied_plain_at .later [] _ _ _ _ FT (fun _ h=>by cases h) (by kernel_rfl) (fun _ h=>by cases h) decNear_row_tie rfl ⟨rfl,rfl⟩ (by kernel_rfl) rfl CA (by kernel_rfl)
end Go.Proofs.YtcaakamelngceaaGreatDoor.decNear
namespace Go.Proofs.YtcaakamelngceaaGreatDoor
/-- the statement -/
theorem decNear_holds:Rows.DecNearCardSaid:=decNear.card
end Go.Proofs.YtcaakamelngceaaGreatDoor
#print axioms Go.Proofs.YtcaakamelngceaaGreatDoor.decNear_holds

