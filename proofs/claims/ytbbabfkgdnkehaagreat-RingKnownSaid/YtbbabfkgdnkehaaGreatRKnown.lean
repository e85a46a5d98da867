/- The statement RingKnown: for every input the law returns true, and the input reads as before. -/
import Derived.Test.YtbbabfkgdnkehaaGreatRows
import Derived.Test.YtbbabfkgdnkehaaGreatM5
import Derived.Test.YtbbabfkgdnkehaaGreatM15
set_option maxRecDepth 100000
set_option linter.unusedVariables false
set_option linter.unusedSimpArgs false
namespace Go.Proofs.YtbbabfkgdnkehaaGreat.ringKnown
open Go Go.ChangeShapes Go.WideShapes Go.ChangeAt Go.RowKit
set_option linter.unusedVariables false

theorem own:ownKnob Tryz.prog.godebug=none:=by kernel_rfl
theorem aBf:laidOutB Tryz.prog=true:=by kernel_rfl
set_option maxRecDepth 100000 in
theorem VO (os:Os) (started:os.Started) (H:Type) (enc:TypeId×Value→H):
    ReturnsInHanded {} Tryz.checked os 7 .any (Rows.ringKnownSpec.pre6 enc Tryz.prog Tryz.f7 Rows.ringKnownRow.domain false) (Rows.ringKnownSpec.post enc Tryz.prog Tryz.f7 false true false false):=by
  refine returnsInHanded_of_change (C:=Tryz.checked) own started (by kernel_rfl) Tryz.func7
    (ChangeSpec.witness6 (enc:=enc) (C:=Tryz.checked) false ⟨#[], #[],[]⟩ 8 (by kernel_rfl) (by kernel_rfl) (by kernel_rfl) (by kernel_rfl)) ?_
  intro W base args ds gs before hval0 hW hcnd _
  have hval:∀(j:Nat) t v,Tryz.f7.params[j]? =some t→args[j]? =some v→Value.okWide Tryz.prog W .any base t v:=hval0
  have hW':=hW
  obtain⟨p,q,hA0,hV,rfl,hfz,hnd⟩:=hW
  have hA:DataW.TrodAll enc Tryz.prog W 0 (fun _=>true) true Tryz.f7.params.toList args.toList ds p:=hA0
  rw[Tryz.params7]at hA hval
  obtain⟨hargs,rfl,rfl⟩:=trodAll_nil hA
  obtain rfl:args= #[]:=by cases args;simp_all
  obtain⟨rfl,rfl⟩:=trodVars_none hV
  clear hA0 hval0
  refine(IB Sf (by simp[eG])).mono fun e W' ⟨he,bel⟩=>?_
  subst he
  exact⟨_,rfl,_,_,_,[],_,[],hW',trodAll_mk1 (shut_bool Tryz.underlying4 _),trodAll_mk0,rfl,bel.frame _,fun h=>by cases h⟩

theorem over:Rows.ringKnownRow.holds Tryz.pinned (OpenSpec.ofChange Rows.ringKnownSpec):=
  OpenClaim.holds_of_wide 7 Tryz.f7 rfl rfl rfl rfl rfl rfl rfl ⟨rfl,rfl,rfl,rfl,rfl⟩ rfl rfl rfl rfl rfl (by kernel_rfl) Tryz.func7 (by kernel_rfl)
    (of_decide_eq_true (by kernel_rfl)) (by unfold Func.isWrapper;first | (rw[if_pos (by decide+kernel)];kernel_rfl) | (rw[if_neg (by decide+kernel)];exact⟨rfl,rfl⟩))
    (fun os started H enc _=>VO os started H enc)
end Go.Proofs.YtbbabfkgdnkehaaGreat.ringKnown
namespace Go.Proofs.YtbbabfkgdnkehaaGreat
/-- the statement -/
theorem ringKnown_holds:Rows.RingKnownSaid:=ringKnown.over
end Go.Proofs.YtbbabfkgdnkehaaGreat
#print axioms Go.Proofs.YtbbabfkgdnkehaaGreat.ringKnown_holds

