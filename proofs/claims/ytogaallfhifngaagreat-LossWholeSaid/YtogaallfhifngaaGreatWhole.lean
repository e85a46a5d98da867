/- The statement LossWhole: for every input the law returns true, and the input reads as before. -/
import Derived.Test.YtogaallfhifngaaGreatRows
import Derived.Test.YtogaallfhifngaaGreatM12
import Derived.Test.YtogaallfhifngaaGreatM13
set_option linter.unusedVariables false
set_option linter.unusedSimpArgs false
namespace Go.Proofs.YtogaallfhifngaaGreat.lossWhole
open Go Go.ChangeShapes Go.WideShapes Go.ChangeAt Go.RowKit
set_option linter.unusedVariables false

theorem own : ownKnob Tryz.prog.godebug = none := by kernel_rfl
theorem laidOut : laidOutB Tryz.prog = true := by kernel_rfl
set_option maxRecDepth 100000 in
theorem lifted (os : Os) (started : os.Started) (H : Type) (enc : TypeId × Value → H) :
    ReturnsInHanded {} Tryz.checked os 4 .any (Rows.lossWholeSpec.pre6 enc Tryz.prog Tryz.f4 Rows.lossWholeRow.domain false) (Rows.lossWholeSpec.post enc Tryz.prog Tryz.f4 false true false false) := by
  refine returnsInHanded_of_change (C := Tryz.checked) own started (by kernel_rfl) Tryz.func4
    (ChangeSpec.witness6 (enc := enc) (C := Tryz.checked) false ⟨#[], #[.slice none 0 0], []⟩ 8 (by kernel_rfl) (by kernel_rfl) (by kernel_rfl) (by kernel_rfl)) ?_
  intro W base args ds gs before hval0 hW hcnd _
  have hval : ∀ (j : Nat) t v, Tryz.f4.params[j]? = some t → args[j]? = some v → Value.okWide Tryz.prog W .any base t v := hval0
  have hW' := hW
  obtain ⟨p, q, hA0, hV, rfl, hfz, hnd⟩ := hW
  have hA : DataW.TrodAll enc Tryz.prog W 0 (fun _ => true) true Tryz.f4.params.toList args.toList ds p := hA0
  rw [Tryz.params4] at hA hval
  obtain ⟨v0, vs0, d0, ds0, p0, q0, hargs, rfl, rfl, h0, r0⟩ := trodAll_cons hA
  obtain ⟨rfl, rfl, rfl⟩ := trodAll_nil r0
  obtain rfl : args = #[v0] := by cases args; simp_all
  obtain ⟨rfl, rfl⟩ := trodVars_none hV
  have k0 := h0
  have lt0 : ∀ x ∈ p0, x.block < W.heap.size := by obtain ⟨m, hm⟩ := k0; exact DataW.trod_lt m _ _ _ hm
  obtain ⟨a0, len0, cap0, rfl⟩ := okWide_slice Tryz.underlying22 (hval 0 22 v0 rfl rfl)
  obtain ⟨xs, hxs, hr⟩ : ∃ xs : List At, (∀ x ∈ xs, InA x) ∧ FVL W (Old W) [] [.one (.t (sAc 38 xs))] [.slice a0 len0 cap0] := by
    obtain ⟨fuel, hf⟩ := h0
    obtain ⟨l, ⟨xs, hx, rfl⟩, _, h⟩ := rd_acts.2 H enc W fuel _ _ hf
    refine ⟨xs, hx, ?_⟩
    simp only [FVL, FVR1, AR, and_true]
    have h2 : FRL W (Old W) [sAc 38 xs] [.slice a0 len0 cap0] := by simpa [Value.cells] using h
    simp only [FRL, and_true] at h2
    exact h2
  clear hA0 hval0
  refine (law_bool (l_LossWhole (fun x hx h6 => (hxs x hx).1.ok h6) fun x hx => (hxs x hx).2) hr).mono fun e W' ⟨he, bel⟩ => ?_
  subst he
  exact ⟨_, rfl, _, _, _, [], _, [], hW', trodAll_mk1 (shut_bool Tryz.underlying4 _), (trodAll_cons_mk (Below.trod laidOut (by kernel_rfl) (of_decide_eq_true (by kernel_rfl)) k0 bel lt0) trodAll_mk0), rfl, bel.frame _, fun h => by cases h⟩

theorem over : Rows.lossWholeRow.holds Tryz.pinned (OpenSpec.ofChange Rows.lossWholeSpec) :=
  OpenClaim.holds_of_wide 4 Tryz.f4 rfl rfl rfl rfl rfl rfl rfl ⟨rfl, rfl, rfl, rfl, rfl⟩ rfl rfl rfl rfl rfl (by kernel_rfl) Tryz.func4 (by kernel_rfl)
    (of_decide_eq_true (by kernel_rfl)) (by unfold Func.isWrapper; first | (rw [if_pos (by decide +kernel)]; kernel_rfl) | (rw [if_neg (by decide +kernel)]; exact ⟨rfl, rfl⟩))
    (fun os started H enc _ => lifted os started H enc)
end Go.Proofs.YtogaallfhifngaaGreat.lossWhole
namespace Go.Proofs.YtogaallfhifngaaGreat
/-- the statement -/
theorem lossWhole_holds : Rows.LossWholeSaid := lossWhole.over
end Go.Proofs.YtogaallfhifngaaGreat
#print axioms Go.Proofs.YtogaallfhifngaaGreat.lossWhole_holds

