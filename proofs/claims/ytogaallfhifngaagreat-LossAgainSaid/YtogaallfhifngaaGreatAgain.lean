/- The statement LossAgain: for every input the law returns true, and the input reads as before. -/
import Derived.Test.YtogaallfhifngaaGreatRows
import Derived.Test.YtogaallfhifngaaGreatM5
import Derived.Test.YtogaallfhifngaaGreatM13
import Derived.Test.YtogaallfhifngaaGreatM15
set_option maxRecDepth 100000
set_option linter.unusedVariables false
set_option linter.unusedSimpArgs false
namespace Go.Proofs.YtogaallfhifngaaGreat
open Go Go.ChangeShapes Go.WideShapes Go.ChangeAt Go.RowKit
theorem cz_vin : Tryz.prog.cellsOf 57 = 5 := by kernel_rfl
theorem cz_vins : Tryz.prog.cellsOf 49 = 1 := by kernel_rfl
theorem rd_vin : Reads Tryz.prog 57 5 (fun l => ∃ a : Gt, LimF a.2 ∧ l = gtr false a) :=
  (rd_struct Tryz.underlying57 cz_vin (.cons rfl (rd_int Tryz.underlying3 cz_int) (.cons rfl rd_rat .nil))).mono
    fun l ⟨b', c', h3, ⟨n, h4, _⟩, d, e, h5, ⟨q, h6, h7⟩, h8⟩ => ⟨(n, q), h6, by rw [h3, h4, h5, h7, h8]; rfl⟩
theorem rd_vins : Reads Tryz.prog 49 1 (fun l => ∃ xs : List Gt, (∀ x ∈ xs, LimF x.2) ∧ l = [sG 57 false xs]) :=
  (rd_slice Tryz.underlying49 cz_vins (by omega) rd_vin).mono fun l ⟨rows, h1, h2⟩ => by
    obtain ⟨xs, h3, h4, h5⟩ := rows_of (gtr false) (fun a : Gt => LimF a.2) (rows := rows) fun r hr => (h1 r hr).1
    exact ⟨xs, h3, by rw [h2, h4, h5]; rfl⟩
end Go.Proofs.YtogaallfhifngaaGreat
namespace Go.Proofs.YtogaallfhifngaaGreat.lossAgain
open Go Go.ChangeShapes Go.WideShapes Go.ChangeAt Go.RowKit
set_option linter.unusedVariables false

theorem own : ownKnob Tryz.prog.godebug = none := by kernel_rfl
theorem laidOut : laidOutB Tryz.prog = true := by kernel_rfl
set_option maxRecDepth 100000 in
theorem lifted (os : Os) (started : os.Started) (H : Type) (enc : TypeId × Value → H) :
    ReturnsInHanded {} Tryz.checked os 5 .any (Rows.lossAgainSpec.pre6 enc Tryz.prog Tryz.f5 Rows.lossAgainRow.domain false) (Rows.lossAgainSpec.post enc Tryz.prog Tryz.f5 false true false false) := by
  refine returnsInHanded_of_change (C := Tryz.checked) own started (by kernel_rfl) Tryz.func5
    (ChangeSpec.witness6 (enc := enc) (C := Tryz.checked) false ⟨#[], #[.slice none 0 0, .slice none 0 0, .slice none 0 0], []⟩ 8 (by kernel_rfl) (by kernel_rfl) (by kernel_rfl) (by kernel_rfl)) ?_
  intro W base args ds gs before hval0 hW hcnd _
  have hval : ∀ (j : Nat) t v, Tryz.f5.params[j]? = some t → args[j]? = some v → Value.okWide Tryz.prog W .any base t v := hval0
  have hW' := hW
  obtain ⟨p, q, hA0, hV, rfl, hfz, hnd⟩ := hW
  have hA : DataW.TrodAll enc Tryz.prog W 0 (fun _ => true) true Tryz.f5.params.toList args.toList ds p := hA0
  rw [Tryz.params5] at hA hval
  obtain ⟨v0, vs0, d0, ds0, p0, q0, hargs, rfl, rfl, h0, r0⟩ := trodAll_cons hA
  obtain ⟨v1, vs1, d1, ds1, p1, q1, hargs1, rfl, rfl, h1, r1⟩ := trodAll_cons r0
  obtain ⟨v2, vs2, d2, ds2, p2, q2, hargs2, rfl, rfl, h2, r2⟩ := trodAll_cons r1
  obtain ⟨rfl, rfl, rfl⟩ := trodAll_nil r2
  subst hargs2
  subst hargs1
  obtain rfl : args = #[v0, v1, v2] := by cases args; simp_all
  obtain ⟨rfl, rfl⟩ := trodVars_none hV
  have k0 := h0
  have k1 := h1
  have k2 := h2
  have lt0 : ∀ x ∈ p0, x.block < W.heap.size := by obtain ⟨m, hm⟩ := k0; exact DataW.trod_lt m _ _ _ hm
  have lt1 : ∀ x ∈ p1, x.block < W.heap.size := by obtain ⟨m, hm⟩ := k1; exact DataW.trod_lt m _ _ _ hm
  have lt2 : ∀ x ∈ p2, x.block < W.heap.size := by obtain ⟨m, hm⟩ := k2; exact DataW.trod_lt m _ _ _ hm
  obtain ⟨a0, len0, cap0, rfl⟩ := okWide_slice Tryz.underlying49 (hval 0 49 v0 rfl rfl)
  obtain ⟨a1, len1, cap1, rfl⟩ := okWide_slice Tryz.underlying22 (hval 1 22 v1 rfl rfl)
  obtain ⟨a2, len2, cap2, rfl⟩ := okWide_slice Tryz.underlying22 (hval 2 22 v2 rfl rfl)
  obtain ⟨gs, hgs, hr0⟩ : ∃ xs : List Gt, (∀ x ∈ xs, LimF x.2) ∧ FRL W (Old W) [sG 57 false xs] [.slice a0 len0 cap0] := by
    obtain ⟨fuel, hf⟩ := h0
    obtain ⟨l, ⟨xs, hx, rfl⟩, _, h⟩ := rd_vins.2 H enc W fuel _ _ hf
    exact ⟨xs, hx, by simpa [Value.cells] using h⟩
  obtain ⟨xs, hxs, hr1⟩ : ∃ xs : List At, (∀ x ∈ xs, InA x) ∧ FRL W (Old W) [sAc 38 xs] [.slice a1 len1 cap1] := by
    obtain ⟨fuel, hf⟩ := h1
    obtain ⟨l, ⟨xs, hx, rfl⟩, _, h⟩ := rd_acts.2 H enc W fuel _ _ hf
    exact ⟨xs, hx, by simpa [Value.cells] using h⟩
  obtain ⟨zs, hzs, hr2⟩ : ∃ xs : List At, (∀ x ∈ xs, InA x) ∧ FRL W (Old W) [sAc 38 xs] [.slice a2 len2 cap2] := by
    obtain ⟨fuel, hf⟩ := h2
    obtain ⟨l, ⟨xs, hx, rfl⟩, _, h⟩ := rd_acts.2 H enc W fuel _ _ hf
    exact ⟨xs, hx, by simpa [Value.cells] using h⟩
  have hr : FVL W (Old W) [] [.one (.t (sG 57 false gs)), .one (.t (sAc 38 xs)), .one (.t (sAc 38 zs))] [.slice a0 len0 cap0, .slice a1 len1 cap1, .slice a2 len2 cap2] := by
    simp only [FRL, and_true] at hr0 hr1 hr2
    simp only [FVL, FVR1, AR, and_true]
    exact ⟨hr0, hr1, hr2⟩
  clear hA0 hval0
  refine (law_bool (l_LossAgain (fun x hx h6 => (hgs x hx).ok h6) (fun x hx h6 => (hxs x hx).1.ok h6) fun x hx h6 => (hzs x hx).1.ok h6) hr).mono fun e W' ⟨he, bel⟩ => ?_
  subst he
  exact ⟨_, rfl, _, _, _, [], _, [], hW', trodAll_mk1 (shut_bool Tryz.underlying4 _), (trodAll_cons_mk (Below.trod laidOut (by kernel_rfl) (of_decide_eq_true (by kernel_rfl)) k0 bel lt0) (trodAll_cons_mk (Below.trod laidOut (by kernel_rfl) (of_decide_eq_true (by kernel_rfl)) k1 bel lt1) (trodAll_cons_mk (Below.trod laidOut (by kernel_rfl) (of_decide_eq_true (by kernel_rfl)) k2 bel lt2) trodAll_mk0))), rfl, bel.frame _, fun h => by cases h⟩

theorem over : Rows.lossAgainRow.holds Tryz.pinned (OpenSpec.ofChange Rows.lossAgainSpec) :=
  OpenClaim.holds_of_wide 5 Tryz.f5 rfl rfl rfl rfl rfl rfl rfl ⟨rfl, rfl, rfl, rfl, rfl⟩ rfl rfl rfl rfl rfl (by kernel_rfl) Tryz.func5 (by kernel_rfl)
    (of_decide_eq_true (by kernel_rfl)) (by unfold Func.isWrapper; first | (rw [if_pos (by decide +kernel)]; kernel_rfl) | (rw [if_neg (by decide +kernel)]; exact ⟨rfl, rfl⟩))
    (fun os started H enc _ => lifted os started H enc)
end Go.Proofs.YtogaallfhifngaaGreat.lossAgain
namespace Go.Proofs.YtogaallfhifngaaGreat
/-- the statement -/
theorem lossAgain_holds : Rows.LossAgainSaid := lossAgain.over
end Go.Proofs.YtogaallfhifngaaGreat
#print axioms Go.Proofs.YtogaallfhifngaaGreat.lossAgain_holds

