/- The statement LossPlays: for every input the law returns true, and the input reads as before. -/
import Derived.Test.YtogaallfhifngaaGreatRows
import Derived.Test.YtogaallfhifngaaGreatM13
import Derived.WalkKit
import Derived.ProofKit
import Derived.OpenShut
import Derived.ChangeOld
import Derived.Below
import Derived.Carry
set_option linter.unusedVariables false
set_option linter.unusedSimpArgs false
namespace Go.Proofs.YtogaallfhifngaaGreat
open Go Go.ChangeShapes Go.WideShapes Go.ChangeAt Go.RowKit

theorem cz_big : Tryz.prog.cellsOf 34 = 2 := by kernel_rfl
theorem cz_bool : Tryz.prog.cellsOf 4 = 1 := by kernel_rfl
theorem cz_int : Tryz.prog.cellsOf 3 = 1 := by kernel_rfl
theorem cz_u32 : Tryz.prog.cellsOf 104 = 1 := by kernel_rfl
theorem cz_limbs : Tryz.prog.cellsOf 32 = 1 := by kernel_rfl
theorem cz_rat : Tryz.prog.cellsOf 36 = 4 := by kernel_rfl
theorem cz_act : Tryz.prog.cellsOf 38 = 6 := by kernel_rfl
theorem cz_acts : Tryz.prog.cellsOf 22 = 1 := by kernel_rfl
theorem rd_big : Reads Tryz.prog 34 2 (fun l => ∃ (s : Bool) (xs : List Nat), Lim 4294967296 xs ∧ l = [.v (.bool s), sU false xs]) := by
  have h1 := rd_bool Tryz.underlying4 cz_bool
  have h2 := rd_limbs Tryz.underlying32 Tryz.underlying104 cz_limbs cz_u32 rfl
  have h3 := rd_struct Tryz.underlying34 cz_big (.cons rfl h1 (.cons rfl h2 .nil))
  exact rd_frac h3
theorem rd_rat : Reads Tryz.prog 36 4 (fun l => ∃ a : Fr4, LimF a ∧ l = a.tr false) :=
  (rd_struct Tryz.underlying36 cz_rat (.cons rfl rd_big (.cons rfl rd_big .nil))).mono fun l ⟨a, b, h1, ⟨s, xs, h2, h3⟩, b', c', h4, ⟨t, ys, h5, h6⟩, h7⟩ => ⟨⟨s, xs, t, ys⟩, ⟨h2, h5⟩, by rw [h1, h3, h4, h6, h7]; rfl⟩
theorem rd_act : Reads Tryz.prog 38 6 (fun l => ∃ a : At, LimF a.2.2 ∧ l = atr a) :=
  (rd_struct Tryz.underlying38 cz_act (.cons rfl (rd_int Tryz.underlying3 cz_int) (.cons rfl (rd_int Tryz.underlying3 cz_int) (.cons rfl rd_rat .nil)))).mono
    fun l ⟨a, b, h1, ⟨m, h2, _⟩, b', c', h3, ⟨n, h4, _⟩, d, e, h5, ⟨q, h6, h7⟩, h8⟩ => ⟨(m, n, q), h6, by rw [h1, h2, h3, h4, h5, h7, h8]; rfl⟩
theorem rd_acts : Reads Tryz.prog 22 1 (fun l => ∃ xs : List At, (∀ x ∈ xs, LimF x.2.2) ∧ l = [sAc 38 xs]) :=
  (rd_slice Tryz.underlying22 cz_acts (by omega) rd_act).mono fun l ⟨rows, h1, h2⟩ => by
    obtain ⟨xs, h3, h4, h5⟩ := rows_of atr (fun a : At => LimF a.2.2) (rows := rows) fun r hr => (h1 r hr).1
    exact ⟨xs, h3, by rw [h2, h4, h5]; rfl⟩
/-- a contract of a law that answers with a truth value, at what came in -/
theorem law_bool {P : Program} {f : FuncId} {args : List FV} {b : Bool} {us : List Value} {W : World} (h : Spec true P f [] args (Ret (.one (tv (.bool b))))) (ha : FVL W (Old W) [] args us) : Calls P f us.toArray W (fun e W' => e = .returned (.bool b) ∧ Below W.heap.size W W') := by
  have h1 := h (Old W) W [] us ⟨Chg.refl _ _, by simp [lobs, ress], by simp [lobs, ress], by simp [lobs, ress], fun q hq => by
    simp at hq
    subst hq
    refine ⟨⟨rfl, fun k o hk => by simp [lobs] at hk⟩, ?_⟩
    exact FVL_keep (fun _ _ => rfl) (fun b hb => ⟨⟨hb, by simp [lobs, ress]⟩, hb⟩) .refl _ _ ha⟩
  refine h1.mono fun e W' hE => ?_
  obtain ⟨v, lent', cs', r, ys, rfl, ⟨_, rfl⟩, hl, _, hcl, _, hL⟩ := hE
  obtain rfl : lent' = [] := List.eq_nil_of_length_eq_zero hl
  obtain rfl : cs' = [] := List.eq_nil_of_length_eq_zero hcl
  refine ⟨?_, ⟨hL.chg.os, hL.chg.tape, hL.chg.output, hL.chg.size, fun k hk => hL.chg.block k hk (by simp [lobs, ress])⟩⟩
  have h2 := (Sh.off (hL.sh 0 rfl)).2
  obtain ⟨z, rfl, rfl, h3⟩ := h2
  simp only [tv, CR, OR] at h3
  subst h3
  rfl
end Go.Proofs.YtogaallfhifngaaGreat
namespace Go.Proofs.YtogaallfhifngaaGreat.lossPlays
open Go Go.ChangeShapes Go.WideShapes Go.ChangeAt Go.RowKit
set_option linter.unusedVariables false

theorem own : ownKnob Tryz.prog.godebug = none := by kernel_rfl
theorem laidOut : laidOutB Tryz.prog = true := by kernel_rfl
set_option maxRecDepth 100000 in
theorem lifted (os : Os) (started : os.Started) (H : Type) (enc : TypeId × Value → H) :
    ReturnsInHanded {} Tryz.checked os 3 .any (Rows.lossPlaysSpec.pre6 enc Tryz.prog Tryz.f3 Rows.lossPlaysRow.domain false) (Rows.lossPlaysSpec.post enc Tryz.prog Tryz.f3 false true false false) := by
  refine returnsInHanded_of_change (C := Tryz.checked) own started (by kernel_rfl) Tryz.func3
    (ChangeSpec.witness6 (enc := enc) (C := Tryz.checked) false ⟨#[], #[.slice none 0 0], []⟩ 8 (by kernel_rfl) (by kernel_rfl) (by kernel_rfl) (by kernel_rfl)) ?_
  intro W base args ds gs before hval0 hW hcnd _
  have hval : ∀ (j : Nat) t v, Tryz.f3.params[j]? = some t → args[j]? = some v → Value.okWide Tryz.prog W .any base t v := hval0
  have hW' := hW
  obtain ⟨p, q, hA0, hV, rfl, hfz, hnd⟩ := hW
  have hA : DataW.TrodAll enc Tryz.prog W 0 (fun _ => true) true Tryz.f3.params.toList args.toList ds p := hA0
  rw [Tryz.params3] at hA hval
  obtain ⟨v0, vs0, d0, ds0, p0, q0, hargs, rfl, rfl, h0, r0⟩ := trodAll_cons hA
  obtain ⟨rfl, rfl, rfl⟩ := trodAll_nil r0
  obtain rfl : args = #[v0] := by cases args; simp_all
  obtain ⟨rfl, rfl⟩ := trodVars_none hV
  have k0 := h0
  have lt0 : ∀ x ∈ p0, x.block < W.heap.size := by obtain ⟨m, hm⟩ := k0; exact DataW.trod_lt m _ _ _ hm
  obtain ⟨a0, len0, cap0, rfl⟩ := okWide_slice Tryz.underlying22 (hval 0 22 v0 rfl rfl)
  obtain ⟨xs, hxs, hr⟩ : ∃ xs : List At, (∀ x ∈ xs, LimF x.2.2) ∧ FVL W (Old W) [] [.one (.t (sAc 38 xs))] [.slice a0 len0 cap0] := by
    obtain ⟨fuel, hf⟩ := h0
    obtain ⟨l, ⟨xs, hx, rfl⟩, _, h⟩ := rd_acts.2 H enc W fuel _ _ hf
    refine ⟨xs, hx, ?_⟩
    simp only [FVL, FVR1, AR, and_true]
    have h2 : FRL W (Old W) [sAc 38 xs] [.slice a0 len0 cap0] := by simpa [Value.cells] using h
    simp only [FRL, and_true] at h2
    exact h2
  clear hA0 hval0
  refine (law_bool (l_LossPlays fun x hx h6 => (hxs x hx).ok h6) hr).mono fun e W' ⟨he, bel⟩ => ?_
  subst he
  exact ⟨_, rfl, _, _, _, [], _, [], hW', trodAll_mk1 (shut_bool Tryz.underlying4 _), (trodAll_cons_mk (Below.trod laidOut (by kernel_rfl) (of_decide_eq_true (by kernel_rfl)) k0 bel lt0) trodAll_mk0), rfl, bel.frame _, fun h => by cases h⟩

theorem over : Rows.lossPlaysRow.holds Tryz.pinned (OpenSpec.ofChange Rows.lossPlaysSpec) :=
  OpenClaim.holds_of_wide 3 Tryz.f3 rfl rfl rfl rfl rfl rfl rfl ⟨rfl, rfl, rfl, rfl, rfl⟩ rfl rfl rfl rfl rfl (by kernel_rfl) Tryz.func3 (by kernel_rfl)
    (of_decide_eq_true (by kernel_rfl)) (by unfold Func.isWrapper; first | (rw [if_pos (by decide +kernel)]; kernel_rfl) | (rw [if_neg (by decide +kernel)]; exact ⟨rfl, rfl⟩))
    (fun os started H enc _ => lifted os started H enc)
end Go.Proofs.YtogaallfhifngaaGreat.lossPlays
namespace Go.Proofs.YtogaallfhifngaaGreat
/-- the statement -/
theorem lossPlays_holds : Rows.LossPlaysSaid := lossPlays.over
end Go.Proofs.YtogaallfhifngaaGreat
#print axioms Go.Proofs.YtogaallfhifngaaGreat.lossPlays_holds

