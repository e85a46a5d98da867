/- Part 12 of a proof: A6 to Zy. -/
import Derived.Test.YtogaallfhifngaaGreatM11
import Derived.Test.YtogaallfhifngaaGreatM9
import Derived.Test.YtogaallfhifngaaGreatM8
import Derived.Test.YtogaallfhifngaaGreatM10
import Derived.Test.YtogaallfhifngaaGreatM5
set_option maxRecDepth 100000
set_option linter.unusedVariables false
set_option linter.unusedSimpArgs false
namespace Go.Proofs.YtogaallfhifngaaGreat
open Go Go.RowKit
theorem c_Min4 {xs : List Fr4} (hne : 0 < xs.length) (hx : ∀ x ∈ xs, x.ok ∧ Sz 17179869184 x.q) (hl : xs.length ≤ 1099511627776) : Spec false Tryz.prog 59 [] [.one (.t (sQ false xs))] (Ret (qF (.of (qmin0 (xs.map Fr4.q))))) := by
  refine fn0 Tryz.func59 rfl Tryz.ntmps59 rfl ttok rfl fun N w c0 h0 => ?_
  refine sq ?_; refine rl ?_; refine al 0 ?_; refine nl ?_; refine sq ?_; refine rl ?_; refine o1 ?_; refine o1 ?_; refine ldf ((nthF xs (0)).tr false) (rat_at xs (k := 0) (by omega)) ?_
  refine ca (c_Plain4 ⟨(hx _ (nthF_mem (by omega))).1, rfl⟩) ok50 ⟨a1g rfl, rfl⟩ (qF (.of (nthF xs (0)).q)) ?_
  refine al 1 ?_; refine st ?_; refine nl ?_; refine sq ?_; refine sq ?_; refine rl ?_; refine o1 ?_; refine nl ?_; refine bl ?_
  refine lp (γ := Nat) (fun k => frL [(0, .one (.t (sQ false xs))), (2, .one (.pt 0 0)), (3, .one (.pt 1 0)), (4, .one (tv (.int .i64 ((k : Nat) : Int))))]) (fun k => [(⟨45, 0, [tv (.bool false), tv (.slice none 0 0), tv (.bool false), tv (.slice none 0 0)]⟩ : Ob), ⟨45, 0, ((Fr4.of (qmin0 ((xs.take k).map Fr4.q))).tr false).map .t⟩].map some) (fun k => 1 ≤ k ∧ k ≤ xs.length ∧ Sz 17179869184 (qmin0 ((xs.take k).map Fr4.q))) (fun k => xs.length - k) 1 ⟨Nat.le_refl _, hne, by rw [qmin0_one hne]; exact (hx _ (nthF_mem hne)).2⟩ (su0 h0 [0, 1] _ _ (by decide) ⟨rfl, rfl, rfl, rfl, trivial⟩ ⟨oe rfl rfl, oet (congrArg (fun q => some (⟨45, 0, ((Fr4.of q).tr false).map .t⟩ : Ob)) (qmin0_one hne).symm), rfl⟩) fun k hk => ?_
  refine sq ?_; refine sq ?_; refine rl ?_; (iterate 4 refine o1 ?_); refine nl ?_; refine cdp rfl (fun h1 => ?_) (fun h1 => ?_)
  ·
    refine sk ?_; refine sq ?_; refine bl ?_; refine sq ?_; refine rd [0, 1] (fun i => [].contains i) mixed ?_
    refine dv 0 ?_; refine dv 1 ?_; refine dv 2 ?_; refine dlr 3 ((nthF xs (k)).tr false) (rat_at xs (k := k) (by omega)) ?_
    refine dld 4 ?_
    refine dca 5 rfl (c_Cmp4 ⟨(hx _ (nthF_mem (by omega))).1, rfl⟩ (Qn.of (p := (qmin0 ((xs.take k).map Fr4.q))) hk.2.2) (hx _ (nthF_mem (by omega))).2 hk.2.2) ok19 ⟨a1g rfl, a1g rfl, rfl⟩ (.one (tv (.int .i64 ((nthF xs (k)).q - (qmin0 ((xs.take k).map Fr4.q))).num.sign))) ?_
    refine df 6 ?_; refine dz0 ?_; refine cdp rfl (fun h2 => ?_) (fun h2 => ?_)
    ·
      refine rl ?_; (iterate 3 refine o1 ?_); refine ldf ((nthF xs (k)).tr false) (rat_at xs (k := k) (by omega)) ?_
      refine ca (c_Plain4 ⟨(hx _ (nthF_mem (by omega))).1, rfl⟩) ok50 ⟨a1g rfl, rfl⟩ (qF (.of (nthF xs (k)).q)) ?_
      refine st ?_; refine nl ?_; refine rl ?_; refine o1 ?_; refine o1 ?_; refine WL.cast (t := 14) (u' := .int .i64 ((k + 1 : Nat) : Int)) rfl (cint (by omega)) ?_
      refine o1 ?_; refine nl ?_; have hst : (qmin0 ((xs.take (k + 1)).map Fr4.q)) = (nthF xs k).q := (qmin0_step hk.1 (by omega)).trans (if_pos ((lt_sgn _ _).1 h2))
      exact ⟨k + 1, by omega, ⟨by omega, by omega, by rw [hst]; exact (hx _ (nthF_mem (by omega))).2⟩, su0 h0 [0, 1] _ _ (by decide) ⟨rfl, rfl, rfl, rfl, trivial⟩ ⟨oe rfl rfl, oet (congrArg (fun q => some (⟨45, 0, ((Fr4.of q).tr false).map .t⟩ : Ob)) hst.symm), rfl⟩⟩
    ·
      refine sk ?_; refine rl ?_; refine o1 ?_; refine o1 ?_; refine WL.cast (t := 14) (u' := .int .i64 ((k + 1 : Nat) : Int)) rfl (cint (by omega)) ?_
      refine o1 ?_; refine nl ?_; have hst : (qmin0 ((xs.take (k + 1)).map Fr4.q)) = (qmin0 ((xs.take k).map Fr4.q)) := (qmin0_step hk.1 (by omega)).trans (if_neg fun h8 => h2 ((lt_sgn _ _).2 h8))
      exact ⟨k + 1, by omega, ⟨by omega, by omega, by rw [hst]; exact hk.2.2⟩, su0 h0 [0, 1] _ _ (by decide) ⟨rfl, rfl, rfl, rfl, trivial⟩ ⟨oe rfl rfl, oet (congrArg (fun q => some (⟨45, 0, ((Fr4.of q).tr false).map .t⟩ : Ob)) hst.symm), rfl⟩⟩
  ·
    refine ex ?_; refine sq ?_; refine rl ?_; refine ld ?_; refine st ?_; refine nl ?_; refine rt ?_
    exact en (.inl rfl) rfl (pk1 (.agg (.cons (.id rfl) (.cons (.id rfl) (.cons (.id rfl) (.cons (.id rfl) .nil)))))) (by decide) (fun h => by cases h) (by rw [List.take_of_length_le (by omega)]; rfl)
theorem c_Max4 {xs : List Fr4} (hne : 0 < xs.length) (hx : ∀ x ∈ xs, x.ok ∧ Sz 17179869184 x.q) (hl : xs.length ≤ 1099511627776) : Spec false Tryz.prog 20 [] [.one (.t (sQ false xs))] (Ret (qF (.of (qmax0 (xs.map Fr4.q))))) := by
  refine fn0 Tryz.func20 rfl Tryz.ntmps20 rfl ttok rfl fun N w c0 h0 => ?_
  refine sq ?_; refine rl ?_; refine al 0 ?_; refine nl ?_; refine sq ?_; refine rl ?_; refine o1 ?_; refine o1 ?_; refine ldf ((nthF xs (0)).tr false) (rat_at xs (k := 0) (by omega)) ?_
  refine ca (c_Plain4 ⟨(hx _ (nthF_mem (by omega))).1, rfl⟩) ok50 ⟨a1g rfl, rfl⟩ (qF (.of (nthF xs (0)).q)) ?_
  refine al 1 ?_; refine st ?_; refine nl ?_; refine sq ?_; refine sq ?_; refine rl ?_; refine o1 ?_; refine nl ?_; refine bl ?_
  refine lp (γ := Nat) (fun k => frL [(0, .one (.t (sQ false xs))), (2, .one (.pt 0 0)), (3, .one (.pt 1 0)), (4, .one (tv (.int .i64 ((k : Nat) : Int))))]) (fun k => [(⟨45, 0, [tv (.bool false), tv (.slice none 0 0), tv (.bool false), tv (.slice none 0 0)]⟩ : Ob), ⟨45, 0, ((Fr4.of (qmax0 ((xs.take k).map Fr4.q))).tr false).map .t⟩].map some) (fun k => 1 ≤ k ∧ k ≤ xs.length ∧ Sz 17179869184 (qmax0 ((xs.take k).map Fr4.q))) (fun k => xs.length - k) 1 ⟨Nat.le_refl _, hne, by rw [qmax0_one hne]; exact (hx _ (nthF_mem hne)).2⟩ (su0 h0 [0, 1] _ _ (by decide) ⟨rfl, rfl, rfl, rfl, trivial⟩ ⟨oe rfl rfl, oet (congrArg (fun q => some (⟨45, 0, ((Fr4.of q).tr false).map .t⟩ : Ob)) (qmax0_one hne).symm), rfl⟩) fun k hk => ?_
  refine sq ?_; refine sq ?_; refine rl ?_; (iterate 4 refine o1 ?_); refine nl ?_; refine cdp rfl (fun h1 => ?_) (fun h1 => ?_)
  ·
    refine sk ?_; refine sq ?_; refine bl ?_; refine sq ?_; refine rd [0, 1] (fun i => [].contains i) mixed ?_
    refine dv 0 ?_; refine dv 1 ?_; refine dv 2 ?_; refine dlr 3 ((nthF xs (k)).tr false) (rat_at xs (k := k) (by omega)) ?_
    refine dld 4 ?_
    refine dca 5 rfl (c_Cmp4 ⟨(hx _ (nthF_mem (by omega))).1, rfl⟩ (Qn.of (p := (qmax0 ((xs.take k).map Fr4.q))) hk.2.2) (hx _ (nthF_mem (by omega))).2 hk.2.2) ok19 ⟨a1g rfl, a1g rfl, rfl⟩ (.one (tv (.int .i64 ((nthF xs (k)).q - (qmax0 ((xs.take k).map Fr4.q))).num.sign))) ?_
    refine df 6 ?_; refine dz0 ?_; refine cdp rfl (fun h2 => ?_) (fun h2 => ?_)
    ·
      refine rl ?_; (iterate 3 refine o1 ?_); refine ldf ((nthF xs (k)).tr false) (rat_at xs (k := k) (by omega)) ?_
      refine ca (c_Plain4 ⟨(hx _ (nthF_mem (by omega))).1, rfl⟩) ok50 ⟨a1g rfl, rfl⟩ (qF (.of (nthF xs (k)).q)) ?_
      refine st ?_; refine nl ?_; refine rl ?_; refine o1 ?_; refine o1 ?_; refine WL.cast (t := 14) (u' := .int .i64 ((k + 1 : Nat) : Int)) rfl (cint (by omega)) ?_
      refine o1 ?_; refine nl ?_; have hst : (qmax0 ((xs.take (k + 1)).map Fr4.q)) = (nthF xs k).q := (qmax0_step hk.1 (by omega)).trans (if_pos ((gt_sgn _ _).1 h2))
      exact ⟨k + 1, by omega, ⟨by omega, by omega, by rw [hst]; exact (hx _ (nthF_mem (by omega))).2⟩, su0 h0 [0, 1] _ _ (by decide) ⟨rfl, rfl, rfl, rfl, trivial⟩ ⟨oe rfl rfl, oet (congrArg (fun q => some (⟨45, 0, ((Fr4.of q).tr false).map .t⟩ : Ob)) hst.symm), rfl⟩⟩
    ·
      refine sk ?_; refine rl ?_; refine o1 ?_; refine o1 ?_; refine WL.cast (t := 14) (u' := .int .i64 ((k + 1 : Nat) : Int)) rfl (cint (by omega)) ?_
      refine o1 ?_; refine nl ?_; have hst : (qmax0 ((xs.take (k + 1)).map Fr4.q)) = (qmax0 ((xs.take k).map Fr4.q)) := (qmax0_step hk.1 (by omega)).trans (if_neg fun h8 => h2 ((gt_sgn _ _).2 h8))
      exact ⟨k + 1, by omega, ⟨by omega, by omega, by rw [hst]; exact hk.2.2⟩, su0 h0 [0, 1] _ _ (by decide) ⟨rfl, rfl, rfl, rfl, trivial⟩ ⟨oe rfl rfl, oet (congrArg (fun q => some (⟨45, 0, ((Fr4.of q).tr false).map .t⟩ : Ob)) hst.symm), rfl⟩⟩
  ·
    refine ex ?_; refine sq ?_; refine rl ?_; refine ld ?_; refine st ?_; refine nl ?_; refine rt ?_
    exact en (.inl rfl) rfl (pk1 (.agg (.cons (.id rfl) (.cons (.id rfl) (.cons (.id rfl) (.cons (.id rfl) .nil)))))) (by decide) (fun h => by cases h) (by rw [List.take_of_length_le (by omega)]; rfl)
theorem c_Total25 {vs : List (Int × Rat)} {B : Nat} (hB : 2 + vs.length * (B + 1) ≤ 17179869184) (hzs : ∀ x ∈ vs, Sz B x.2) (hl : vs.length ≤ 1099511627776) : Spec false Tryz.prog 37 [] [.one (.t (sV 63 false vs))] (Ret (qF (.of (qsum (vs.map Prod.snd))))) := by
  refine fn0 Tryz.func37 rfl Tryz.ntmps37 rfl ttok rfl fun N w c0 h0 => ?_
  have h00 : ((0 : Int) : Rat) = qsum ((vs.take 0).map Prod.snd) := by simp [qsum]
  refine sq ?_; refine rl ?_; refine al 0 ?_; refine nl ?_; refine sq ?_; refine rl ?_; refine ca (c_Whole4 (n := 0) (by omega) (by omega)) ok12 ⟨a1 rfl, rfl⟩ (qF (.of ((0 : Int) : Rat))) ?_
  refine al 1 ?_; refine st ?_; refine nl ?_; refine sq ?_; refine sq ?_; refine rl ?_; refine o1 ?_; refine nl ?_; refine bl ?_
  refine lp (γ := Nat) (fun k => frL [(0, .one (.t (sV 63 false vs))), (2, .one (.pt 0 0)), (3, .one (.pt 1 0)), (4, .one (tv (.int .i64 ((k : Nat) : Int))))]) (fun k => [(⟨45, 0, [tv (.bool false), tv (.slice none 0 0), tv (.bool false), tv (.slice none 0 0)]⟩ : Ob), ⟨45, 0, ((Fr4.of (qsum ((vs.take k).map Prod.snd))).tr false).map .t⟩].map some) (fun k => k ≤ vs.length ∧ Sz (2 + k * (B + 1)) (qsum ((vs.take k).map Prod.snd))) (fun k => vs.length - k) 0 ⟨Nat.zero_le _, by rw [← h00]; exact (int_sz (z := 0) (by omega) (by omega)).mono (by omega)⟩ (su0 h0 [0, 1] _ _ (by decide) ⟨rfl, rfl, rfl, rfl, trivial⟩ ⟨oe rfl rfl, oet (congrArg (fun q => some (⟨45, 0, ((Fr4.of q).tr false).map .t⟩ : Ob)) h00), rfl⟩) fun k hk => ?_
  have hmul : k * (B + 1) ≤ vs.length * (B + 1) := Nat.mul_le_mul hk.1 (Nat.le_refl _)
  have hB2 : vs.length = 0 ∨ B ≤ 17179869182 := by rcases Nat.eq_zero_or_pos vs.length with h | h; exact .inl h; exact .inr (by have := Nat.mul_le_mul h (Nat.le_refl (B + 1)); omega)
  refine sq ?_; refine sq ?_; refine rl ?_; (iterate 4 refine o1 ?_); refine nl ?_; refine cdp rfl (fun h1 => ?_) (fun h1 => ?_)
  ·
    refine sk ?_; refine sq ?_; refine bl ?_; refine rd [0, 1] (fun i => [7].contains i) mixed ?_
    refine dld 0 ?_; refine dv 1 ?_; refine dv 2 ?_; refine dv 3 ?_; refine dv 4 ?_; refine dlr 5 ((Fr4.of (nthV vs (k)).2).tr false) (vin_q false (by omega)) ?_
    refine dca 6 rfl (c_Add4 (Qn.of (p := (qsum ((vs.take k).map Prod.snd))) (hk.2.mono (M := 17179869184) (by omega))) (Qn.of (p := (nthV vs (k)).2) ((hzs _ (nthV_mem (by omega))).mono (M := 17179869184) (by omega))) (hk.2.mono (M := 17179869184) (by omega)) ((hzs _ (nthV_mem (by omega))).mono (M := 17179869184) (by omega))) ok62 ⟨a1g rfl, a1g rfl, rfl⟩ (qF (.of ((qsum ((vs.take k).map Prod.snd)) + (nthV vs (k)).2))) ?_
    refine dst 7 ?_; refine dz0 ?_; refine rl ?_; refine o1 ?_; refine o1 ?_; refine WL.cast (t := 11) (u' := .int .i64 ((k + 1 : Nat) : Int)) rfl (cint (by omega)) ?_
    refine o1 ?_; refine nl ?_; have hst : (qsum ((vs.take (k + 1)).map Prod.snd)) = (qsum ((vs.take k).map Prod.snd)) + (nthV vs k).2 := by rw [take_v (by omega), List.map_append]; exact qsum_snoc _ _
    exact ⟨k + 1, by omega, ⟨by omega, by rw [hst]; exact (add_sz hk.2 (hzs _ (nthV_mem (by omega)))).mono (by rw [show (k + 1) * (B + 1) = k * (B + 1) + (B + 1) from Nat.succ_mul k (B + 1)]; omega)⟩, su0 h0 [0, 1] _ _ (by decide) ⟨rfl, rfl, rfl, rfl, trivial⟩ ⟨oe rfl rfl, oet (congrArg (fun q => some (⟨45, 0, ((Fr4.of q).tr false).map .t⟩ : Ob)) hst.symm), rfl⟩⟩
  ·
    refine ex ?_; refine sq ?_; refine rl ?_; refine ld ?_; refine st ?_; refine nl ?_; refine rt ?_
    exact en (.inl rfl) rfl (pk1 (.agg (.cons (.id rfl) (.cons (.id rfl) (.cons (.id rfl) (.cons (.id rfl) .nil)))))) (by decide) (fun h => by cases h) (by rw [List.take_of_length_le (by omega)]; rfl)
theorem c_Expire25 {vs : List (Int × Rat)} {last fr : Int} {was : Bool} (hl : vs.length ≤ 1073741823) : Spec false Tryz.prog 33 [] [.agg (([sV 63 false vs, .v (.int .i64 last), .v (.bool was)] : List Tr).map .t), .one (tv (.int .i64 fr))] (Ret (.tup [.agg (([sV 63 false (vs.filter fun x => !decide (x.1 < fr)), .v (.int .i64 last), .v (.bool was)] : List Tr).map .t), .one (.t (sV 63 false (vs.filter fun x => decide (x.1 < fr))))])) := by
  refine fn0 Tryz.func33 rfl Tryz.ntmps33 rfl ttok rfl fun N w c0 h0 => ?_
  refine sq ?_; refine rl ?_; refine bx 0 ?_; refine al 1 ?_; refine o1 ?_; refine nl ?_; refine sq ?_; refine rl ?_; refine o1 ?_; refine ld ?_; refine o1 ?_; refine ld ?_; refine o1 ?_
  refine al 2 ?_; refine st ?_; refine nl ?_; refine sq ?_; refine rl ?_; refine o1 ?_; refine nl ?_; refine sq ?_; refine sq ?_; refine rl ?_; refine o1 ?_; refine nl ?_; refine bl ?_
  refine lp (γ := Nat) (fun k => frL [(1, .one (tv (.int .i64 fr))), (2, .one (.pt 0 0)), (4, .one (.pt 1 0)), (6, .one (.pt 2 0)), (7, .one (.sl 4 0 ((vs.take k).filter fun x => decide (x.1 < fr)).length)), (8, .one (tv (.int .i64 ((k : Nat) : Int))))]) (fun k => [(⟨29, 0, [.t (sV 63 false vs), tv (.int .i64 last), tv (.bool was)]⟩ : Ob), ⟨29, 0, [tv (.slice none 0 0), tv (.int .i64 0), tv (.bool false)]⟩, ⟨29, 0, [.sl 3 0 ((vs.take k).filter fun x => !decide (x.1 < fr)).length, tv (.int .i64 last), tv (.bool was)]⟩, ⟨63, 5, ((((vs.take k).filter fun x => !decide (x.1 < fr))).flatMap (vtr false)).map .t⟩, ⟨63, 5, ((((vs.take k).filter fun x => decide (x.1 < fr))).flatMap (vtr false)).map .t⟩].map some) (fun k => k ≤ vs.length) (fun k => vs.length - k) 0 (Nat.zero_le _) (((nro (j := 2) (key := 3) (e := 63) (z := 5) rfl rfl rfl (.sl (.id (.id .nil)))).trans (nr (i := 7) 4 63 5 rfl rfl rfl rfl)).trans (su0 h0 [0, 1, 2, 3, 4] _ _ (by decide) ⟨rfl, rfl, rfl, rfl, rfl, rfl, trivial⟩ ⟨oe rfl rfl, oe rfl rfl, oe rfl rfl, oe rfl rfl, oe rfl rfl, rfl⟩)) fun k hk => ?_
  have hG : ((vs.take k).filter fun x => decide (x.1 < fr)).length ≤ k := Nat.le_trans (List.length_filter_le _ _) (by rw [List.length_take]; omega)
  have hL : ((vs.take k).filter fun x => !decide (x.1 < fr)).length ≤ k := Nat.le_trans (List.length_filter_le _ _) (by rw [List.length_take]; omega)
  refine sq ?_; refine sq ?_; refine rl ?_; refine o1 ?_; refine o1 ?_; refine ld ?_; refine o1 ?_; refine o1 ?_; refine nl ?_; refine cdp rfl (fun h1 => ?_) (fun h1 => ?_)
  ·
    refine sk ?_; refine sq ?_; refine bl ?_; refine sq ?_; refine rl ?_; refine o1 ?_; refine ld ?_; (iterate 3 refine o1 ?_); refine ldf ([.v (.int .i64 (nthV vs (k)).1)]) (vin_y false (by omega)) ?_
    refine o1 ?_; refine o1 ?_; refine nl ?_; refine cdp rfl (fun h2 => ?_) (fun h2 => ?_)
    ·
      refine rl ?_; refine o1 ?_; refine o1 ?_; refine ld ?_; refine o1 ?_; refine o1 ?_; refine ldf (vtr false (nthV vs (k))) (vin_at false (by omega)) ?_
      refine bs 5 ?_; refine w_app (j := 6) ttok rfl rfl rfl rfl (.sl rfl (by rw [List.length_map, vflat_len])) (.sl rfl rfl rfl) rfl rfl rfl (by omega) (by omega) ?_
      refine o1 ?_; refine nl ?_; refine rl ?_; refine o1 ?_; refine o1 ?_; refine WL.cast (t := 20) (u' := .int .i64 ((k + 1 : Nat) : Int)) rfl (cint (by omega)) ?_
      refine o1 ?_; refine nl ?_; have e9 := decide_eq_true h2
      have hg9 : ((vs.take (k + 1)).filter fun x => decide (x.1 < fr)) = ((vs.take k).filter fun x => decide (x.1 < fr)) ++ [nthV vs k] := by rw [take_v (by omega), List.filter_append]; simp [e9]
      have hl9 : ((vs.take (k + 1)).filter fun x => !decide (x.1 < fr)) = ((vs.take k).filter fun x => !decide (x.1 < fr)) := by rw [take_v (by omega), List.filter_append]; simp [e9]
      exact ⟨k + 1, by omega, by omega, by rw [hg9, hl9]; exact su0 h0 [0, 1, 2, 3, 6] _ _ (by decide) ⟨rfl, rfl, rfl, rfl, congrArg (fun n => some (FV.one (.sl 6 0 n))) (show (((vs.take k).filter fun x => decide (x.1 < fr)) ++ [nthV vs k]).length = ((vs.take k).filter fun x => decide (x.1 < fr)).length + 1 by simp), rfl, trivial⟩ ⟨oe rfl rfl, oe rfl rfl, oe rfl rfl, oet rfl, oet (congrArg (fun l => some (⟨63, 5, l⟩ : Ob)) (show (((vs.take k).filter fun x => decide (x.1 < fr)).flatMap (vtr false)).map AV.t ++ (vtr false (nthV vs k)).map .t = ((((vs.take k).filter fun x => decide (x.1 < fr)) ++ [nthV vs k]).flatMap (vtr false)).map .t by simp [List.flatMap_append])), rfl⟩⟩
    ·
      refine rd [0, 1, 2] (fun i => [10].contains i) mixed ?_
      refine dv 0 ?_; refine dld 1 ?_; refine dv 2 ?_; refine dld 3 ?_; refine dv 4 ?_; refine dv 5 ?_; refine dlr 6 (vtr false (nthV vs (k))) (vin_at false (by omega)) ?_
      refine d_bs (key := 5) 7 (by kernel_rfl) rfl rfl ttok rfl ⟨rfl, rfl, rfl, trivial⟩ ?_
      refine d_appK (j := 6) 8 rfl ttok rfl rfl rfl (.sl rfl (by rw [List.length_map, vflat_len])) (.sl rfl rfl rfl) rfl rfl (by omega) (by omega) rfl ⟨rfl, rfl, rfl, trivial⟩ rfl (by kernel_rfl) rfl ?_
      refine dv 9 ?_; refine dst 10 ?_; refine dz0 ?_; refine rl ?_; refine o1 ?_; refine o1 ?_; refine WL.cast (t := 20) (u' := .int .i64 ((k + 1 : Nat) : Int)) rfl (cint (by omega)) ?_
      refine o1 ?_; refine nl ?_; have e9 := decide_eq_false h2
      have hg9 : ((vs.take (k + 1)).filter fun x => decide (x.1 < fr)) = ((vs.take k).filter fun x => decide (x.1 < fr)) := by rw [take_v (by omega), List.filter_append]; simp [e9]
      have hl9 : ((vs.take (k + 1)).filter fun x => !decide (x.1 < fr)) = ((vs.take k).filter fun x => !decide (x.1 < fr)) ++ [nthV vs k] := by rw [take_v (by omega), List.filter_append]; simp [e9]
      exact ⟨k + 1, by omega, by omega, by rw [hg9, hl9]; exact su0 h0 [0, 1, 2, 6, 4] _ _ (by decide) ⟨rfl, rfl, rfl, rfl, rfl, rfl, trivial⟩ ⟨oe rfl rfl, oe rfl rfl, oe rfl (congrArg (fun n => some (⟨29, 0, [.sl 6 0 n, tv (.int .i64 last), tv (.bool was)]⟩ : Ob)) (show ((vs.take k).filter fun x => !decide (x.1 < fr)).length + 1 = (((vs.take k).filter fun x => !decide (x.1 < fr)) ++ [nthV vs k]).length by simp)), oet (congrArg (fun l => some (⟨63, 5, l⟩ : Ob)) (show (((vs.take k).filter fun x => !decide (x.1 < fr)).flatMap (vtr false)).map AV.t ++ (vtr false (nthV vs k)).map .t = ((((vs.take k).filter fun x => !decide (x.1 < fr)) ++ [nthV vs k]).flatMap (vtr false)).map .t by simp [List.flatMap_append])), oet rfl, rfl⟩⟩
  ·
    refine ex ?_; refine sq ?_; refine rl ?_; refine ld ?_; have hkk : vs.take k = vs := List.take_of_length_le (by omega)
    have hG9 : ((vs.take k).filter fun x => decide (x.1 < fr)) = vs.filter fun x => decide (x.1 < fr) := by rw [hkk]
    have hL9 : ((vs.take k).filter fun x => !decide (x.1 < fr)) = vs.filter fun x => !decide (x.1 < fr) := by rw [hkk]
    refine WL.sub (fzg (i := 47) (k := 3) (t := 63) (z := 5) (n := (((vs.take k).filter fun x => !decide (x.1 < fr))).length) (l := (((vs.take k).filter fun x => !decide (x.1 < fr))).flatMap (vtr false)) rfl rfl rfl (vflat_len false (((vs.take k).filter fun x => !decide (x.1 < fr)))) (.agg (.cons .sl (.cons .id (.cons .id .nil))))) ?_
    refine WL.sub (fzg (i := 7) (k := 4) (t := 63) (z := 5) (n := (((vs.take k).filter fun x => decide (x.1 < fr))).length) (l := (((vs.take k).filter fun x => decide (x.1 < fr))).flatMap (vtr false)) rfl rfl rfl (vflat_len false (((vs.take k).filter fun x => decide (x.1 < fr)))) (.one .sl)) ?_
    refine o1 ?_; refine st ?_; refine o1 ?_; refine nl ?_; refine rt ?_
    exact en (.inl rfl) rfl (pkt (.cons (.agg (.cons (.id rfl) (.cons (.id rfl) (.cons (.id rfl) .nil)))) (.cons (.one (.id rfl)) .nil))) (by decide) (fun h => by cases h) (by rw [← hG9, ← hL9]; rfl)
end Go.Proofs.YtogaallfhifngaaGreat
namespace Go.Proofs.YtogaallfhifngaaGreat
open Go Go.RowKit
theorem c_Put25 {vs : List (Int × Rat)} {last y : Int} {was : Bool} {a : Fr4} {q : Rat} (ha : Qn a q) (hl : vs.length ≤ 1073741823) : Spec false Tryz.prog 34 [] [.agg (([sV 63 false vs, .v (.int .i64 last), .v (.bool was)] : List Tr).map .t), .one (tv (.int .i64 y)), qF a] (Ret (.tup [.agg (([sV 63 false (putL (putE (rightQ a.s a.x a.t a.y) q y last was) q y vs), .v (.int .i64 (putY (putE (rightQ a.s a.x a.t a.y) q y last was) y last)), .v (.bool (putP (putE (rightQ a.s a.x a.t a.y) q y last was) was))] : List Tr).map .t), .one (tv (.int .i64 (putE (rightQ a.s a.x a.t a.y) q y last was)))])) := by
  refine fn0 Tryz.func34 rfl Tryz.ntmps34 rfl ttok rfl fun N w c0 h0 => ?_
  refine sq ?_; refine rl ?_; refine bx 0 ?_; refine bx 1 ?_; refine al 2 ?_; refine o1 ?_; refine nl ?_; refine sq ?_; refine sq ?_; refine rl ?_; refine ld ?_
  refine ca (c_Right4 ha) ok60 ⟨a1g rfl, rfl⟩ (.one (tv (.bool (rightQ a.s a.x a.t a.y)))) ?_; refine WL.splitb (t := 10) rfl (fun h1 => ?_) (fun h1 => ?_)
  ·
    refine o1 ?_; refine o1 ?_; refine ld ?_; refine ca (c_Sign4 ha) ok48 ⟨a1g rfl, rfl⟩ (.one (tv (.int .i64 q.num.sign))) ?_; refine o1 ?_; refine o1 ?_; refine nl ?_
    refine cdp rfl (fun h2 => ?_) (fun h2 => ?_)
    ·
      refine sq ?_; refine rl ?_; refine ld ?_; refine st ?_; refine o1 ?_; refine nl ?_; refine rt ?_
      have hpe : putE (rightQ a.s a.x a.t a.y) q y last was = 2 := by unfold putE; rw [h1, decide_eq_true h2]; rfl
      refine en (.inl rfl) rfl (pkt (.cons (.agg (.cons (.id rfl) (.cons (.id rfl) (.cons (.id rfl) .nil)))) (.cons (pkv _) .nil))) (by decide) (fun h => by cases h) ?_
      rw [hpe]; rfl
    ·
      refine sk ?_; refine sq ?_; refine sq ?_; refine rl ?_; refine o1 ?_; refine ld ?_; refine o1 ?_; refine WL.splitb (t := 20) rfl (fun h3 => ?_) (fun h3 => ?_)
      ·
        refine o1 ?_; refine o1 ?_; refine ld ?_; refine o1 ?_; refine o1 ?_; refine nl ?_; refine cdp rfl (fun h4 => ?_) (fun h4 => ?_)
        ·
          refine sq ?_; refine rl ?_; refine ld ?_; refine st ?_; refine o1 ?_; refine nl ?_; refine rt ?_
          have hpe : putE (rightQ a.s a.x a.t a.y) q y last was = 4 := by unfold putE; rw [h1, decide_eq_false h2, h3, decide_eq_true h4]; rfl
          refine en (.inl rfl) rfl (pkt (.cons (.agg (.cons (.id rfl) (.cons (.id rfl) (.cons (.id rfl) .nil)))) (.cons (pkv _) .nil))) (by decide) (fun h => by cases h) ?_
          rw [hpe]; rfl
        ·
          refine sk ?_; refine sq ?_; refine rl ?_; refine o1 ?_; refine o1 ?_; refine al 3 ?_; refine st ?_; refine nl ?_; refine sq ?_; refine rl ?_; refine o1 ?_; refine ld ?_; refine o1 ?_
          refine ld ?_; refine w_app (j := 4) ttok rfl rfl rfl rfl .nil .fz (rd_v _) (lone_v _) rfl (by omega) (by omega) ?_
          refine o1 ?_; refine st ?_; refine nl ?_; refine sq ?_; refine sq ?_; refine rl ?_; refine ld ?_; refine ca (c_Sign4 ha) ok48 ⟨a1g rfl, rfl⟩ (.one (tv (.int .i64 q.num.sign))) ?_
          refine o1 ?_; refine nl ?_; refine cdp rfl (fun h5 => ?_) (fun h5 => ?_)
          ·
            obtain rfl := (ha.right h1).symm
            refine rl ?_; refine o1 ?_; refine ld ?_; refine o1 ?_; refine ld ?_; refine o1 ?_; refine bs 5 ?_
            refine w_app (j := 6) ttok rfl rfl rfl rfl (.sl rfl (by rw [List.nil_append, List.length_map, vflat_len, Nat.zero_add])) (.sl rfl rfl rfl) rfl rfl rfl (by omega) (by omega) ?_
            refine o1 ?_; refine st ?_; refine nl ?_; refine sq ?_; refine rl ?_; refine ld ?_
            refine WL.sub (fzg (i := 46) (k := 6) (t := 63) (z := 5) (n := 0 + vs.length + 1) (l := (vs ++ [(y, q)]).flatMap (vtr false)) rfl rfl (congrArg (fun l => some (⟨63, 5, l⟩ : Ob)) (show ([] ++ (vs.flatMap (vtr false)).map AV.t) ++ (vtr false (y, q)).map .t = ((vs ++ [(y, q)]).flatMap (vtr false)).map .t by simp)) (by rw [vflat_len]; simp) (.agg (.cons .sl (.cons .id (.cons .id .nil))))) ?_
            refine st ?_; refine o1 ?_; refine nl ?_; refine rt ?_
            have hpe : putE (rightQ (Fr4.of q).s (Fr4.of q).x (Fr4.of q).t (Fr4.of q).y) q y last was = 0 := by unfold putE; rw [h1, decide_eq_false h2, h3, decide_eq_false h4]; rfl
            refine en (.inl rfl) rfl (pkt (.cons (.agg (.cons (.id rfl) (.cons (.id rfl) (.cons (.id rfl) .nil)))) (.cons (pkv _) .nil))) (by decide) (fun h => by cases h) ?_
            rw [hpe]; have hpl : putL 0 q y vs = (vs ++ [(y, q)]) := by unfold putL; rw [decide_eq_true h5]; rfl
            have hpn : 0 + vs.length + 1 = (vs ++ [(y, q)]).length := by simp
            rw [hpl, hpn]; rfl
          ·
            refine sk ?_; refine sq ?_; refine rl ?_; refine ld ?_
            refine WL.sub (fzg (i := 46) (k := 4) (t := 63) (z := 5) (n := 0 + vs.length) (l := vs.flatMap (vtr false)) rfl rfl (congrArg (fun l => some (⟨63, 5, l⟩ : Ob)) (show [] ++ (vs.flatMap (vtr false)).map AV.t = (vs.flatMap (vtr false)).map .t by simp)) (by rw [vflat_len]; simp) (.agg (.cons .sl (.cons .id (.cons .id .nil))))) ?_
            refine st ?_; refine o1 ?_; refine nl ?_; refine rt ?_; have hpe : putE (rightQ a.s a.x a.t a.y) q y last was = 0 := by unfold putE; rw [h1, decide_eq_false h2, h3, decide_eq_false h4]; rfl
            refine en (.inl rfl) rfl (pkt (.cons (.agg (.cons (.id rfl) (.cons (.id rfl) (.cons (.id rfl) .nil)))) (.cons (pkv _) .nil))) (by decide) (fun h => by cases h) ?_
            rw [hpe]; have hpl : putL 0 q y vs = vs := by unfold putL; rw [decide_eq_false h5]; rfl
            have hpn : 0 + vs.length = vs.length := by simp
            rw [hpl, hpn]; rfl
      ·
        (iterate 4 refine no_ ?_); refine o1 ?_; refine nl ?_; refine cdf rfl ?_; refine sk ?_; refine sq ?_; refine rl ?_; refine o1 ?_; refine o1 ?_; refine al 3 ?_; refine st ?_; refine nl ?_
        refine sq ?_; refine rl ?_; refine o1 ?_; refine ld ?_; refine o1 ?_; refine ld ?_; refine w_app (j := 4) ttok rfl rfl rfl rfl .nil .fz (rd_v _) (lone_v _) rfl (by omega) (by omega) ?_
        refine o1 ?_; refine st ?_; refine nl ?_; refine sq ?_; refine sq ?_; refine rl ?_; refine ld ?_; refine ca (c_Sign4 ha) ok48 ⟨a1g rfl, rfl⟩ (.one (tv (.int .i64 q.num.sign))) ?_; refine o1 ?_
        refine nl ?_; refine cdp rfl (fun h6 => ?_) (fun h6 => ?_)
        ·
          obtain rfl := (ha.right h1).symm
          refine rl ?_; refine o1 ?_; refine ld ?_; refine o1 ?_; refine ld ?_; refine o1 ?_; refine bs 5 ?_
          refine w_app (j := 6) ttok rfl rfl rfl rfl (.sl rfl (by rw [List.nil_append, List.length_map, vflat_len, Nat.zero_add])) (.sl rfl rfl rfl) rfl rfl rfl (by omega) (by omega) ?_
          refine o1 ?_; refine st ?_; refine nl ?_; refine sq ?_; refine rl ?_; refine ld ?_
          refine WL.sub (fzg (i := 46) (k := 6) (t := 63) (z := 5) (n := 0 + vs.length + 1) (l := (vs ++ [(y, q)]).flatMap (vtr false)) rfl rfl (congrArg (fun l => some (⟨63, 5, l⟩ : Ob)) (show ([] ++ (vs.flatMap (vtr false)).map AV.t) ++ (vtr false (y, q)).map .t = ((vs ++ [(y, q)]).flatMap (vtr false)).map .t by simp)) (by rw [vflat_len]; simp) (.agg (.cons .sl (.cons .id (.cons .id .nil))))) ?_
          refine st ?_; refine o1 ?_; refine nl ?_; refine rt ?_
          have hpe : putE (rightQ (Fr4.of q).s (Fr4.of q).x (Fr4.of q).t (Fr4.of q).y) q y last was = 0 := by unfold putE; rw [h1, decide_eq_false h2, h3]; rfl
          refine en (.inl rfl) rfl (pkt (.cons (.agg (.cons (.id rfl) (.cons (.id rfl) (.cons (.id rfl) .nil)))) (.cons (pkv _) .nil))) (by decide) (fun h => by cases h) ?_
          rw [hpe]; have hpl : putL 0 q y vs = (vs ++ [(y, q)]) := by unfold putL; rw [decide_eq_true h6]; rfl
          have hpn : 0 + vs.length + 1 = (vs ++ [(y, q)]).length := by simp
          rw [hpl, hpn]; rfl
        ·
          refine sk ?_; refine sq ?_; refine rl ?_; refine ld ?_
          refine WL.sub (fzg (i := 46) (k := 4) (t := 63) (z := 5) (n := 0 + vs.length) (l := vs.flatMap (vtr false)) rfl rfl (congrArg (fun l => some (⟨63, 5, l⟩ : Ob)) (show [] ++ (vs.flatMap (vtr false)).map AV.t = (vs.flatMap (vtr false)).map .t by simp)) (by rw [vflat_len]; simp) (.agg (.cons .sl (.cons .id (.cons .id .nil))))) ?_
          refine st ?_; refine o1 ?_; refine nl ?_; refine rt ?_; have hpe : putE (rightQ a.s a.x a.t a.y) q y last was = 0 := by unfold putE; rw [h1, decide_eq_false h2, h3]; rfl
          refine en (.inl rfl) rfl (pkt (.cons (.agg (.cons (.id rfl) (.cons (.id rfl) (.cons (.id rfl) .nil)))) (.cons (pkv _) .nil))) (by decide) (fun h => by cases h) ?_
          rw [hpe]; have hpl : putL 0 q y vs = vs := by unfold putL; rw [decide_eq_false h6]; rfl
          have hpn : 0 + vs.length = vs.length := by simp
          rw [hpl, hpn]; rfl
  ·
    refine o1 ?_; refine o1 ?_; (iterate 3 refine no_ ?_); refine o1 ?_; refine nl ?_; refine cdt rfl ?_; refine sq ?_; refine rl ?_; refine ld ?_; refine st ?_; refine o1 ?_; refine nl ?_
    refine rt ?_; have hpe : putE (rightQ a.s a.x a.t a.y) q y last was = 2 := by unfold putE; rw [h1]; rfl
    refine en (.inl rfl) rfl (pkt (.cons (.agg (.cons (.id rfl) (.cons (.id rfl) (.cons (.id rfl) .nil)))) (.cons (pkv _) .nil))) (by decide) (fun h => by cases h) ?_
    rw [hpe]; rfl
end Go.Proofs.YtogaallfhifngaaGreat
namespace Go.Proofs.YtogaallfhifngaaGreat
open Go Go.RowKit
theorem c_Min2 {m : Fr4} {v r : Rat} (hm : Qn m r) (hv : Sz 17179869184 v) (hr : Sz 17179869184 r) : Spec false Tryz.prog 59 [] [.one (.t (sQ false [Fr4.of v, m]))] (Ret (qF (.of (qmin v [r])))) := by
  have h := c_Min4 (xs := [Fr4.of v, m]) (by simp) (by
    intro x hx
    rcases List.mem_cons.1 hx with rfl | hx
    · exact ⟨(Qn.of hv).1, by rw [Fr4.q_of]; exact hv⟩
    · rw [List.mem_singleton] at hx
      subst hx
      exact ⟨hm.1, by rw [hm.2]; exact hr⟩) (by simp)
  have e : qmin0 ([Fr4.of v, m].map Fr4.q) = qmin v [r] := by
    show qmin (Fr4.of v).q [m.q] = _
    rw [Fr4.q_of, hm.2]
  rwa [e] at h
theorem c_Use25 {vs : List (Int × Rat)} {last fr : Int} {was : Bool} {a : Fr4} {p : Rat} (ha : Qn a p) (hl : vs.length ≤ 1073741823) (hw : wts (vs.map Prod.snd) + wt p + 2 * vs.length ≤ 17179869184) : Spec false Tryz.prog 31 [] [.agg (([sV 63 false vs, .v (.int .i64 last), .v (.bool was)] : List Tr).map .t), .one (tv (.int .i64 fr)), qF a] (Ret (.tup [.agg (([sV 63 false (refL fr vs p).1, .v (.int .i64 last), .v (.bool was)] : List Tr).map .t), .one (.t (sV 63 false (refL fr vs p).2.1))])) := by
  refine fn0 Tryz.func31 rfl Tryz.ntmps31 rfl ttok rfl fun N w c0 h0 => ?_
  refine sq ?_; refine rl ?_; refine bx 0 ?_; refine bx 1 ?_; refine al 2 ?_; refine o1 ?_; refine nl ?_; refine sq ?_; refine rl ?_; refine o1 ?_; refine ld ?_; refine o1 ?_; refine ld ?_
  refine o1 ?_; refine al 3 ?_; refine st ?_; refine nl ?_; refine sq ?_; refine rl ?_; refine o1 ?_; refine nl ?_; refine sq ?_; refine sq ?_; refine rl ?_; refine o1 ?_; refine nl ?_; refine bl ?_
  refine lp (γ := Nat × Fr4) (fun s => frL [(1, .one (tv (.int .i64 fr))), (3, .one (.pt 0 0)), (5, .one (.pt 1 0)), (6, .one (.pt 2 0)), (8, .one (.pt 3 0)), (9, .one (.sl 5 0 (refL fr (vs.take s.1) p).2.1.length)), (10, .one (tv (.int .i64 ((s.1 : Nat) : Int))))]) (fun s => [(⟨29, 0, [.t (sV 63 false vs), tv (.int .i64 last), tv (.bool was)]⟩ : Ob), ⟨45, 0, (s.2.tr false).map .t⟩, ⟨29, 0, [tv (.slice none 0 0), tv (.int .i64 0), tv (.bool false)]⟩, ⟨29, 0, [.sl 4 0 (refL fr (vs.take s.1) p).1.length, tv (.int .i64 last), tv (.bool was)]⟩, ⟨63, 5, (((refL fr (vs.take s.1) p).1).flatMap (vtr false)).map .t⟩, ⟨63, 5, (((refL fr (vs.take s.1) p).2.1).flatMap (vtr false)).map .t⟩].map some) (fun s => s.1 ≤ vs.length ∧ Qn s.2 (refL fr (vs.take s.1) p).2.2 ∧ wt (refL fr (vs.take s.1) p).2.2 ≤ wts ((vs.take s.1).map Prod.snd) + wt p + 2 * s.1 ∧ (refL fr (vs.take s.1) p).1.length ≤ s.1 ∧ (refL fr (vs.take s.1) p).2.1.length ≤ s.1) (fun s => vs.length - s.1) (0, a) ⟨Nat.zero_le _, ha, by simp [refL, wts], Nat.le_refl _, Nat.le_refl _⟩ (((nro (j := 3) (key := 4) (e := 63) (z := 5) rfl rfl rfl (.sl (.id (.id .nil)))).trans (nr (i := 9) 5 63 5 rfl rfl rfl rfl)).trans (su0 h0 [0, 1, 2, 3, 4, 5] _ _ (by decide) ⟨rfl, rfl, rfl, rfl, rfl, rfl, rfl, trivial⟩ ⟨oe rfl rfl, oet rfl, oe rfl rfl, oe rfl rfl, oet rfl, oet rfl, rfl⟩)) ?_
  rintro ⟨k, m⟩ ⟨hk, hm, hb, hl1, hl2⟩; dsimp only at hk hm hb hl1 hl2 ⊢; refine sq ?_; refine sq ?_; refine rl ?_; refine o1 ?_; refine o1 ?_; refine ld ?_; refine o1 ?_; refine o1 ?_; refine nl ?_
  refine cdp rfl (fun h1 => ?_) (fun h1 => ?_)
  ·
    refine sk ?_; refine sq ?_; refine bl ?_; refine sq ?_; have hvw : wt (nthV vs (k)).2 ≤ wts (vs.map Prod.snd) := wts_mem (List.mem_map.2 ⟨_, nthV_mem (by omega), rfl⟩)
    have hwk : wts ((vs.take (k + 1)).map Prod.snd) = wts ((vs.take k).map Prod.snd) + wt (nthV vs (k)).2 := by rw [take_v (by omega), List.map_append, wts_append]; simp [wts]
    have hwl : wts ((vs.take (k + 1)).map Prod.snd) ≤ wts (vs.map Prod.snd) := wts_sub ((List.take_sublist _ _).map _)
    have hszv : Sz 17179869184 (nthV vs (k)).2 := sz_iff.2 (by have h9 : wt (nthV vs (k)).2 = szq (nthV vs (k)).2 + 1 := rfl; omega)
    have hszr : Sz 17179869184 (refL fr (vs.take k) p).2.2 := sz_iff.2 (by have h9 : wt (refL fr (vs.take k) p).2.2 = szq (refL fr (vs.take k) p).2.2 + 1 := rfl; omega)
    have hszn : Sz 17179869184 (qmin (nthV vs (k)).2 [(refL fr (vs.take k) p).2.2]) := qmin_sz hszv (fun q hq => by rw [List.mem_singleton] at hq; rw [hq]; exact hszr)
    have hsz0 : Sz 17179869184 ((0 : Int) : Rat) := (int_sz (z := 0) (by omega) (by omega)).mono (by omega)
    have hszl : Sz 68719476736 ((nthV vs (k)).2 - (qmin (nthV vs (k)).2 [(refL fr (vs.take k) p).2.2])) := (sub_sz hszv hszn).mono (by omega)
    have hszk : Sz 68719476736 ((nthV vs (k)).2 - ((0 : Int) : Rat)) := (sub_sz hszv hsz0).mono (by omega)
    have hszm : Sz 68719476736 ((refL fr (vs.take k) p).2.2 - (qmin (nthV vs (k)).2 [(refL fr (vs.take k) p).2.2])) := (sub_sz hszr hszn).mono (by omega)
    refine rl ?_; refine o1 ?_; refine ld ?_; refine o1 ?_; refine o1 ?_; refine ldf (vtr false (nthV vs (k))) (vin_at false (by omega)) ?_
    refine al 6 ?_; refine st ?_; refine nl ?_; refine sq ?_; refine rl ?_; refine ca (c_Whole4 (n := 0) (by omega) (by omega)) ok12 ⟨a1 rfl, rfl⟩ (qF (.of ((0 : Int) : Rat))) ?_
    refine al 7 ?_; refine st ?_; refine nl ?_; refine sq ?_; refine sq ?_; refine rl ?_; refine o1 ?_; refine ld ?_; (iterate 3 refine o1 ?_)
    refine WL.split (t := 36) rfl (fun h2 => ?_) (fun h2 => ?_)
    ·
      refine ld ?_; refine ca (c_Sign4 hm) ok48 ⟨a1g rfl, rfl⟩ (.one (tv (.int .i64 (refL fr (vs.take k) p).2.2.num.sign))) ?_; refine o1 ?_; refine o1 ?_; refine nl ?_
      refine cdp rfl (fun h3 => ?_) (fun h3 => ?_)
      ·
        refine sq ?_; refine rl ?_; refine o1 ?_; refine ld ?_; refine ld ?_; refine bs 8 ?_
        refine WL.sub (fzg (i := 44) (k := 8) (t := 45) (z := 4) (n := 2) (l := ([Fr4.of (nthV vs (k)).2, m]).flatMap (Fr4.tr false)) rfl rfl rfl rfl (.one .sl)) ?_
        refine ca (c_Min2 hm hszv hszr) ok59 ⟨a1 rfl, rfl⟩ (qF (.of (qmin (nthV vs (k)).2 [(refL fr (vs.take k) p).2.2]))) ?_; refine st ?_; refine nl ?_; refine sq ?_; refine rl ?_; refine o1 ?_
        refine o1 ?_; refine ld ?_; refine ld ?_; refine o1 ?_; refine bs 9 ?_
        refine w_app (j := 10) ttok rfl rfl rfl rfl (.sl rfl (by rw [List.length_map, vflat_len])) (.sl rfl rfl rfl) rfl rfl rfl (by omega) (by omega) ?_
        refine o1 ?_; refine nl ?_; refine rl ?_; refine ld ?_; refine ld ?_
        refine ca (c_Sub4 hm (Qn.of (p := (qmin (nthV vs (k)).2 [(refL fr (vs.take k) p).2.2])) hszn) hszr hszn) ok49 ⟨a1g rfl, a1g rfl, rfl⟩ (qF (.of ((refL fr (vs.take k) p).2.2 - (qmin (nthV vs (k)).2 [(refL fr (vs.take k) p).2.2])))) ?_
        refine st ?_; refine nl ?_; refine sq ?_; refine rl ?_; refine o1 ?_; refine ld ?_; refine ld ?_
        refine ca (c_Sub4 (Qn.of (p := (nthV vs (k)).2) hszv) (Qn.of (p := (qmin (nthV vs (k)).2 [(refL fr (vs.take k) p).2.2])) hszn) hszv hszn) ok49 ⟨a1g rfl, a1g rfl, rfl⟩ (qF (.of ((nthV vs (k)).2 - (qmin (nthV vs (k)).2 [(refL fr (vs.take k) p).2.2])))) ?_
        refine al 11 ?_; refine st ?_; refine nl ?_; refine sq ?_; refine rl ?_; refine ld ?_
        refine ca (c_Sign4 (Qn.of (p := ((nthV vs (k)).2 - (qmin (nthV vs (k)).2 [(refL fr (vs.take k) p).2.2]))) hszl)) ok48 ⟨a1g rfl, rfl⟩ (.one (tv (.int .i64 ((nthV vs (k)).2 - (qmin (nthV vs (k)).2 [(refL fr (vs.take k) p).2.2])).num.sign))) ?_
        refine o1 ?_; refine nl ?_; refine cdp rfl (fun h4 => ?_) (fun h4 => ?_)
        ·
          refine rl ?_; refine o1 ?_; refine ld ?_; refine o1 ?_; refine ld ?_; refine ld ?_; refine o1 ?_; refine bs 12 ?_
          refine w_app (j := 13) ttok rfl rfl rfl rfl (.sl rfl (by rw [List.length_map, vflat_len])) (.sl rfl rfl rfl) rfl rfl rfl (by omega) (by omega) ?_
          refine o1 ?_; refine st ?_; refine nl ?_; refine rl ?_; refine o1 ?_; refine o1 ?_; refine WL.cast (t := 25) (u' := .int .i64 ((k + 1 : Nat) : Int)) rfl (cint (by omega)) ?_
          refine o1 ?_; refine nl ?_; have hst := (refL_snoc (fr := fr) p (by omega : k < vs.length)).trans (refS_yes (s := (refL fr (vs.take k) p)) (x := nthV vs k) ⟨h2, h3⟩)
          rw [if_pos h4] at hst; refine ⟨(k + 1, Fr4.of ((refL fr (vs.take k) p).2.2 - (qmin (nthV vs (k)).2 [(refL fr (vs.take k) p).2.2]))), by dsimp only; omega, ?_, ?_⟩
          · dsimp only
            rw [hst]
            exact ⟨by omega, Qn.of hszm, by dsimp only; have h9 := wt_min2 (nthV vs (k)).2 (refL fr (vs.take k) p).2.2; omega, by dsimp only; rw [List.length_append, List.length_singleton]; omega, by dsimp only; rw [List.length_append, List.length_singleton]; omega⟩
          · dsimp only
            rw [hst]; dsimp only
            exact su0 h0 [0, 1, 2, 3, 13, 10] _ _ (by decide) ⟨rfl, rfl, rfl, rfl, rfl, congrArg (fun n => some (FV.one (.sl 10 0 n))) (show ((refL fr (vs.take k) p).2.1 ++ [((nthV vs k).1, (qmin (nthV vs (k)).2 [(refL fr (vs.take k) p).2.2]))]).length = (refL fr (vs.take k) p).2.1.length + 1 by simp), rfl, trivial⟩ ⟨oe rfl rfl, oet rfl, oe rfl rfl, oe rfl (congrArg (fun n => some (⟨29, 0, [.sl 13 0 n, tv (.int .i64 last), tv (.bool was)]⟩ : Ob)) (show (refL fr (vs.take k) p).1.length + 1 = ((refL fr (vs.take k) p).1 ++ [((nthV vs k).1, (nthV vs (k)).2 - (qmin (nthV vs (k)).2 [(refL fr (vs.take k) p).2.2]))]).length by simp)), oet (congrArg (fun l => some (⟨63, 5, l⟩ : Ob)) (show ((refL fr (vs.take k) p).1.flatMap (vtr false)).map AV.t ++ (vtr false ((nthV vs k).1, (nthV vs (k)).2 - (qmin (nthV vs (k)).2 [(refL fr (vs.take k) p).2.2]))).map .t = (((refL fr (vs.take k) p).1 ++ [((nthV vs k).1, (nthV vs (k)).2 - (qmin (nthV vs (k)).2 [(refL fr (vs.take k) p).2.2]))]).flatMap (vtr false)).map .t by simp [List.flatMap_append])), oet (congrArg (fun l => some (⟨63, 5, l⟩ : Ob)) (show ((refL fr (vs.take k) p).2.1.flatMap (vtr false)).map AV.t ++ (vtr false ((nthV vs k).1, (qmin (nthV vs (k)).2 [(refL fr (vs.take k) p).2.2]))).map .t = (((refL fr (vs.take k) p).2.1 ++ [((nthV vs k).1, (qmin (nthV vs (k)).2 [(refL fr (vs.take k) p).2.2]))]).flatMap (vtr false)).map .t by simp [List.flatMap_append])), rfl⟩
        ·
          refine sk ?_; refine rl ?_; refine o1 ?_; refine o1 ?_; refine WL.cast (t := 25) (u' := .int .i64 ((k + 1 : Nat) : Int)) rfl (cint (by omega)) ?_
          refine o1 ?_; refine nl ?_; have hst := (refL_snoc (fr := fr) p (by omega : k < vs.length)).trans (refS_yes (s := (refL fr (vs.take k) p)) (x := nthV vs k) ⟨h2, h3⟩)
          rw [if_neg h4] at hst; refine ⟨(k + 1, Fr4.of ((refL fr (vs.take k) p).2.2 - (qmin (nthV vs (k)).2 [(refL fr (vs.take k) p).2.2]))), by dsimp only; omega, ?_, ?_⟩
          · dsimp only
            rw [hst]
            exact ⟨by omega, Qn.of hszm, by dsimp only; have h9 := wt_min2 (nthV vs (k)).2 (refL fr (vs.take k) p).2.2; omega, by dsimp only; omega, by dsimp only; rw [List.length_append, List.length_singleton]; omega⟩
          · dsimp only
            rw [hst]; dsimp only
            exact su0 h0 [0, 1, 2, 3, 4, 10] _ _ (by decide) ⟨rfl, rfl, rfl, rfl, rfl, congrArg (fun n => some (FV.one (.sl 10 0 n))) (show ((refL fr (vs.take k) p).2.1 ++ [((nthV vs k).1, (qmin (nthV vs (k)).2 [(refL fr (vs.take k) p).2.2]))]).length = (refL fr (vs.take k) p).2.1.length + 1 by simp), rfl, trivial⟩ ⟨oe rfl rfl, oet rfl, oe rfl rfl, oe rfl rfl, oet rfl, oet (congrArg (fun l => some (⟨63, 5, l⟩ : Ob)) (show ((refL fr (vs.take k) p).2.1.flatMap (vtr false)).map AV.t ++ (vtr false ((nthV vs k).1, (qmin (nthV vs (k)).2 [(refL fr (vs.take k) p).2.2]))).map .t = (((refL fr (vs.take k) p).2.1 ++ [((nthV vs k).1, (qmin (nthV vs (k)).2 [(refL fr (vs.take k) p).2.2]))]).flatMap (vtr false)).map .t by simp [List.flatMap_append])), rfl⟩
      ·
        refine sk ?_; refine sq ?_; refine rl ?_; refine o1 ?_; refine ld ?_; refine ld ?_
        refine ca (c_Sub4 (Qn.of (p := (nthV vs (k)).2) hszv) (Qn.of (p := ((0 : Int) : Rat)) hsz0) hszv hsz0) ok49 ⟨a1g rfl, a1g rfl, rfl⟩ (qF (.of ((nthV vs (k)).2 - ((0 : Int) : Rat)))) ?_
        refine al 8 ?_; refine st ?_; refine nl ?_; refine sq ?_; refine rl ?_; refine ld ?_
        refine ca (c_Sign4 (Qn.of (p := ((nthV vs (k)).2 - ((0 : Int) : Rat))) hszk)) ok48 ⟨a1g rfl, rfl⟩ (.one (tv (.int .i64 ((nthV vs (k)).2 - ((0 : Int) : Rat)).num.sign))) ?_; refine o1 ?_
        refine nl ?_; refine cdp rfl (fun h5 => ?_) (fun h5 => ?_)
        ·
          refine rl ?_; refine o1 ?_; refine ld ?_; refine o1 ?_; refine ld ?_; refine ld ?_; refine o1 ?_; refine bs 9 ?_
          refine w_app (j := 10) ttok rfl rfl rfl rfl (.sl rfl (by rw [List.length_map, vflat_len])) (.sl rfl rfl rfl) rfl rfl rfl (by omega) (by omega) ?_
          refine o1 ?_; refine st ?_; refine nl ?_; refine rl ?_; refine o1 ?_; refine o1 ?_; refine WL.cast (t := 25) (u' := .int .i64 ((k + 1 : Nat) : Int)) rfl (cint (by omega)) ?_
          refine o1 ?_; refine nl ?_; have hst := (refL_snoc (fr := fr) p (by omega : k < vs.length)).trans (refS_no (s := (refL fr (vs.take k) p)) (x := nthV vs k) (fun hc => h3 hc.2))
          rw [if_pos h5] at hst; refine ⟨(k + 1, m), by dsimp only; omega, ?_, ?_⟩
          · dsimp only
            rw [hst]; exact ⟨by omega, hm, by dsimp only; omega, by dsimp only; rw [List.length_append, List.length_singleton]; omega, by dsimp only; omega⟩
          · dsimp only
            rw [hst]; dsimp only
            exact su0 h0 [0, 1, 2, 3, 10, 5] _ _ (by decide) ⟨rfl, rfl, rfl, rfl, rfl, rfl, rfl, trivial⟩ ⟨oe rfl rfl, oet rfl, oe rfl rfl, oe rfl (congrArg (fun n => some (⟨29, 0, [.sl 10 0 n, tv (.int .i64 last), tv (.bool was)]⟩ : Ob)) (show (refL fr (vs.take k) p).1.length + 1 = ((refL fr (vs.take k) p).1 ++ [((nthV vs k).1, (nthV vs (k)).2 - ((0 : Int) : Rat))]).length by simp)), oet (congrArg (fun l => some (⟨63, 5, l⟩ : Ob)) (show ((refL fr (vs.take k) p).1.flatMap (vtr false)).map AV.t ++ (vtr false ((nthV vs k).1, (nthV vs (k)).2 - ((0 : Int) : Rat))).map .t = (((refL fr (vs.take k) p).1 ++ [((nthV vs k).1, (nthV vs (k)).2 - ((0 : Int) : Rat))]).flatMap (vtr false)).map .t by simp [List.flatMap_append])), oet rfl, rfl⟩
        ·
          refine sk ?_; refine rl ?_; refine o1 ?_; refine o1 ?_; refine WL.cast (t := 25) (u' := .int .i64 ((k + 1 : Nat) : Int)) rfl (cint (by omega)) ?_
          refine o1 ?_; refine nl ?_; have hst := (refL_snoc (fr := fr) p (by omega : k < vs.length)).trans (refS_no (s := (refL fr (vs.take k) p)) (x := nthV vs k) (fun hc => h3 hc.2))
          rw [if_neg h5] at hst; refine ⟨(k + 1, m), by dsimp only; omega, ?_, ?_⟩
          · dsimp only
            rw [hst]; exact ⟨by omega, hm, by dsimp only; omega, by dsimp only; omega, by dsimp only; omega⟩
          · dsimp only
            rw [hst]; dsimp only; exact su0 h0 [0, 1, 2, 3, 4, 5] _ _ (by decide) ⟨rfl, rfl, rfl, rfl, rfl, rfl, rfl, trivial⟩ ⟨oe rfl rfl, oet rfl, oe rfl rfl, oe rfl rfl, oet rfl, oet rfl, rfl⟩
    ·
      (iterate 3 refine no_ ?_); refine o1 ?_; refine nl ?_; refine cdf rfl ?_; refine sk ?_; refine sq ?_; refine rl ?_; refine o1 ?_; refine ld ?_; refine ld ?_
      refine ca (c_Sub4 (Qn.of (p := (nthV vs (k)).2) hszv) (Qn.of (p := ((0 : Int) : Rat)) hsz0) hszv hsz0) ok49 ⟨a1g rfl, a1g rfl, rfl⟩ (qF (.of ((nthV vs (k)).2 - ((0 : Int) : Rat)))) ?_
      refine al 8 ?_; refine st ?_; refine nl ?_; refine sq ?_; refine rl ?_; refine ld ?_
      refine ca (c_Sign4 (Qn.of (p := ((nthV vs (k)).2 - ((0 : Int) : Rat))) hszk)) ok48 ⟨a1g rfl, rfl⟩ (.one (tv (.int .i64 ((nthV vs (k)).2 - ((0 : Int) : Rat)).num.sign))) ?_; refine o1 ?_
      refine nl ?_; refine cdp rfl (fun h6 => ?_) (fun h6 => ?_)
      ·
        refine rl ?_; refine o1 ?_; refine ld ?_; refine o1 ?_; refine ld ?_; refine ld ?_; refine o1 ?_; refine bs 9 ?_
        refine w_app (j := 10) ttok rfl rfl rfl rfl (.sl rfl (by rw [List.length_map, vflat_len])) (.sl rfl rfl rfl) rfl rfl rfl (by omega) (by omega) ?_
        refine o1 ?_; refine st ?_; refine nl ?_; refine rl ?_; refine o1 ?_; refine o1 ?_; refine WL.cast (t := 25) (u' := .int .i64 ((k + 1 : Nat) : Int)) rfl (cint (by omega)) ?_
        refine o1 ?_; refine nl ?_; have hst := (refL_snoc (fr := fr) p (by omega : k < vs.length)).trans (refS_no (s := (refL fr (vs.take k) p)) (x := nthV vs k) (fun hc => h2 hc.1))
        rw [if_pos h6] at hst; refine ⟨(k + 1, m), by dsimp only; omega, ?_, ?_⟩
        · dsimp only
          rw [hst]; exact ⟨by omega, hm, by dsimp only; omega, by dsimp only; rw [List.length_append, List.length_singleton]; omega, by dsimp only; omega⟩
        · dsimp only
          rw [hst]; dsimp only
          exact su0 h0 [0, 1, 2, 3, 10, 5] _ _ (by decide) ⟨rfl, rfl, rfl, rfl, rfl, rfl, rfl, trivial⟩ ⟨oe rfl rfl, oet rfl, oe rfl rfl, oe rfl (congrArg (fun n => some (⟨29, 0, [.sl 10 0 n, tv (.int .i64 last), tv (.bool was)]⟩ : Ob)) (show (refL fr (vs.take k) p).1.length + 1 = ((refL fr (vs.take k) p).1 ++ [((nthV vs k).1, (nthV vs (k)).2 - ((0 : Int) : Rat))]).length by simp)), oet (congrArg (fun l => some (⟨63, 5, l⟩ : Ob)) (show ((refL fr (vs.take k) p).1.flatMap (vtr false)).map AV.t ++ (vtr false ((nthV vs k).1, (nthV vs (k)).2 - ((0 : Int) : Rat))).map .t = (((refL fr (vs.take k) p).1 ++ [((nthV vs k).1, (nthV vs (k)).2 - ((0 : Int) : Rat))]).flatMap (vtr false)).map .t by simp [List.flatMap_append])), oet rfl, rfl⟩
      ·
        refine sk ?_; refine rl ?_; refine o1 ?_; refine o1 ?_; refine WL.cast (t := 25) (u' := .int .i64 ((k + 1 : Nat) : Int)) rfl (cint (by omega)) ?_
        refine o1 ?_; refine nl ?_; have hst := (refL_snoc (fr := fr) p (by omega : k < vs.length)).trans (refS_no (s := (refL fr (vs.take k) p)) (x := nthV vs k) (fun hc => h2 hc.1))
        rw [if_neg h6] at hst; refine ⟨(k + 1, m), by dsimp only; omega, ?_, ?_⟩
        · dsimp only
          rw [hst]; exact ⟨by omega, hm, by dsimp only; omega, by dsimp only; omega, by dsimp only; omega⟩
        · dsimp only
          rw [hst]; dsimp only; exact su0 h0 [0, 1, 2, 3, 4, 5] _ _ (by decide) ⟨rfl, rfl, rfl, rfl, rfl, rfl, rfl, trivial⟩ ⟨oe rfl rfl, oet rfl, oe rfl rfl, oe rfl rfl, oet rfl, oet rfl, rfl⟩
  ·
    refine ex ?_; refine sq ?_; refine rl ?_; refine ld ?_; have hkk : vs.take k = vs := List.take_of_length_le (by omega)
    have hG9 : (refL fr (vs.take k) p).2.1 = (refL fr vs p).2.1 := by rw [hkk]
    have hL9 : (refL fr (vs.take k) p).1 = (refL fr vs p).1 := by rw [hkk]
    refine WL.sub (fzg (i := 72) (k := 4) (t := 63) (z := 5) (n := ((refL fr (vs.take k) p).1).length) (l := ((refL fr (vs.take k) p).1).flatMap (vtr false)) rfl rfl rfl (vflat_len false ((refL fr (vs.take k) p).1)) (.agg (.cons .sl (.cons .id (.cons .id .nil))))) ?_
    refine WL.sub (fzg (i := 9) (k := 5) (t := 63) (z := 5) (n := ((refL fr (vs.take k) p).2.1).length) (l := ((refL fr (vs.take k) p).2.1).flatMap (vtr false)) rfl rfl rfl (vflat_len false ((refL fr (vs.take k) p).2.1)) (.one .sl)) ?_
    refine o1 ?_; refine st ?_; refine o1 ?_; refine nl ?_; refine rt ?_
    exact en (.inl rfl) rfl (pkt (.cons (.agg (.cons (.id rfl) (.cons (.id rfl) (.cons (.id rfl) .nil)))) (.cons (.one (.id rfl)) .nil))) (by decide) (fun h => by cases h) (by rw [← hG9, ← hL9]; rfl)
end Go.Proofs.YtogaallfhifngaaGreat
namespace Go.Proofs.YtogaallfhifngaaGreat
open Go Go.RowKit
theorem c_limbs {xs : List Nat} (hx : xs.length ≤ 1099511627776) : Spec true Tryz.prog 39 [] [.one (.t (sU false xs))] (Ret (.one (.t (sU true xs)))) := by
  refine fn0 Tryz.func39 rfl Tryz.ntmps39 rfl ttok rfl fun N w c0 h0 => ?_
  refine sq ?_; refine rl ?_; refine o1 ?_; refine nl ?_; refine sq ?_; refine rl ?_; refine o1 ?_; refine nl ?_; refine sq ?_; refine rl ?_; refine o1 ?_; refine o1 ?_
  refine w_app (j := 0) ttok rfl rfl rfl rfl .nil .fz (rd_u32 _) (lone_u32 _) rfl (by omega) (by omega) ?_
  refine o1 ?_; refine nl ?_; refine rt ?_
  exact en (.inl rfl) rfl (pk1 (.one (.sl rfl rfl (by rw [Nat.zero_add, Nat.mul_one, List.nil_append, List.take_of_length_le (by simp [u32T_len])]) (by simp [u32T_len])))) (by decide) (fun _ => .inl ⟨rfl, nofr_u32 xs⟩) (by simp [Ret, sU])
theorem c_row {xs ys : List Nat} (hx : xs.length ≤ 1099511627776) (hy : ys.length ≤ 1099511627776) : Spec true Tryz.prog 61 [] [.one (.t (sU false xs)), .one (.t (sU false ys))] (Ret (.one (tv (.bool (decide (xs = ys)))))) := by
  refine fn0 Tryz.func61 rfl Tryz.ntmps61 rfl ttok rfl fun N w c0 h0 => ?_
  refine sq ?_; refine rl ?_; refine o1 ?_; refine nl ?_; refine sq ?_; refine sq ?_; refine rl ?_; (iterate 5 refine o1 ?_); refine nl ?_; refine cdp rfl (fun h1 => ?_) (fun h1 => ?_)
  ·
    refine sq ?_; refine rl ?_; refine o1 ?_; refine nl ?_; refine rt ?_; refine en (.inl rfl) rfl (pk1 (pkv _)) (by decide) (fun _ => trivial) (congrArg (fun b => FV.one (tv (.bool b))) ?_)
    exact (decide_eq_false (fun h => h1 (by rw [h]))).symm
  ·
    refine sk ?_; refine sq ?_; refine sq ?_; refine rl ?_; refine o1 ?_; refine nl ?_; refine bl ?_
    refine lp (γ := Nat) (fun k => frL [(0, .one (.t (sU false xs))), (1, .one (.t (sU false ys))), (5, .one (tv (.int .i64 ((k : Nat) : Int))))]) (fun k => [].map some) (fun k => k ≤ xs.length ∧ xs.take k = ys.take k) (fun k => xs.length - k) 0 (⟨Nat.zero_le _, rfl⟩) (su0 h0 [] _ _ (by decide) ⟨rfl, rfl, rfl, trivial⟩ rfl) fun k hk => ?_
    refine sq ?_; refine sq ?_; refine rl ?_; (iterate 4 refine o1 ?_); refine nl ?_; refine cdp rfl (fun h2 => ?_) (fun h2 => ?_)
    ·
      refine sk ?_; refine sq ?_; refine bl ?_; refine sq ?_; refine rd [] (fun i => [].contains i) mixed ?_
      refine dv 0 ?_; refine dv 1 ?_; refine dv 2 ?_; refine dlr 3 ([.v (.int .u32 ((nth xs (k) : Nat) : Int))]) (u32_at xs (k := k) (by omega)) ?_
      refine dv 4 ?_; refine dv 5 ?_; refine dv 6 ?_; refine dlr 7 ([.v (.int .u32 ((nth ys (k) : Nat) : Int))]) (u32_at ys (k := k) (by omega)) ?_
      refine dv 8 ?_; refine dz0 ?_; refine cdp rfl (fun h3 => ?_) (fun h3 => ?_)
      ·
        refine sq ?_; refine rl ?_; refine o1 ?_; refine nl ?_; refine rt ?_; refine en (.inl rfl) rfl (pk1 (pkv _)) (by decide) (fun _ => trivial) (congrArg (fun b => FV.one (tv (.bool b))) ?_)
        exact (decide_eq_false (fun h => h3 (by rw [h]))).symm
      ·
        refine sk ?_; refine rl ?_; (iterate 3 refine o1 ?_); refine nl ?_
        exact ⟨k + 1, by omega, ⟨by omega, row_step hk.2 (by omega) (by omega) (by omega)⟩, su0 h0 [] _ _ (by decide) ⟨rfl, rfl, rfl, trivial⟩ rfl⟩
    ·
      refine ex ?_; refine sq ?_; refine rl ?_; refine o1 ?_; refine nl ?_; refine rt ?_
      refine en (.inl rfl) rfl (pk1 (pkv _)) (by decide) (fun _ => trivial) (congrArg (fun b => FV.one (tv (.bool b))) ?_)
      exact (decide_eq_true (by rw [← List.take_of_length_le (i := k) (l := xs) (by omega), hk.2, List.take_of_length_le (by omega)])).symm
theorem c_RefRat {a : Fr4} (ha : a.len 1099511627776) : Spec true Tryz.prog 14 [] [qF a] (Ret (rO a)) := by
  refine fn0 Tryz.func14 rfl Tryz.ntmps14 rfl ttok rfl fun N w c0 h0 => ?_
  refine sq ?_; refine rl ?_; refine bx 0 ?_; refine al 1 ?_; refine nl ?_; refine sq ?_; refine rd [0, 1] (fun i => [17].contains i) mixed ?_
  refine dv 0 ?_; refine dv 1 ?_; refine dld 2 ?_; refine dv 3 ?_; refine dv 4 ?_; refine dld 5 ?_; refine dv 8 ?_; refine dv 9 ?_; refine dld 10 ?_; refine dv 11 ?_; refine dv 12 ?_; refine dld 13 ?_
  refine dck 2 6 rfl (c_limbs ha.1) ok39 ⟨a1 rfl, rfl⟩ ?_; refine df 7 ?_; refine dck 3 14 rfl (c_limbs ha.2) ok39 ⟨a1 rfl, rfl⟩ ?_; refine df 15 ?_; refine df 16 ?_; refine dst 17 ?_; refine dz0 ?_
  refine rt ?_
  exact en (.inl rfl) rfl (pk1 (.agg (.cons (.id rfl) (.cons (.sl (trs := u32T a.x) rfl rfl (tk_u32 _) (ln_u32 _)) (.cons (.id rfl) (.cons (.sl (trs := u32T a.y) rfl rfl (tk_u32 _) (ln_u32 _)) .nil)))))) (by decide) (fun _ => nofr_r a) rfl
theorem c_OfRat {a : Fr4} (ha : a.len 1099511627776) : Spec true Tryz.prog 35 [] [qF a] (Ret (rO a)) := by
  refine fn0 Tryz.func35 rfl Tryz.ntmps35 rfl ttok rfl fun N w c0 h0 => ?_
  refine sq ?_; refine rl ?_; refine bx 0 ?_; refine al 1 ?_; refine nl ?_; refine sq ?_; refine rd [0, 1] (fun i => [17].contains i) mixed ?_
  refine dv 0 ?_; refine dv 1 ?_; refine dld 2 ?_; refine dv 3 ?_; refine dv 4 ?_; refine dld 5 ?_; refine dv 8 ?_; refine dv 9 ?_; refine dld 10 ?_; refine dv 11 ?_; refine dv 12 ?_; refine dld 13 ?_
  refine dck 2 6 rfl (c_limbs ha.1) ok39 ⟨a1 rfl, rfl⟩ ?_; refine df 7 ?_; refine dck 3 14 rfl (c_limbs ha.2) ok39 ⟨a1 rfl, rfl⟩ ?_; refine df 15 ?_; refine df 16 ?_; refine dst 17 ?_; refine dz0 ?_
  refine rt ?_
  exact en (.inl rfl) rfl (pk1 (.agg (.cons (.id rfl) (.cons (.sl (trs := u32T a.x) rfl rfl (tk_u32 _) (ln_u32 _)) (.cons (.id rfl) (.cons (.sl (trs := u32T a.y) rfl rfl (tk_u32 _) (ln_u32 _)) .nil)))))) (by decide) (fun _ => nofr_r a) rfl
theorem c_IsRat {a b : Fr4} (ha : a.len 1099511627776) (hb : b.len 1099511627776) : Spec true Tryz.prog 36 [] [qF a, qF b] (Ret (.one (tv (.bool (decide (a = b)))))) := by
  refine fn0 Tryz.func36 rfl Tryz.ntmps36 rfl ttok rfl fun N w c0 h0 => ?_
  refine sq ?_; refine rl ?_; refine bx 0 ?_; refine bx 1 ?_; refine o1 ?_; refine nl ?_; refine sq ?_; refine rl ?_; refine o1 ?_; refine o1 ?_; refine ld ?_; refine o1 ?_; refine o1 ?_; refine ld ?_
  refine o1 ?_; refine o1 ?_; refine WL.splitb (t := 12) rfl (fun h1 => ?_) (fun h1 => ?_)
  ·
    refine o1 ?_; refine o1 ?_; refine ld ?_; refine o1 ?_; refine o1 ?_; refine ld ?_; (iterate 3 refine o1 ?_); refine WL.splitb (t := 21) rfl (fun h2 => ?_) (fun h2 => ?_)
    ·
      refine o1 ?_; refine o1 ?_; refine ld ?_; refine o1 ?_; refine o1 ?_; refine ld ?_; refine ca (c_row ha.1 hb.1) ok61 ⟨a1 rfl, a1 rfl, rfl⟩ (.one (tv (.bool (decide (a.x = b.x))))) ?_
      refine o1 ?_; refine o1 ?_; refine WL.split (t := 30) rfl (fun h3 => ?_) (fun h3 => ?_)
      ·
        refine o1 ?_; refine o1 ?_; refine ld ?_; refine o1 ?_; refine o1 ?_; refine ld ?_; refine ca (c_row ha.2 hb.2) ok61 ⟨a1 rfl, a1 rfl, rfl⟩ (.one (tv (.bool (decide (a.y = b.y))))) ?_
        refine o1 ?_; refine o1 ?_; refine nl ?_; refine rt ?_; exact en (.inl rfl) rfl (pk1 (pkv _)) (by decide) (fun _ => trivial) (congrArg (fun b => FV.one (tv (.bool b))) (by simp_all [fr4_eq]))
      ·
        (iterate 7 refine no_ ?_); refine o1 ?_; refine o1 ?_; refine nl ?_; refine rt ?_
        exact en (.inl rfl) rfl (pk1 (pkv _)) (by decide) (fun _ => trivial) (congrArg (fun b => FV.one (tv (.bool b))) (by simp_all [fr4_eq]))
    ·
      (iterate 7 refine no_ ?_); refine o1 ?_; refine o1 ?_; (iterate 7 refine no_ ?_); refine o1 ?_; refine o1 ?_; refine nl ?_; refine rt ?_
      exact en (.inl rfl) rfl (pk1 (pkv _)) (by decide) (fun _ => trivial) (congrArg (fun b => FV.one (tv (.bool b))) (by simp_all [fr4_eq]))
  ·
    (iterate 7 refine no_ ?_); refine o1 ?_; refine o1 ?_; (iterate 7 refine no_ ?_); refine o1 ?_; refine o1 ?_; (iterate 7 refine no_ ?_); refine o1 ?_; refine o1 ?_; refine nl ?_; refine rt ?_
    exact en (.inl rfl) rfl (pk1 (pkv _)) (by decide) (fun _ => trivial) (congrArg (fun b => FV.one (tv (.bool b))) (by simp_all [fr4_eq]))
end Go.Proofs.YtogaallfhifngaaGreat
namespace Go.Proofs.YtogaallfhifngaaGreat
open Go Go.RowKit
theorem f_Pick {i n : Int} (hn : 0 < n) (hn2 : n ≤ 1000000) : Spec true Tryz.prog 13 [] [.one (tv (.int .i64 i)), .one (tv (.int .i64 n))] (Ret (.one (tv (.int .i64 ((i.tmod n + n).tmod n))))) := by
  refine fn0 Tryz.func13 rfl Tryz.ntmps13 rfl ttok rfl fun N w c0 h0 => ?_
  have hp := pick_in (i := i) hn
  refine sq ?_; refine rl ?_; refine o1 ?_; refine nl ?_; refine sq ?_; refine sq ?_; refine rl ?_; refine o1 ?_; refine o1 ?_; refine nl ?_; refine cdp rfl (fun h1 => ?_) (fun h1 => ?_)
  ·
    exact absurd h1 (by omega)
  ·
    refine sk ?_; refine sq ?_; refine rl ?_; refine o1 ?_; refine o1 ?_; refine o1 ?_ (hC := (by omega))
    (iterate 3 refine o1 ?_); refine o1 ?_ (hC := (by omega))
    refine o1 ?_; refine nl ?_; refine rt ?_; exact en (.inl rfl) rfl (pk1 (pkv _)) (by decide) (fun _ => trivial) rfl
theorem f_By {n d : Int} (h1 : -9223372036854775808 ≤ n) (h2 : n ≤ 9223372036854775807) (h3 : -9223372036854775808 ≤ d) (h4 : d ≤ 9223372036854775807) : Spec true Tryz.prog 26 [] [.one (tv (.int .i64 n)), .one (tv (.int .i64 d))] (Ret (qO (Rat.divInt n d))) := by
  refine fn0 Tryz.func26 rfl Tryz.ntmps26 rfl ttok rfl fun N w c0 h0 => ?_
  have hs := by_sz h1 h2 h3 h4
  have hl : (Fr4.of (Rat.divInt n d)).len 1099511627776 := ⟨Nat.le_trans hs.1 (by omega), Nat.le_trans hs.2 (by omega)⟩
  refine sq ?_; refine rl ?_; refine al 0 ?_; refine nl ?_; refine sq ?_; refine rl ?_; refine o1 ?_; refine o1 ?_
  refine ca (c_Of4 h1 h2 h3 h4) ok55 ⟨a1 rfl, a1 rfl, rfl⟩ (.tup [qF (.of (Rat.divInt n d)), .one (tv (.int .i64 (if d = 0 then 20 else 0)))]) ?_; (iterate 3 refine o1 ?_); refine al 1 ?_; refine st ?_
  refine o1 ?_; refine nl ?_; refine sq ?_; refine rl ?_; refine ld ?_; refine cak 2 (c_OfRat (a := .of (Rat.divInt n d)) hl) ok35 ⟨a1g rfl, rfl⟩ ?_; refine st ?_; refine nl ?_; refine rt ?_
  exact en (.inl rfl) rfl (pk1 (.agg (.cons (.id rfl) (.cons (.sl (trs := u32T (dg 4294967296 (Rat.divInt n d).num.natAbs)) rfl rfl (tk_u32 _) (ln_u32 _)) (.cons (.id rfl) (.cons (.sl (trs := u32T (dg 4294967296 (Rat.divInt n d).den)) rfl rfl (tk_u32 _) (ln_u32 _)) .nil)))))) (by decide) (fun _ => nofr_q _) rfl
theorem l_short {a : Fr4} : Spec true Tryz.prog 23 [] [qF a] (Ret (.one (tv (.bool (shortB a))))) := by
  refine fn0 Tryz.func23 rfl Tryz.ntmps23 rfl ttok rfl fun N w c0 h0 => ?_
  refine sq ?_; refine rl ?_; refine bx 0 ?_; refine o1 ?_; refine nl ?_; refine sq ?_; refine rl ?_; refine o1 ?_; refine o1 ?_; refine ld ?_; (iterate 3 refine o1 ?_)
  refine WL.split (t := 8) rfl (fun h1 => ?_) (fun h1 => ?_)
  ·
    refine o1 ?_; refine o1 ?_; refine ld ?_; (iterate 4 refine o1 ?_); refine nl ?_; refine rt ?_
    exact en (.inl rfl) rfl (pk1 (pkv _)) (by decide) (fun _ => trivial) (congrArg (fun z => FV.one (tv (.bool z))) (by unfold shortB; rw [decide_eq_true h1]; rfl))
  ·
    (iterate 5 refine no_ ?_); refine o1 ?_; refine o1 ?_; refine nl ?_; refine rt ?_
    exact en (.inl rfl) rfl (pk1 (pkv _)) (by decide) (fun _ => trivial) (congrArg (fun z => FV.one (tv (.bool z))) (by unfold shortB; rw [decide_eq_false h1]; rfl))
theorem l_few {xs : List At} {top : Int} : Spec true Tryz.prog 7 [] [.one (.t (sAc 38 xs)), .one (tv (.int .i64 top))] (Ret (.one (tv (.bool (fewB xs top))))) := by
  refine fn0 Tryz.func7 rfl Tryz.ntmps7 rfl ttok rfl fun N w c0 h0 => ?_
  refine sq ?_; refine rl ?_; refine o1 ?_; refine nl ?_; refine sq ?_; refine sq ?_; refine rl ?_; refine o1 ?_; refine nl ?_; refine bl ?_
  refine lp (γ := Nat) (fun k => frL [(0, .one (.t (sAc 38 xs))), (1, .one (tv (.int .i64 top))), (5, .one (tv (.int .i64 ((k : Nat) : Int))))]) (fun k => [].map some) (fun k => k ≤ xs.length ∧ ∀ j, j < k → shortB (nthA xs j).2.2 = true) (fun k => xs.length - k) 0 (⟨Nat.zero_le _, fun j hj => absurd hj (Nat.not_lt_zero j)⟩) (su0 h0 [] _ _ (by decide) ⟨rfl, rfl, rfl, trivial⟩ rfl) fun k hk => ?_
  refine sq ?_; refine sq ?_; refine rl ?_; (iterate 5 refine o1 ?_); refine WL.split (t := 10) rfl (fun h1 => ?_) (fun h1 => ?_)
  ·
    (iterate 3 refine o1 ?_); refine nl ?_; refine cdp rfl (fun h2 => ?_) (fun h2 => ?_)
    ·
      refine sk ?_; refine sq ?_; refine bl ?_; refine sq ?_; refine rl ?_; (iterate 4 refine o1 ?_); refine ldf ((nthA xs (k)).2.2.tr false) (act_q (by omega)) ?_
      refine ca (l_short (a := (nthA xs (k)).2.2)) ok23 ⟨a1g rfl, rfl⟩ (.one (tv (.bool (shortB (nthA xs (k)).2.2)))) ?_; refine WL.splitb (t := 21) rfl (fun h3 => ?_) (fun h3 => ?_)
      ·
        refine o1 ?_; refine nl ?_; refine cdf rfl ?_; refine sk ?_; refine rl ?_; refine o1 ?_; refine o1 ?_; refine WL.cast (t := 15) (u' := .int .i64 ((k + 1 : Nat) : Int)) rfl (cint (by omega)) ?_
        refine o1 ?_; refine nl ?_
        exact ⟨k + 1, by omega, ⟨by omega, fun j hj => by rcases Nat.lt_succ_iff_lt_or_eq.1 hj with h9 | h9; exact hk.2 j h9; subst h9; exact h3⟩, su0 h0 [] _ _ (by decide) ⟨rfl, rfl, rfl, trivial⟩ rfl⟩
      ·
        refine o1 ?_; refine nl ?_; refine cdt rfl ?_; refine sq ?_; refine rl ?_; refine o1 ?_; refine nl ?_; refine rt ?_
        exact en (.inl rfl) rfl (pk1 (pkv _)) (by decide) (fun _ => trivial) (congrArg (fun z => FV.one (tv (.bool z))) (few_no (k := k) (by omega) (by omega) h3))
    ·
      refine ex ?_; refine sq ?_; refine rl ?_; (iterate 5 refine o1 ?_); refine nl ?_; refine rt ?_
      exact en (.inl rfl) rfl (pk1 (pkv _)) (by decide) (fun _ => trivial) (congrArg (fun z => FV.one (tv (.bool z))) (few_yes (k := k) hk.2 hk.1 (by omega)))
  ·
    refine no_ ?_; refine no_ ?_; refine o1 ?_; refine nl ?_; refine cdf rfl ?_; refine ex ?_; refine sq ?_; refine rl ?_; (iterate 5 refine o1 ?_); refine nl ?_; refine rt ?_
    exact en (.inl rfl) rfl (pk1 (pkv _)) (by decide) (fun _ => trivial) (congrArg (fun z => FV.one (tv (.bool z))) (few_yes (k := k) hk.2 hk.1 (by omega)))
theorem l_same {us ws : List (Int × Rat)} (hu : ∀ x ∈ us, Sz 68719476736 x.2) (hw : ∀ x ∈ ws, Sz 68719476736 x.2) (hlu9 : us.length ≤ 1073741823) (hlw9 : ws.length ≤ 1073741823) : Spec true Tryz.prog 29 [] [.one (.t (sV 57 false us)), .one (.t (sV 63 false ws))] (Ret (.one (tv (.bool (decide (us = ws)))))) := by
  refine fn0 Tryz.func29 rfl Tryz.ntmps29 rfl ttok rfl fun N w c0 h0 => ?_
  have hlu : ∀ x ∈ us, (Fr4.of x.2).len 1099511627776 := fun x hx => ⟨Nat.le_trans (hu x hx).1 (by omega), Nat.le_trans (hu x hx).2 (by omega)⟩
  have hlw : ∀ x ∈ ws, (Fr4.of x.2).len 1099511627776 := fun x hx => ⟨Nat.le_trans (hw x hx).1 (by omega), Nat.le_trans (hw x hx).2 (by omega)⟩
  refine sq ?_; refine rl ?_; refine o1 ?_; refine nl ?_; refine sq ?_; refine sq ?_; refine rl ?_; (iterate 5 refine o1 ?_); refine nl ?_; refine cdp rfl (fun h1 => ?_) (fun h1 => ?_)
  ·
    refine sq ?_; refine rl ?_; refine o1 ?_; refine nl ?_; refine rt ?_
    exact en (.inl rfl) rfl (pk1 (pkv _)) (by decide) (fun _ => trivial) (congrArg (fun z => FV.one (tv (.bool z))) ((decide_eq_false (fun h9 : us = ws => h1 (by rw [h9]))).symm))
  ·
    refine sk ?_; refine sq ?_; refine sq ?_; refine rl ?_; refine o1 ?_; refine nl ?_; refine bl ?_
    refine lp (γ := Nat) (fun k => frL [(0, .one (.t (sV 57 false us))), (1, .one (.t (sV 63 false ws))), (5, .one (tv (.int .i64 ((k : Nat) : Int))))]) (fun k => [].map some) (fun k => k ≤ us.length ∧ us.take k = ws.take k) (fun k => us.length - k) 0 (⟨Nat.zero_le _, rfl⟩) (su0 h0 [] _ _ (by decide) ⟨rfl, rfl, rfl, trivial⟩ rfl) fun k hk => ?_
    refine sq ?_; refine sq ?_; refine rl ?_; (iterate 4 refine o1 ?_); refine nl ?_; refine cdp rfl (fun h2 => ?_) (fun h2 => ?_)
    ·
      refine sk ?_; refine sq ?_; refine bl ?_; refine sq ?_; refine rd [] (fun i => [].contains i) mixed ?_
      refine dv 0 ?_; refine dv 1 ?_; refine dv 2 ?_; refine dv 3 ?_; refine dlr 4 ([.v (.int .i64 (nthV us (k)).1)]) (vin_y false (by omega)) ?_
      refine dv 5 ?_; refine dv 6 ?_; refine dv 7 ?_; refine dv 8 ?_; refine dlr 9 ([.v (.int .i64 (nthV ws (k)).1)]) (vin_y false (by omega)) ?_
      refine dv 10 ?_; refine dv 11 ?_; refine WD.split (t := 28) rfl rfl (fun h3 => ?_) (fun h3 => ?_)
      ·
        refine dno 12 ?_; refine dno 13 ?_; refine dno 14 ?_; refine dno 15 ?_; refine dno 16 ?_; refine dno 17 ?_; refine dno 18 ?_; refine dno 19 ?_; refine dno 20 ?_; refine dno 21 ?_
        refine dno 22 ?_; refine dno 23 ?_; refine dv 24 ?_; refine dz0 ?_; refine cdt rfl ?_; refine sq ?_; refine rl ?_; refine o1 ?_; refine nl ?_; refine rt ?_
        exact en (.inl rfl) rfl (pk1 (pkv _)) (by decide) (fun _ => trivial) (congrArg (fun z => FV.one (tv (.bool z))) ((decide_eq_false (fun h9 : us = ws => h3 (by rw [h9]))).symm))
      ·
        refine dv 12 ?_; refine dv 13 ?_; refine dv 14 ?_; refine dv 15 ?_; refine dlr 16 ((Fr4.of (nthV us (k)).2).tr false) (vin_q false (by omega)) ?_
        refine dv 17 ?_; refine dv 18 ?_; refine dv 19 ?_; refine dv 20 ?_; refine dlr 21 ((Fr4.of (nthV ws (k)).2).tr false) (vin_q false (by omega)) ?_
        refine dca 22 rfl (c_IsRat (a := .of (nthV us (k)).2) (b := .of (nthV ws (k)).2) (hlu _ (nthV_mem (by omega))) (hlw _ (nthV_mem (by omega)))) ok36 ⟨a1g rfl, a1g rfl, rfl⟩ (.one (tv (.bool (decide (Fr4.of (nthV us (k)).2 = Fr4.of (nthV ws (k)).2))))) ?_
        refine WD.split (t := 39) rfl rfl (fun h4 => ?_) (fun h4 => ?_)
        ·
          refine df 23 ?_; refine df 24 ?_; refine dz0 ?_; refine cdf rfl ?_; refine sk ?_; refine rl ?_; refine o1 ?_; refine o1 ?_
          refine WL.cast (t := 16) (u' := .int .i64 ((k + 1 : Nat) : Int)) rfl (cint (by omega)) ?_
          refine o1 ?_; refine nl ?_
          exact ⟨k + 1, by omega, ⟨by omega, same_stepV hk.2 (by omega) (by omega) (by have h9 := h3; omega) (of_inj.1 h4)⟩, su0 h0 [] _ _ (by decide) ⟨rfl, rfl, rfl, trivial⟩ rfl⟩
        ·
          refine df 23 ?_; refine df 24 ?_; refine dz0 ?_; refine cdt rfl ?_; refine sq ?_; refine rl ?_; refine o1 ?_; refine nl ?_; refine rt ?_
          exact en (.inl rfl) rfl (pk1 (pkv _)) (by decide) (fun _ => trivial) (congrArg (fun z => FV.one (tv (.bool z))) ((decide_eq_false (fun h9 : us = ws => h4 (by rw [h9]))).symm))
    ·
      refine ex ?_; refine sq ?_; refine rl ?_; refine o1 ?_; refine nl ?_; refine rt ?_
      exact en (.inl rfl) rfl (pk1 (pkv _)) (by decide) (fun _ => trivial) (congrArg (fun z => FV.one (tv (.bool z))) ((decide_eq_true (by rw [← List.take_of_length_le (i := k) (l := us) (by omega), hk.2, List.take_of_length_le (by omega)])).symm))
theorem ren_set {τ : List Nat} {k k2 : Nat} (h : τ[k]? = some k2) (l : List Tr) (p o n : Nat) : renL τ ((l.map AV.t).set p (.sl k o n)) = some ((l.map AV.t).set p (.sl k2 o n)) := by
  induction l generalizing p with
  | nil => simp [renL]
  | cons x l ih =>
    cases p with
    | zero => simp [renL, renA, h, ren_t]
    | succ p => simp [renL, renA, ih p]
theorem l_spoil {n : Nat} {trs0 : List Tr} (hS : Spo n trs0) (hn : n ≤ 1073741823) : Spec false Tryz.prog 32 [⟨57, 5, trs0.map .t⟩] [.one (.sl 0 0 n)] (fun l r => r = .tup [] ∧ ∃ trs : List Tr, l = [⟨57, 5, trs.map .t⟩]) := by
  refine fnL Tryz.func32 rfl Tryz.ntmps32 rfl ttok rfl fun N M w c0 h0 => ?_
  refine sq ?_; refine rl ?_; refine o1 ?_; refine nl ?_; refine bl ?_
  refine lp (γ := Nat × List Tr) (fun s => frL [(0, .one (.sl 0 0 n)), (2, .one (tv (.int .i64 ((s.1 : Nat) : Int))))]) (fun s => [({ t := 57, z := 5, l := (s.2).map .t } : Ob)].map some) (fun s => s.1 ≤ n ∧ Spo n s.2) (fun s => n - s.1) (0, trs0) ⟨Nat.zero_le _, hS⟩ (suL h0 [0] _ _ (by decide) rfl ⟨rfl, rfl, trivial⟩ ⟨oet rfl, rfl⟩) ?_
  rintro ⟨i, trs⟩ ⟨hi, hP⟩; dsimp only at hi hP ⊢; refine sq ?_; refine sq ?_; refine rl ?_; (iterate 4 refine o1 ?_); refine nl ?_; refine cdp rfl (fun h1 => ?_) (fun h1 => ?_)
  ·
    refine sk ?_; refine sq ?_; refine bl ?_; refine sq ?_; refine sq ?_; refine rl ?_; refine o1 ?_; refine nl ?_; refine bl ?_; obtain ⟨xs, hxl, hx⟩ := hP.2 i (by omega)
    refine WP.sub (opn (j := 0) (key := 1) (p := i * 5 + 2) (e := 104) (z := 1) (n := xs.length) (trs := u32T xs) rfl rfl rfl (by rw [List.getElem?_map, hx]; rfl) rfl) ?_
    refine lp (γ := Nat × List Nat) (fun s => frL [(0, .one (.sl 0 0 n)), (2, .one (tv (.int .i64 ((i : Nat) : Int)))), (3, .one (tv (.int .i64 ((s.1 : Nat) : Int))))]) (fun s => [({ t := 57, z := 5, l := ((trs.map AV.t).set (i * 5 + 2) (.sl 1 0 xs.length)) } : Ob), ⟨104, 1, (u32T s.2).map .t⟩].map some) (fun s => s.1 ≤ xs.length ∧ s.2.length = xs.length) (fun s => xs.length - s.1) (0, xs) ⟨Nat.zero_le _, rfl⟩ (suL h0 [0, 1] _ _ (by decide) rfl ⟨rfl, rfl, rfl, trivial⟩ ⟨⟨_, ren_set rfl _ _ _ _, rfl⟩, oet rfl, rfl⟩) ?_
    rintro ⟨k, zs⟩ ⟨hk, hzl⟩; dsimp only at hk hzl ⊢; refine sq ?_; refine sq ?_; refine rl ?_; (iterate 7 refine o1 ?_)
    refine ldo (o := 0 + i * 5 + 1 + 0 + 1) (l := ((trs.map AV.t).set (i * 5 + 2) (.sl 1 0 xs.length))) (v := .sl 1 0 xs.length) (by rw [show 0 + i * 5 + 1 + 0 + 1 = i * 5 + 2 by omega]; exact List.getElem?_set_self (by rw [List.length_map, hP.1]; omega)) ?_
    refine o1 ?_; refine o1 ?_; refine nl ?_; refine cdp rfl (fun h2 => ?_) (fun h2 => ?_)
    ·
      refine sk ?_; refine sq ?_; refine bl ?_; refine rl ?_; (iterate 6 refine o1 ?_)
      refine ldo (o := 0 + i * 5 + 1 + 0 + 1) (l := ((trs.map AV.t).set (i * 5 + 2) (.sl 1 0 xs.length))) (v := .sl 1 0 xs.length) (by rw [show 0 + i * 5 + 1 + 0 + 1 = i * 5 + 2 by omega]; exact List.getElem?_set_self (by rw [List.length_map, hP.1]; omega)) ?_
      refine o1 ?_; refine o1 ?_; refine sto (u32_put zs (k := k) (v := 77) (by omega)) (u32_le zs (by omega)) ?_
      refine nl ?_; refine rl ?_; refine o1 ?_; refine o1 ?_; refine WL.cast (t := 21) (u' := .int .i64 ((k + 1 : Nat) : Int)) rfl (cint (by omega)) ?_
      refine o1 ?_; refine nl ?_
      exact ⟨(k + 1, zs.set k 77), by dsimp only; omega, ⟨by dsimp only; omega, by dsimp only; rw [List.length_set]; exact hzl⟩, suL h0 [0, 1] _ _ (by decide) rfl ⟨rfl, rfl, rfl, trivial⟩ ⟨⟨_, ren_set rfl _ _ _ _, rfl⟩, oet rfl, rfl⟩⟩
    ·
      refine ex ?_
      refine WP.sub (cls (j := 0) (k := 1) (p := i * 5 + 2) (n := xs.length) (trs := u32T zs) (l' := (trs.set (i * 5 + 2) (sU true zs)).map .t) rfl rfl rfl rfl (List.getElem?_set_self (by rw [List.length_map, hP.1]; omega)) (take_self _ _ (by rw [u32T_len, hzl, Nat.mul_one])) (by rw [u32T_len, hzl, Nat.mul_one]) (by rw [List.set_set, ← hzl, List.map_set]; rfl)) ?_
      refine rl ?_; (iterate 4 refine o1 ?_)
      refine sto (o := 0 + i * 5 + 0) (l := (trs.set (i * 5 + 2) (sU true zs)).map .t) (l' := ((trs.set (i * 5 + 2) (sU true zs)).set (i * 5) (.v (.int .i64 (-77)))).map .t) (us := [tv (.int .i64 (-77))]) (by rw [putA_one (by rw [List.length_map, List.length_set, hP.1]; omega), show 0 + i * 5 + 0 = i * 5 by omega]; simp only [List.map_set]; rfl) (by rw [List.length_map, List.length_set, hP.1]; simp; omega) ?_
      refine nl ?_; refine rl ?_; refine o1 ?_; refine o1 ?_; refine WL.cast (t := 9) (u' := .int .i64 ((i + 1 : Nat) : Int)) rfl (cint (by omega)) ?_
      refine o1 ?_; refine nl ?_
      exact ⟨(i + 1, (trs.set (i * 5 + 2) (sU true zs)).set (i * 5) (.v (.int .i64 (-77)))), by dsimp only; omega, ⟨by dsimp only; omega, hP.step (by omega) zs (by omega) _⟩, suL h0 [0] _ _ (by decide) rfl ⟨rfl, rfl, trivial⟩ ⟨oet rfl, rfl⟩⟩
  ·
    refine ex ?_
    exact enL (lent' := [⟨57, 5, trs.map .t⟩]) (.inr rfl) rfl pk0 (by decide) (fun _ h => by cases h) ⟨⟨rfl, rfl⟩, trivial⟩ ⟨rfl, trivial⟩ ⟨refC_t _, trivial⟩ (fun h => by cases h) ⟨rfl, trs, rfl⟩
end Go.Proofs.YtogaallfhifngaaGreat
namespace Go.Proofs.YtogaallfhifngaaGreat
open Go Go.RowKit
theorem flat_tk {α : Type} {f : α → List Tr} {z : Nat} (hf : ∀ x, (f x).length = z) (us : List α) (k : Nat) : (us.flatMap f).take (k * z) = (us.take k).flatMap f := by
  by_cases h : k ≤ us.length
  · conv => lhs; rw [← List.take_append_drop k us, List.flatMap_append]
    exact List.take_left' (by rw [flat_len hf, List.length_take, Nat.min_eq_left h])
  · rw [List.take_of_length_le (by rw [flat_len hf]; exact Nat.mul_le_mul_right z (by omega)), List.take_of_length_le (by omega)]
theorem flat_dr {α : Type} {f : α → List Tr} {z : Nat} (hf : ∀ x, (f x).length = z) (us : List α) (k : Nat) : (us.flatMap f).drop (k * z) = (us.drop k).flatMap f := by
  by_cases h : k ≤ us.length
  · conv => lhs; rw [← List.take_append_drop k us, List.flatMap_append]
    exact List.drop_left' (by rw [flat_len hf, List.length_take, Nat.min_eq_left h])
  · rw [List.drop_of_length_le (by rw [flat_len hf]; exact Nat.mul_le_mul_right z (by omega)), List.drop_of_length_le (by omega)]
    rfl
theorem flat_put {α : Type} {f : α → List Tr} {z : Nat} (hf : ∀ x, (f x).length = z) {us : List α} {k : Nat} {x : α} (h : k < us.length) : putA ((us.flatMap f).map .t) (0 + k * z) ((f x).map AV.t) = ((us.set k x).flatMap f).map .t := by
  have e : k * z + ((f x).map AV.t).length = (k + 1) * z := by rw [List.length_map, hf, Nat.succ_mul]
  rw [Nat.zero_add]
  unfold putA
  rw [e, ← List.map_take, ← List.map_drop, flat_tk hf, flat_dr hf, ← List.map_append, ← List.map_append, List.set_eq_take_append_cons_drop, if_pos h]
  simp [List.flatMap_append]
section
variable {ls : List Fr4} {k : Nat} {a : Fr4}
end
def nthI (ys : List Int) (k : Nat) : Int := ys.getD k 0
def icl (ys : List Int) : List AV := (ys.map fun y => Tr.v (.int .i64 y)).map .t
theorem icl_at {ys tl : List Int} {k : Nat} (h : k < ys.length) : (icl (ys ++ tl))[0 + k * 1]? = some (tv (.int .i64 (nthI ys k))) := by
  rw [Nat.zero_add, Nat.mul_one, icl, List.getElem?_map, List.getElem?_map, List.getElem?_append_left h]
  simp [nthI, h, tv]
theorem icl_put {ys tl : List Int} {y0 y : Int} {n : Nat} (hn : ys.length = n) : putA (icl (ys ++ y0 :: tl)) (0 + n * 1) [tv (.int .i64 y)] = icl (ys ++ y :: tl) := by
  subst hn
  have e : ∀ (A C : List AV) (a b : AV), A.length = ys.length → (A ++ a :: C).take ys.length ++ [b] ++ (A ++ a :: C).drop (ys.length + 1) = A ++ b :: C := by
    intro A C a b hA
    rw [List.take_left' hA, show A ++ a :: C = (A ++ [a]) ++ C by simp, List.drop_left' (by simp [hA])]
    simp
  have h := e ((ys.map fun y => Tr.v (.int .i64 y)).map .t) ((tl.map fun y => Tr.v (.int .i64 y)).map .t) (tv (.int .i64 y0)) (tv (.int .i64 y)) (by simp)
  rw [Nat.zero_add, Nat.mul_one]
  unfold putA icl
  simpa [tv] using h
theorem icl_le {ys tl : List Int} {y0 y : Int} {n : Nat} (hn : ys.length = n) : 0 + n * 1 + [tv (.int .i64 y)].length ≤ (icl (ys ++ y0 :: tl)).length := by subst hn; simp [icl]
theorem icl_zero (m : Nat) : (List.replicate m (Value.int .i64 0)).map tv = icl (List.replicate m 0) := by simp [icl, tv]
def zT (Z : List (Int × Rat)) (rest : List Tr) : List Tr := (Z.flatMap fun x => (Fr4.of x.2).tr false) ++ rest
def zcl (Z : List (Int × Rat)) (rest : List Tr) : List AV := (zT Z rest).map .t
section
variable {Z : List (Int × Rat)} {rest r4 : List Tr} {k : Nat} {q : Rat} {a : Fr4}
theorem zfl_len (Z : List (Int × Rat)) : (Z.flatMap fun x : Int × Rat => (Fr4.of x.2).tr false).length = Z.length * 4 := flat_len (z := 4) (fun _ => rfl) Z
theorem zcl_len (Z : List (Int × Rat)) (rest : List Tr) : (zcl Z rest).length = Z.length * 4 + rest.length := by rw [zcl, List.length_map, zT, List.length_append, zfl_len]
theorem zcl_at (h : k < Z.length) (he : (nthV Z k).2 = q) : ((zcl Z rest).drop (0 + k * 4)).take (((Fr4.of q).tr false).map AV.t).length = ((Fr4.of q).tr false).map .t := by
  have h1 := flat_at (f := fun x : Int × Rat => (Fr4.of x.2).tr false) (z := 4) (fun _ => rfl) (nthV_get h)
  have hl := zfl_len Z
  rw [zcl, ← List.map_drop, ← List.map_take, Nat.zero_add, List.length_map, zT, List.drop_append_of_le_length (by omega)]
  show List.map AV.t (List.take 4 _) = _
  rw [List.take_append_of_le_length (by rw [List.length_drop]; omega), h1, ← he]
theorem zcl_put (h : k < Z.length) (y : Int) (q : Rat) : putA (zcl Z rest) (0 + k * 4) (((Fr4.of q).tr false).map AV.t) = zcl (Z.set k (y, q)) rest := by
  have h1 := flat_put (f := fun x : Int × Rat => (Fr4.of x.2).tr false) (z := 4) (fun _ => rfl) (us := Z) (k := k) (x := (y, q)) h
  have hl := zfl_len Z
  rw [Nat.zero_add] at h1 ⊢
  unfold putA at h1 ⊢
  have e : k * 4 + (((Fr4.of q).tr false).map AV.t).length = k * 4 + 4 := rfl
  rw [e] at h1 ⊢
  unfold zcl zT
  rw [List.map_append, List.take_append_of_le_length (by rw [List.length_map]; omega), List.drop_append_of_le_length (by rw [List.length_map]; omega), List.map_append, ← h1]
  simp
theorem zcl_le (h : k < Z.length) : 0 + k * 4 + (((Fr4.of q).tr false).map AV.t).length ≤ (zcl Z rest).length := by
  rw [zcl_len]
  show 0 + k * 4 + 4 ≤ _
  omega
theorem zcl_new (h : r4.length = 4) : putA (zcl Z (r4 ++ rest)) (0 + Z.length * 4) ((a.tr false).map AV.t) = zcl Z (a.tr false ++ rest) := by
  have hl := zfl_len Z
  rw [Nat.zero_add]
  unfold putA
  have e : Z.length * 4 + ((a.tr false).map AV.t).length = Z.length * 4 + 4 := rfl
  rw [e]
  unfold zcl zT
  rw [← List.map_take, ← List.map_drop, List.take_left' hl, ← List.append_assoc, List.drop_left' (by rw [List.length_append]; omega)]
  simp
theorem zcl_nle (h : r4.length = 4) : 0 + Z.length * 4 + ((a.tr false).map AV.t).length ≤ (zcl Z (r4 ++ rest)).length := by
  rw [zcl_len, List.length_append]
  show 0 + Z.length * 4 + 4 ≤ _
  omega
theorem zcl_snoc (y : Int) (q : Rat) : zcl Z ((Fr4.of q).tr false ++ rest) = zcl (Z ++ [(y, q)]) rest := by simp [zcl, zT]
theorem zcl_snocA (y : Int) (h : Fr4.of q = a) : zcl Z (a.tr false ++ rest) = zcl (Z ++ [(y, q)]) rest := by subst h; exact zcl_snoc y q
end
inductive Pts (L : Nat) : List (Int × Rat) → List (Int × Rat) → List (Int × Rat) → Prop
  | nil {Z : List (Int × Rat)} : Pts L Z [] Z
  | cons {Z us Z' : List (Int × Rat)} {u : Int × Rat} {k : Nat} {r : Rat} (hk : Z[k]? = some (u.1, r)) (hr : 0 < r) (hf : ∀ j, j < k → ¬ ((nthV Z j).1 = u.1 ∧ 0 < (nthV Z j).2)) (hu : 0 < u.2) (hle : u.2 ≤ r) (hs : Sz L (r - u.2)) (h : Pts L (Z.set k (u.1, r - u.2)) us Z') : Pts L Z (u :: us) Z'
def Asc (L : List (Int × Rat)) : Prop := (L.map Prod.fst).Pairwise (· < ·)
def posZ (Z : List (Int × Rat)) : List (Int × Rat) := Z.filter fun x => decide (0 < x.2)
inductive UseOf : List (Int × Rat) → List (Int × Rat) → List (Int × Rat) → Prop
  | nil : UseOf [] [] []
  | skip {x : Int × Rat} {vs us vs' : List (Int × Rat)} (h : UseOf vs us vs') : UseOf (x :: vs) us (x :: vs')
  | part {y : Int} {q m : Rat} {vs us vs' : List (Int × Rat)} (h0 : 0 < m) (h1 : m < q) (h : UseOf vs us vs') : UseOf ((y, q) :: vs) ((y, m) :: us) ((y, q - m) :: vs')
  | all {y : Int} {q : Rat} {vs us vs' : List (Int × Rat)} (h0 : 0 < q) (h : UseOf vs us vs') : UseOf ((y, q) :: vs) ((y, q) :: us) vs'
section
variable {Z vs us vs' : List (Int × Rat)} {L : Nat}
theorem UseOf.subU (h : UseOf vs us vs') : (us.map Prod.fst).Sublist (vs.map Prod.fst) := by
  induction h with
  | nil => exact List.Sublist.slnil
  | skip _ ih => exact ih.cons _
  | part _ _ _ ih => exact ih.cons_cons _
  | all _ _ ih => exact ih.cons_cons _
theorem UseOf.subV (h : UseOf vs us vs') : (vs'.map Prod.fst).Sublist (vs.map Prod.fst) := by
  induction h with
  | nil => exact List.Sublist.slnil
  | skip _ ih => exact ih.cons_cons _
  | part _ _ _ ih => exact ih.cons_cons _
  | all _ _ ih => exact ih.cons _
theorem Asc.useU (h : Asc vs) (hu : UseOf vs us vs') : Asc us := List.Pairwise.sublist hu.subU h
theorem Asc.useV (h : Asc vs) (hu : UseOf vs us vs') : Asc vs' := List.Pairwise.sublist hu.subV h
theorem pos_split {y : Int} {q : Rat} (r : Rat) : ∀ {Z A B : List (Int × Rat)}, posZ Z = A ++ (y, q) :: B → ∃ k, Z[k]? = some (y, q) ∧ 0 < q ∧ (∀ j, j < k → 0 < (nthV Z j).2 → nthV Z j ∈ A) ∧ posZ (Z.set k (y, r)) = A ++ ((if 0 < r then [(y, r)] else []) ++ B)
  | [], A, B, h => by simp [posZ] at h
  | z :: Z, A, B, h => by
    by_cases hz : 0 < z.2
    · have e : posZ (z :: Z) = z :: posZ Z := by simp [posZ, hz]
      rw [e] at h
      cases A with
      | nil =>
        rw [List.nil_append, List.cons.injEq] at h
        obtain ⟨rfl, h⟩ := h
        refine ⟨0, rfl, hz, fun j hj => absurd hj (Nat.not_lt_zero j), ?_⟩
        rw [List.set_cons_zero, List.nil_append, ← h]
        by_cases hr : 0 < r <;> simp [posZ, hr]
      | cons a A =>
        rw [List.cons_append, List.cons.injEq] at h
        obtain ⟨rfl, h⟩ := h
        obtain ⟨k, h1, h2, h3, h4⟩ := pos_split r h
        refine ⟨k + 1, h1, h2, fun j hj hp => ?_, ?_⟩
        · cases j with
          | zero => exact List.mem_cons_self
          | succ j => exact List.mem_cons_of_mem _ (h3 j (by omega) hp)
        · rw [List.set_cons_succ]
          have e : posZ (z :: Z.set k (y, r)) = z :: posZ (Z.set k (y, r)) := by simp [posZ, hz]
          rw [e, h4]
          rfl
    · have e : posZ (z :: Z) = posZ Z := by simp [posZ, hz]
      rw [e] at h
      obtain ⟨k, h1, h2, h3, h4⟩ := pos_split r h
      refine ⟨k + 1, h1, h2, fun j hj hp => ?_, ?_⟩
      · cases j with
        | zero => exact absurd hp hz
        | succ j => exact h3 j (by omega) hp
      · rw [List.set_cons_succ]
        have e : posZ (z :: Z.set k (y, r)) = posZ (Z.set k (y, r)) := by simp [posZ, hz]
        rw [e, h4]
theorem fst_set {k : Nat} {y : Int} {q r : Rat} (h : Z[k]? = some (y, q)) : (Z.set k (y, r)).map Prod.fst = Z.map Prod.fst := by
  rw [List.map_set]
  refine List.ext_getElem? fun i => ?_
  rw [List.getElem?_set]
  split
  · rename_i e
    subst e
    have := (List.getElem?_eq_some_iff.1 h).1
    have e2 := (List.getElem?_eq_some_iff.1 h).2
    simp [this, e2]
  · rfl
theorem parts_of (h0 : Sz L 0) (hU : UseOf vs us vs') : ∀ {Z A : List (Int × Rat)}, posZ Z = A ++ vs → Asc (A ++ vs) → (∀ z ∈ Z, 0 ≤ z.2) → (∀ x ∈ vs', Sz L x.2) → ∃ Z', Pts L Z us Z' ∧ posZ Z' = A ++ vs' ∧ Z'.map Prod.fst = Z.map Prod.fst ∧ ∀ z ∈ Z', 0 ≤ z.2 := by
  have before : ∀ {A B : List (Int × Rat)} {x : Int × Rat}, Asc (A ++ x :: B) → ∀ a ∈ A, a.1 < x.1 := by
    intro A B x h a ha
    unfold Asc at h
    rw [List.map_append, List.pairwise_append] at h
    exact h.2.2 a.1 (List.mem_map.2 ⟨a, ha, rfl⟩) x.1 (by simp)
  have stay : ∀ {Z : List (Int × Rat)} {k : Nat} {y : Int} {r : Rat}, (∀ z ∈ Z, 0 ≤ z.2) → 0 ≤ r → ∀ z ∈ Z.set k (y, r), 0 ≤ z.2 := by
    intro Z k y r h hr z hz
    rcases List.mem_or_eq_of_mem_set hz with hz | hz
    · exact h z hz
    · subst hz; exact hr
  induction hU with
  | nil => exact fun {Z A} h _ hp _ => ⟨Z, .nil, h, rfl, hp⟩
  | @skip x vs us vs' _ ih =>
    intro Z A h ha hp hs
    have e : ∀ l : List (Int × Rat), A ++ x :: l = (A ++ [x]) ++ l := fun l => by simp
    obtain ⟨Z', h1, h2, h3, h4⟩ := ih (Z := Z) (A := A ++ [x]) (by rw [h, e]) (by rwa [e] at ha) hp (fun z hz => hs z (List.mem_cons_of_mem _ hz))
    exact ⟨Z', h1, h2.trans (e _).symm, h3, h4⟩
  | @part y q m vs us vs' hm hq _ ih =>
    intro Z A h ha hp hs
    obtain ⟨k, h1, h2, h3, h4⟩ := pos_split (q - m) h
    have hr : 0 < q - m := by grind
    rw [if_pos hr] at h4
    have e : ∀ l : List (Int × Rat), A ++ ([(y, q - m)] ++ l) = (A ++ [(y, q - m)]) ++ l := fun l => by simp
    obtain ⟨Z', g1, g2, g3, g4⟩ := ih (Z := Z.set k (y, q - m)) (A := A ++ [(y, q - m)]) (by rw [h4, e]) (by unfold Asc at ha ⊢; simpa using ha) (stay hp (by grind)) (fun z hz => hs z (List.mem_cons_of_mem _ hz))
    exact ⟨Z', .cons (u := (y, m)) h1 h2 (fun j hj hn => by have := before ha _ (h3 j hj hn.2); rw [hn.1] at this; exact absurd this (Int.lt_irrefl _)) hm (by dsimp only; grind) (hs _ List.mem_cons_self) g1, by rw [g2, ← e]; rfl, by rw [g3, fst_set h1], g4⟩
  | @all y q _ us vs' hq _ ih =>
    intro Z A h ha hp hs
    obtain ⟨k, h1, h2, h3, h4⟩ := pos_split (q - q) h
    have hr : q - q = 0 := by grind
    rw [hr, if_neg (by grind)] at h4
    obtain ⟨Z', g1, g2, g3, g4⟩ := ih (Z := Z.set k (y, 0)) (A := A) (by rw [h4]; rfl) (by
      unfold Asc at ha ⊢
      rw [List.map_append, List.map_cons] at ha
      rw [List.map_append]
      exact List.Pairwise.sublist ((List.Sublist.refl _).append (List.sublist_cons_self _ _)) ha) (stay hp (by grind)) hs
    refine ⟨Z', .cons (u := (y, q)) h1 h2 (fun j hj hn => by have := before ha _ (h3 j hj hn.2); rw [hn.1] at this; exact absurd this (Int.lt_irrefl _)) hq (by dsimp only; grind) (by dsimp only; rw [hr]; exact h0) (by dsimp only; rw [hr]; exact g1), g2, by rw [g3, fst_set h1], g4⟩
theorem useOf_all : ∀ {vs : List (Int × Rat)}, (∀ x ∈ vs, 0 < x.2) → UseOf vs vs []
  | [], _ => .nil
  | x :: vs, h => .all (h x List.mem_cons_self) (useOf_all fun z hz => h z (List.mem_cons_of_mem _ hz))
theorem useOf_filter (p : Int × Rat → Bool) : ∀ {vs : List (Int × Rat)}, (∀ x ∈ vs, 0 < x.2) → UseOf vs (vs.filter fun x => !p x) (vs.filter p)
  | [], _ => .nil
  | x :: vs, h => by
    have ih := useOf_filter p (vs := vs) fun z hz => h z (List.mem_cons_of_mem _ hz)
    cases hx : p x
    · simpa [List.filter_cons, hx] using UseOf.all (y := x.1) (h x List.mem_cons_self) ih
    · simpa [List.filter_cons, hx] using ih.skip (x := x)
end
theorem qsum_cons (a : Rat) (l : List Rat) : qsum (a :: l) = a + qsum l := by
  have key : ∀ (l : List Rat) (a : Rat), l.foldl (· + ·) a = a + l.foldl (· + ·) 0 := by
    intro l
    induction l with
    | nil => intro a; show a = a + 0; grind
    | cons b l ih =>
      intro a
      rw [List.foldl_cons, List.foldl_cons, ih (a + b), ih (0 + b)]
      grind
  unfold qsum
  rw [List.foldl_cons, key]
  grind
section
variable {fr : Int} {vs : List (Int × Rat)} {r : Rat} {x : Int × Rat}
theorem use_shift (fr : Int) : ∀ (vs a b : List (Int × Rat)) (r : Rat), vs.foldl (useS fr) (a, b, r) = (a ++ (useL fr vs r).1, b ++ (useL fr vs r).2.1, (useL fr vs r).2.2)
  | [], a, b, r => by simp [useL]
  | x :: vs, a, b, r => by
    unfold useL
    rw [List.foldl_cons, List.foldl_cons]
    by_cases hc : fr ≤ x.1 ∧ 0 < r.num.sign
    · rw [show useS fr (a, b, r) x = _ from useS_yes (s := (a, b, r)) (y := x.1) (q := x.2) hc.1 hc.2, show useS fr ([], [], r) x = _ from useS_yes (s := ([], [], r)) (y := x.1) (q := x.2) hc.1 hc.2]
      rw [use_shift fr vs _ _ _, use_shift fr vs _ _ _]
      simp
    · rw [useS_no (s := (a, b, r)) hc, useS_no (s := ([], [], r)) hc, use_shift fr vs _ _ _, use_shift fr vs _ _ _]
      simp
theorem useL_yes (h1 : fr ≤ x.1) (h2 : 0 < r) : useL fr (x :: vs) r = ((x.1, x.2 - qmin x.2 [r]) :: (useL fr vs (r - qmin x.2 [r])).1, (x.1, qmin x.2 [r]) :: (useL fr vs (r - qmin x.2 [r])).2.1, (useL fr vs (r - qmin x.2 [r])).2.2) := by
  have : useL fr (x :: vs) r = vs.foldl (useS fr) (useS fr ([], [], r) x) := rfl
  rw [this, show useS fr ([], [], r) x = _ from useS_yes (s := ([], [], r)) (y := x.1) (q := x.2) h1 ((sgn_pos r).2 h2), use_shift]
  rfl
theorem useL_no (h : ¬ (fr ≤ x.1 ∧ 0 < r)) : useL fr (x :: vs) r = (x :: (useL fr vs r).1, (useL fr vs r).2.1, (useL fr vs r).2.2) := by
  have : useL fr (x :: vs) r = vs.foldl (useS fr) (useS fr ([], [], r) x) := rfl
  rw [this, useS_no (s := ([], [], r)) (by rwa [sgn_pos]), use_shift]
  rfl
structure UseP (fr : Int) (r : Rat) (vs us vs' : List (Int × Rat)) (r' : Rat) : Prop where
  use : UseOf vs us vs'
  yrs : ∀ u ∈ us, fr ≤ u.1
  sum : r = qsum (us.map Prod.snd) + r'
  low : 0 ≤ r → 0 ≤ r'
  non : r ≤ 0 → us = []
  full : ∀ z ∈ vs', fr ≤ z.1 → r' ≤ 0 ∧ ∀ u ∈ us, u.1 ≤ z.1
theorem Asc.cons (h : Asc (x :: vs)) : Asc vs ∧ ∀ y ∈ vs.map Prod.fst, x.1 < y := by
  unfold Asc at h
  rw [List.map_cons, List.pairwise_cons] at h
  exact ⟨h.2, h.1⟩
theorem useP (fr : Int) : ∀ (vs : List (Int × Rat)) (r : Rat), (∀ x ∈ vs, 0 < x.2) → Asc vs → UseP fr r vs (useL fr vs r).2.1 ((useL fr vs r).1.filter fun x => !dl0 x.1 x.2) (useL fr vs r).2.2
  | [], r, _, _ => ⟨.nil, fun _ h => (by cases h), by show r = 0 + r; grind, fun h => h, fun _ => rfl, fun _ h => (by cases h)⟩
  | (y, q) :: vs, r, hp, ha => by
    have hq : 0 < q := hp (y, q) List.mem_cons_self
    have hp' := fun z hz => hp z (List.mem_cons_of_mem _ hz)
    obtain ⟨ha1, ha2⟩ := ha.cons
    by_cases hc : fr ≤ y ∧ 0 < r
    · have ih := useP fr vs (r - qmin q [r]) hp' ha1
      rw [useL_yes (x := (y, q)) hc.1 hc.2]
      generalize useL fr vs (r - qmin q [r]) = o at ih ⊢
      rw [qmin_two] at ih ⊢
      dsimp only at ih ⊢
      have later : ∀ z ∈ (o.1.filter fun x => !dl0 x.1 x.2), y < z.1 := fun z hz => ha2 _ (ih.use.subV.subset (List.mem_map.2 ⟨z, hz, rfl⟩))
      by_cases hm : r < q
      · rw [if_pos hm] at ih ⊢
        have h0 : r - r = 0 := by grind
        rw [h0] at ih
        have hu := ih.non (by grind)
        have hs := ih.sum
        rw [hu] at hs ih ⊢
        have hs0 : o.2.2 = 0 := by
          have : qsum (([] : List (Int × Rat)).map Prod.snd) = 0 := rfl
          grind
        have hk : dl0 y (q - r) = false := decide_eq_false (by rw [sgn_zero]; grind)
        rw [List.filter_cons, if_pos (by simp [hk])]
        refine ⟨.part hc.2 hm ih.use, fun u h => ?_, ?_, fun _ => by grind, fun h => by grind, fun z hz hzf => ⟨by grind, fun u h => ?_⟩⟩
        · rw [List.mem_singleton] at h; subst h; exact hc.1
        · rw [hs0, List.map_cons, qsum_cons]
          show r = r + 0 + 0
          grind
        · rw [List.mem_singleton] at h
          subst h
          rcases List.mem_cons.1 hz with hz | hz
          · subst hz; exact Int.le_refl _
          · exact Int.le_of_lt (later z hz)
      · rw [if_neg hm] at ih ⊢
        have hk : dl0 y (q - q) = true := decide_eq_true (by rw [sgn_zero]; grind)
        rw [List.filter_cons, if_neg (by simp [hk])]
        have hs := ih.sum
        refine ⟨.all hq ih.use, fun u h => ?_, ?_, fun _ => ih.low (by grind), fun h => by grind, fun z hz hzf => ⟨(ih.full z hz hzf).1, fun u h => ?_⟩⟩
        · rcases List.mem_cons.1 h with h | h
          · subst h; exact hc.1
          · exact ih.yrs u h
        · rw [List.map_cons, qsum_cons]
          grind
        · rcases List.mem_cons.1 h with h | h
          · subst h; exact Int.le_of_lt (later z hz)
          · exact (ih.full z hz hzf).2 u h
    · have ih := useP fr vs r hp' ha1
      rw [useL_no (x := (y, q)) hc]
      generalize useL fr vs r = o at ih ⊢
      dsimp only at ih ⊢
      have hk : dl0 y q = false := decide_eq_false (by rw [sgn_zero]; grind)
      rw [List.filter_cons, if_pos (by simp [hk])]
      refine ⟨.skip ih.use, ih.yrs, ih.sum, ih.low, ih.non, fun z hz hzf => ?_⟩
      rcases List.mem_cons.1 hz with hz | hz
      · subst hz
        have hr : r ≤ 0 := by
          by_cases h : 0 < r
          · exact absurd ⟨hzf, h⟩ hc
          · grind
        have hu := ih.non hr
        have hs := ih.sum
        rw [hu] at hs
        have h0 : qsum (([] : List (Int × Rat)).map Prod.snd) = 0 := rfl
        exact ⟨by grind, fun u h => by rw [hu] at h; cases h⟩
      · exact ih.full z hz hzf
theorem UseP.cap {us vs' : List (Int × Rat)} {r' : Rat} (h : UseP fr r vs us vs' r') : qsum (us.map Prod.snd) ≤ qmax0 [r, ((0 : Int) : Rat)] := by
  have e : qmax0 [r, ((0 : Int) : Rat)] = if r < ((0 : Int) : Rat) then ((0 : Int) : Rat) else r := rfl
  rw [e]
  have h1 := h.sum
  have h2 := h.low
  have h3 := h.non
  have h0 : qsum (([] : List (Int × Rat)).map Prod.snd) = 0 := rfl
  have h5 : ((0 : Int) : Rat) = 0 := rfl
  rw [h5]
  split
  · rw [h3 (by grind), h0]
    grind
  · have := h2 (by grind)
    grind
end
section
variable {Z Z' us : List (Int × Rat)} {L k : Nat} {u : Int × Rat}
theorem Pts.inv (h : Pts L Z (u :: us) Z') : ∃ k, k < Z.length ∧ (nthV Z k).1 = u.1 ∧ 0 < (nthV Z k).2 ∧ (∀ j, j < k → ¬ ((nthV Z j).1 = u.1 ∧ 0 < (nthV Z j).2)) ∧ 0 < u.2 ∧ u.2 ≤ (nthV Z k).2 ∧ Sz L ((nthV Z k).2 - u.2) ∧ Pts L (Z.set k (u.1, (nthV Z k).2 - u.2)) us Z' := by
  cases h with
  | @cons _ _ _ _ k r hk hr hf hu hle hs h =>
    have hl := (List.getElem?_eq_some_iff.1 hk).1
    have e : nthV Z k = (u.1, r) := by simp [nthV, hk]
    refine ⟨k, hl, ?_, ?_, hf, hu, ?_, ?_, ?_⟩ <;> rw [e] <;> assumption
theorem Pts.inv0 (h : Pts L Z [] Z') : Z = Z' := by
  cases h
  rfl
theorem nthI_fst (h : k < Z.length) : nthI (Z.map Prod.fst) k = (nthV Z k).1 := by simp [nthI, nthV, h]
theorem asc_nth (h : Asc us) (hk : k + 1 < us.length) : (nthV us k).1 < (nthV us (k + 1)).1 := by
  unfold Asc at h
  rw [List.pairwise_iff_getElem] at h
  have := h k (k + 1) (by simp; omega) (by simpa using hk) (by omega)
  have h1 : k < us.length := by omega
  simpa [nthV, h1, hk] using this
theorem sz_set {q : Rat} (h : ∀ z ∈ Z, Sz L z.2) (hq : Sz L q) (y : Int) : ∀ z ∈ Z.set k (y, q), Sz L z.2 := by
  intro z hz
  rcases List.mem_or_eq_of_mem_set hz with hz | hz
  · exact h z hz
  · subst hz; exact hq
theorem fst_put {y : Int} {q : Rat} (hk : k < Z.length) (h : (nthV Z k).1 = y) : (Z.set k (y, q)).map Prod.fst = Z.map Prod.fst :=
  fst_set (q := (nthV Z k).2) (by rw [List.getElem?_eq_getElem hk]; subst h; simp [nthV, hk])
end
end Go.Proofs.YtogaallfhifngaaGreat
namespace Go.Proofs.YtogaallfhifngaaGreat
open Go Go.RowKit
section
variable {x : Cx} {g : Nat → FV} {ob ob' : List (Option Ob)} {Q : Post} {ops : Array Oper} {rest : List Oper} {d : Nat} {ty : TypeId} {pos : String} {af : Array Edge} {gd : Option (Nat × Bool)} {T : List (Nat × TI)}
theorem os_mkz {t e by_ k m z : Nat} {zz : Value} {ti : Bool} {ts0 : Nat} {z0 : List Value} {k1 k2 : IntKind} {a b : Operand} (hT : TTok x.P T) (ht : ttGet T t = some ⟨ti, ts0, z0, .sl e z by_ zz⟩) (ha : lk x.n g a = .one (tv (.int k1 (m : Int)))) (hb : lk x.n g b = .one (tv (.int k2 (m : Int)))) (hby : by_ ≤ 1024) (hm : m ≤ 137438953472) (hk : keyOk ob k = true) :
    OS x ⟨some d, .makeSlice t a b, ty, pos, af, gd⟩ g ob [] (fun g' ob2 => g' = upF g d (.one (.sl k 0 m)) ∧ ob2 = ob ++ [some ⟨e, z, (zRow zz.cells.toList m).map tv⟩]) := by
  obtain ⟨_, hel⟩ := (tt_get hT ht).2.2.2
  obtain ⟨hu, i, hi, hz, hsize, hby', hzs, hsz⟩ := hel
  subst hby'
  have hk := Nat.eq_of_beq_eq_true hk
  subst hk
  intro cs ts W hR K Q' kk'
  have e1 := hR.lk a
  rw [ha] at e1
  have e1 := tv_of e1
  have e2 := hR.lk b
  rw [hb] at e2
  have e2 := tv_of e2
  have hmul : i.bytes * m ≤ 1024 * 137438953472 := Nat.mul_le_mul hby hm
  obtain ⟨w', hrun, h1, h2⟩ := run_make_full (P := x.P) W 0 t e i zz z hu hi hz hsize k1 k2 m (by omega) (by unfold maxLen; omega) (Nat.zero_le _)
  have hrun' : (execOp (Act.eval ⟨ts, []⟩) ⟨some d, .makeSlice t a b, ty, pos, af, gd⟩).run x.P W = .ok (.value (.slice (some ⟨W.heap.size, 0, none⟩) m m)) w' := by
    simp [execOp, e1, e2, hrun]
  have hzz : zz.cells.toList.length = z := by rw [Array.length_toList]; exact hzs
  have hz0 : 0 < z := hsz
  have e0 : (madeCells zz.cells (m * z)).toList = zRow zz.cells.toList m := by
    unfold madeCells
    refine List.ext_getElem? fun j => ?_
    by_cases hj : j < m * z
    · rw [Array.toList_map, List.getElem?_map, Array.toList_range, List.getElem?_range hj, zRow_get (by rw [hzz]; exact hj), hzz]
      have hm : j % z < z := Nat.mod_lt _ hz0
      have hsz2 : zz.cells.size = z := by rw [← hzz, Array.length_toList]
      simp only [Option.map_some, hsz2]
      rw [getElem!_pos zz.cells (j % z) (by omega)]
      simp [hsz2, hm]
    · rw [List.getElem?_eq_none (by simp; omega), List.getElem?_eq_none (by rw [zRow_len, hzz]; omega)]
  rw [e0] at h1
  generalize hus : zRow zz.cells.toList m = us at h1 kk'
  have hbl : Below W.heap.size W w' := (Below.refl _ _).grown h2 (Nat.le_refl _) (fun k hk => by cases hk)
  rcases h1.2 with ⟨hh, _⟩ | ⟨g1, cap, cur, hv, _, hg, hnc, hcm, hcs, htake⟩
  · injection hh with h3; cases h3
  · injection hv with q1 q2 q3
    injection q1 with q1
    injection q1 with q1
    subst q1 q3
    have hlt : W.heap.size < w'.heap.size := (Array.getElem?_eq_some_iff.1 hg).1
    have hcur : cur.toList = us := by
      have h9 : cur.toList.length = m * z := by simpa using hcs
      rw [← htake, List.take_of_length_le (by omega)]
    have hS : ∀ b ∈ (resC (some ⟨e, z, us.map tv⟩) ⟨some W.heap.size, m, us.map .w⟩).S, W.heap.size ≤ b ∧ b < w'.heap.size := by
      intro b hb
      simp [resC, fpL_w] at hb
      subst hb
      exact ⟨Nat.le_refl _, hlt⟩
    have hown : ∀ b ∈ ownd (ob ++ [some ⟨e, z, us.map tv⟩]) (cs ++ [⟨some W.heap.size, m, us.map .w⟩]), b ∈ ownd ob cs ∨ W.heap.size ≤ b := by
      intro b hb
      unfold ownd ress at hb
      rw [List.zipWith_append hR.len, List.flatMap_append, List.mem_append] at hb
      rcases hb with hb | hb
      · exact .inl hb
      · exact .inr (hS b (by simpa using hb)).1
    have m1 : RelC x g (ob ++ [some ⟨e, z, us.map tv⟩]) (cs ++ [⟨some W.heap.size, m, us.map .w⟩]) ts w' := by
      refine hR.push hbl _ _ ?_ hS (by simp [resC, fpL_w]) ?_ (fun e => by cases e)
      · have hul : us.length = m * z := by rw [← hus, zRow_len, hzz]
        simp only [resC, val_w]
        refine ⟨⟨[], ?_, by simp [hul]⟩, okL_w _, hcm⟩
        rw [List.append_nil, hg, ← hcur]
      · exact CRL_of (ARL_tv _) (rdL_tv _)
    refine wp_of_run hrun' (kk' _ _ _ _ _ ⟨rfl, rfl⟩ (m1.put d ?_) ((Aft.mk .app (fun k _ hk => co_app hk) hbl.size (fun b hlt _ => hbl.block b hlt) hown (fun _ _ => rfl) : Aft [] (some d) ob cs ts W _ _ ts w').then_put _))
    refine one_of ?_
    simp only [AR]
    rw [hR.len, co_last]
    exact ⟨by simp [hR.len], 0, m, rfl, Nat.le_refl _, hcm, fun _ => rfl, fun _ => rfl⟩
theorem mkz {t e by_ m z : Nat} {zz : Value} {ti : Bool} {ts0 : Nat} {z0 : List Value} {k1 k2 : IntKind} {a b : Operand} (key : Nat) (hm : m ≤ 137438953472) {l : List AV} (hl : (zRow zz.cells.toList m).map tv = l) (k : WL x ops rest (upF g d (.one (.sl key 0 m))) (ob ++ [some ⟨e, z, l⟩]) Q) (hT : TTok x.P ttab := by exact ttok) (hw : wantA ops x.n g gd = some true := by rfl)
    (ht : ttGet ttab t = some ⟨ti, ts0, z0, .sl e z by_ zz⟩ := by rfl) (ha : lk x.n g a = .one (tv (.int k1 (m : Int))) := by rfl) (hb : lk x.n g b = .one (tv (.int k2 (m : Int))) := by rfl) (hby : by_ ≤ 1024 := by decide) (hk : keyOk ob key = true := by rfl) : WL x ops (⟨some d, .makeSlice t a b, ty, pos, af, gd⟩ :: rest) g ob Q := by
  subst hl
  exact w_os (os_mkz hT ht ha hb hby hm hk) hw (by rintro _ _ ⟨rfl, rfl⟩; exact k)
theorem key_slR {k t z n : Nat} (t' : Nat) {l l' : List Tr} (ho : obAt ob k = some ⟨t, z, l.map .t⟩) (hz : l.length = n * z) (hl : rdTL l = l') : FzKey x g ob k ⟨t, z, l.map .t⟩ (.sl k 0 n) (.s false t' z n l') := fun cs ts W hR m2 m3 u e2 => by
  have h := key_sl t' ho hz cs ts W hR m2 m3 u e2
  simp only [AR] at h ⊢
  have h9 := FR_rdT _ _ h
  rw [rdT, hl] at h9
  exact h9
theorem fzR {i k t z n : Nat} (t' : Nat) {l l' : List Tr} {fv fv' : FV} (hi : Nat.blt i x.n = true) (hg : g i = fv) (ho : obAt ob k = some ⟨t, z, l.map .t⟩) (hz : l.length = n * z) (hl : rdTL l = l') (hf : FzF (.sl k 0 n) (.s false t' z n l') fv fv') : Sub x g ob (upF g i fv') (ob.set k none) := fz_core hi hg ho hf (key_slR t' ho hz hl)
variable {late : Nat → Bool} {K fr : List Nat} {on : Bool} {fuel : Nat} {listed : Array Bool}
theorem dfzR {i k t z n : Nat} (t' : Nat) {l l' : List Tr} {fv fv' : FV} (hi : Nat.blt i x.n = true) (hg : g i = fv) (ho : obAt ob k = some ⟨t, z, l.map .t⟩) (hz : l.length = n * z) (hl : rdTL l = l') (hf : FzF (.sl k 0 n) (.s false t' z n l') fv fv') (hfr : fr.any (Nat.beq i) = true) (hK : K.contains k = false) (kk : WD x ops Q late K fr on fuel listed (upF g i fv') (ob.set k none)) : WD x ops Q late K fr on fuel listed g ob := dfzK hi hg ho hf (key_slR t' ho hz hl) hfr hK kk
end
def z4 : List Tr := [.v (.bool false), .v (.slice none 0 0), .v (.bool false), .v (.slice none 0 0)]
def zZ : Nat → List Tr
  | 0 => []
  | m + 1 => z4 ++ zZ m
theorem zcl_zero (m : Nat) : (zRow [.bool false, .slice none 0 0, .bool false, .slice none 0 0] m).map tv = zcl [] (zZ m) := by
  show _ = (zZ m).map AV.t
  induction m with
  | zero => rfl
  | succ m ih =>
    show (([.bool false, .slice none 0 0, .bool false, .slice none 0 0] : List Value) ++ zRow _ m).map tv = (z4 ++ zZ m).map AV.t
    rw [List.map_append, ih, List.map_append]
    rfl
structure WhOk (Z vs : List (Int × Rat)) (last : Int) (put : Bool) : Prop where
  pos : posZ Z = vs
  low : ∀ z ∈ Z, 0 ≤ z.2
  ok : StOk vs Z.length (100 * Z.length)
  asc : Asc vs
  yrs : ∀ x ∈ vs, -9223372036854775808 ≤ x.1
  last : ∀ x ∈ vs, put = true ∧ x.1 ≤ last
theorem sz0 {L : Nat} (h : 2 ≤ L) : Sz L (0 : Rat) := (int_sz (z := 0) (by omega) (by omega)).mono h
section
variable {Z vs us vs' : List (Int × Rat)} {last y : Int} {put rt : Bool} {p : Rat}
theorem WhOk.nil : WhOk [] [] 0 false := ⟨rfl, fun _ h => (by cases h), StOk.nil, List.Pairwise.nil, fun _ h => (by cases h), fun _ h => (by cases h)⟩
theorem WhOk.sz (h : WhOk Z vs last put) (hi : Z.length ≤ 1000) : ∀ z ∈ Z, Sz 17179869184 z.2 := by
  intro z hz
  have h0 := h.low z hz
  by_cases hp : 0 < z.2
  · have : z ∈ vs := by rw [← h.pos]; exact List.mem_filter.2 ⟨hz, decide_eq_true hp⟩
    exact h.ok.sz (by omega) z this
  · have e : z.2 = 0 := by grind
    rw [e]
    exact sz0 (by omega)
theorem pos_app (a b : List (Int × Rat)) : posZ (a ++ b) = posZ a ++ posZ b := by simp [posZ]
theorem WhOk.used (h : WhOk Z vs last put) (hU : UseOf vs us vs') (hok : StOk vs' Z.length (100 * Z.length + 100)) (hi : Z.length ≤ 1000) : ∃ Z', Pts 17179869184 Z us Z' ∧ Z'.map Prod.fst = Z.map Prod.fst ∧ Z'.length = Z.length ∧ WhOk (Z' ++ [(0, ((0 : Int) : Rat))]) vs' last put := by
  obtain ⟨Z', h1, h2, h3, h4⟩ := parts_of (L := 17179869184) (Z := Z) (A := []) (sz0 (by omega)) hU h.pos (by simpa using h.asc) h.low (hok.sz (by omega))
  have hl : Z'.length = Z.length := by simpa using congrArg List.length h3
  have sub : ∀ x ∈ vs', x.1 ∈ vs.map Prod.fst := fun x hx => hU.subV.subset (List.mem_map.2 ⟨x, hx, rfl⟩)
  refine ⟨Z', h1, h3, hl, ⟨?_, fun z hz => ?_, ?_, h.asc.useV hU, fun x hx => ?_, fun x hx => ?_⟩⟩
  · rw [pos_app, h2]
    simp [posZ]
  · rcases List.mem_append.1 hz with hz | hz
    · exact h4 z hz
    · rw [List.mem_singleton] at hz
      subst hz
      exact Rat.le_refl
  · rw [List.length_append, hl]
    exact hok.mono (by simp) (by simp; omega)
  · obtain ⟨z, hz, e⟩ := List.mem_map.1 (sub x hx)
    rw [← e]
    exact h.yrs z hz
  · obtain ⟨z, hz, e⟩ := List.mem_map.1 (sub x hx)
    rw [← e]
    exact h.last z hz
theorem WhOk.skip (h : WhOk Z vs last put) : WhOk (Z ++ [(0, ((0 : Int) : Rat))]) vs last put := by
  refine ⟨?_, fun z hz => ?_, ?_, h.asc, h.yrs, h.last⟩
  · rw [pos_app, h.pos]
    simp [posZ]
  · rcases List.mem_append.1 hz with hz | hz
    · exact h.low z hz
    · rw [List.mem_singleton] at hz
      subst hz
      exact Rat.le_refl
  · rw [List.length_append]
    exact h.ok.mono (by simp) (by simp; omega)
theorem putE_ok (h : putE rt p y last put = 0) : rt = true ∧ 0 ≤ p ∧ (put = true → last < y) := by
  unfold putE at h
  cases rt with
  | false => simp at h
  | true =>
    simp only [Bool.not_true, Bool.false_eq_true, if_false] at h
    split at h
    · simp at h
    · rename_i h1
      split at h
      · simp at h
      · rename_i h2
        refine ⟨rfl, ?_, fun e => ?_⟩
        · simp only [decide_eq_true_eq] at h1
          have := lt_sgn p 0
          rw [show p - 0 = p by grind] at this
          exact Rat.not_lt.1 fun h9 => h1 (this.2 h9)
        · subst e
          simp at h2
          omega
theorem WhOk.putOk (h : WhOk Z vs last put) (he : putE rt p y last put = 0) (hw : wt p ≤ 7) (hy : -9223372036854775808 ≤ y) : WhOk (Z ++ [(y, p)]) (putL (putE rt p y last put) p y vs) (putY (putE rt p y last put) y last) (putP (putE rt p y last put) put) := by
  obtain ⟨_, hp, hl⟩ := putE_ok he
  rw [he]
  have e1 : putL 0 p y vs = if decide (0 < p.num.sign) then vs ++ [(y, p)] else vs := rfl
  have e2 : putY 0 y last = y := rfl
  have e3 : putP 0 put = true := rfl
  have hok := h.ok.put 0 y p
  rw [e2, e3]
  have late : ∀ x ∈ vs, x.1 < y := fun x hx => by
    obtain ⟨h1, h2⟩ := h.last x hx
    have := hl h1
    omega
  have hsub : ∀ x ∈ putL 0 p y vs, x ∈ vs ∨ x = (y, p) := by
    intro x hx
    rw [e1] at hx
    split at hx
    · rcases List.mem_append.1 hx with hx | hx
      · exact .inl hx
      · exact .inr (List.mem_singleton.1 hx)
    · exact .inl hx
  refine ⟨?_, fun z hz => ?_, ?_, ?_, fun x hx => ?_, fun x hx => ⟨rfl, ?_⟩⟩
  · rw [pos_app, h.pos, e1]
    by_cases h0 : 0 < p
    · have := (sgn_pos p).2 h0
      simp [posZ, h0, this]
    · have : ¬ 0 < p.num.sign := fun h9 => h0 ((sgn_pos p).1 h9)
      simp [posZ, h0, this]
  · rcases List.mem_append.1 hz with hz | hz
    · exact h.low z hz
    · rw [List.mem_singleton] at hz
      subst hz
      exact hp
  · rw [List.length_append]
    exact hok.mono (by simp) (by simp; omega)
  · rw [e1]
    split
    · unfold Asc
      rw [List.map_append, List.pairwise_append]
      refine ⟨h.asc, by simp, fun a ha b hb => ?_⟩
      obtain ⟨x, hx, rfl⟩ := List.mem_map.1 ha
      simp at hb
      subst hb
      exact late x hx
    · exact h.asc
  · rcases hsub x hx with hx | rfl
    · exact h.yrs x hx
    · exact hy
  · rcases hsub x hx with hx | rfl
    · exact Int.le_of_lt (late x hx)
    · exact Int.le_refl _
theorem putE_no (he : putE rt p y last put ≠ 0) : putL (putE rt p y last put) p y vs = vs ∧ putY (putE rt p y last put) y last = last ∧ putP (putE rt p y last put) put = put := by
  unfold putL putY putP
  rw [if_neg he, if_neg he, if_neg he]
  exact ⟨rfl, rfl, rfl⟩
theorem sgn_le {p q : Rat} (h : p ≤ q) : ¬ 0 < (p - q).num.sign := fun h9 => by
  have := (sgn_pos _).1 h9
  grind
end
theorem act_k {xs : List At} {k : Nat} (h : k < xs.length) : ((xs.flatMap atr).drop (k * 6 + 0)).take [Tr.v (.int .i64 (nthA xs k).1)].length = [Tr.v (.int .i64 (nthA xs k).1)] := flat_sub (f := atr) (o := 0) (m := 1) (fun _ => rfl) (nthA_get h) (by omega)
theorem act_y {xs : List At} {k : Nat} (h : k < xs.length) : ((xs.flatMap atr).drop (k * 6 + 1)).take [Tr.v (.int .i64 (nthA xs k).2.1)].length = [Tr.v (.int .i64 (nthA xs k).2.1)] := flat_sub (f := atr) (o := 1) (m := 1) (fun _ => rfl) (nthA_get h) (by omega)
theorem yrs_next {Z Z' : List (Int × Rat)} {m : Nat} {y : Int} {q : Rat} (h : Z'.map Prod.fst = Z.map Prod.fst) : Z.map Prod.fst ++ y :: List.replicate m 0 = (Z' ++ [(y, q)]).map Prod.fst ++ List.replicate m 0 := by simp [h]
theorem qmax_sz0 {p : Rat} (h : Sz 17179869184 p) : Sz 17179869184 (qmax0 [p, ((0 : Int) : Rat)]) := qmax0_sz (by simp) fun q hq => by
  rcases List.mem_cons.1 hq with rfl | hq
  · exact h
  · rw [List.mem_singleton] at hq
    subst hq
    exact sz0 (by omega)
end Go.Proofs.YtogaallfhifngaaGreat
namespace Go.Proofs.YtogaallfhifngaaGreat
open Go Go.RowKit
def LdOk (vs : List (Int × Rat)) (last : Int) (put : Bool) : Prop := Asc vs ∧ ∀ x ∈ vs, put = true ∧ x.1 ≤ last
section
variable {vs us vs' : List (Int × Rat)} {last y : Int} {put rt : Bool} {p : Rat}
theorem LdOk.nil : LdOk [] last put := ⟨List.Pairwise.nil, fun _ h => (by cases h)⟩
theorem LdOk.sub (h : LdOk vs last put) (hs : (vs'.map Prod.fst).Sublist (vs.map Prod.fst)) : LdOk vs' last put := by
  refine ⟨List.Pairwise.sublist hs h.1, fun x hx => ?_⟩
  obtain ⟨z, hz, e⟩ := List.mem_map.1 (hs.subset (List.mem_map.2 ⟨x, hx, rfl⟩))
  rw [← e]
  exact h.2 z hz
theorem LdOk.use (h : LdOk vs last put) (fr : Int) (p : Rat) (hp : ∀ x ∈ vs, 0 < x.2) : LdOk (refL fr vs p).1 last put := by
  rw [(useL_refL hp).1]
  exact h.sub (useP fr vs p hp h.1).use.subV
theorem LdOk.filter (h : LdOk vs last put) (d : Int × Rat → Bool) : LdOk (vs.filter d) last put := h.sub (List.filter_sublist.map _)
theorem LdOk.puts (h : LdOk vs last put) : LdOk (putL (putE rt p y last put) p y vs) (putY (putE rt p y last put) y last) (putP (putE rt p y last put) put) := by
  by_cases he : putE rt p y last put = 0
  · obtain ⟨_, hp, hl⟩ := putE_ok he
    rw [he]
    have e1 : putL 0 p y vs = if decide (0 < p.num.sign) then vs ++ [(y, p)] else vs := rfl
    have late : ∀ x ∈ vs, x.1 < y := fun x hx => by
      obtain ⟨h1, h2⟩ := h.2 x hx
      have := hl h1
      omega
    show LdOk (putL 0 p y vs) y true
    rw [e1]
    split
    · refine ⟨?_, fun x hx => ⟨rfl, ?_⟩⟩
      · unfold Asc
        rw [List.map_append, List.pairwise_append]
        refine ⟨h.1, by simp, fun a ha b hb => ?_⟩
        obtain ⟨x, hx, rfl⟩ := List.mem_map.1 ha
        simp at hb
        subst hb
        exact late x hx
      · rcases List.mem_append.1 hx with hx | hx
        · exact Int.le_of_lt (late x hx)
        · rw [List.mem_singleton] at hx
          subst hx
          exact Int.le_refl _
    · exact ⟨h.1, fun x hx => ⟨rfl, Int.le_of_lt (late x hx)⟩⟩
  · obtain ⟨e1, e2, e3⟩ := putE_no (vs := vs) he
    rw [e1, e2, e3]
    exact h
theorem putE_lr {lastr : Int} (h : put = true → lastr = last) : putE rt p y lastr put = putE rt p y last put := by
  unfold putE
  cases put with
  | false => rfl
  | true => rw [h rfl]
theorem putY_lr {lastr : Int} {e : Int} (h : put = true → lastr = last) : putP e put = true → putY e y lastr = putY e y last := by
  unfold putP putY
  split
  · exact fun _ => rfl
  · exact h
end
abbrev Gt := Int × Fr4
def gtr (o : Bool) (x : Gt) : List Tr := .v (.int .i64 x.1) :: x.2.tr o
def nthG (xs : List Gt) (k : Nat) : Gt := xs.getD k (0, nilF)
def sG (t : Nat) (o : Bool) (xs : List Gt) : Tr := .s o t 5 xs.length (xs.flatMap (gtr o))
def toG (vs : List (Int × Rat)) : List Gt := vs.map fun x => (x.1, Fr4.of x.2)
section
variable {xs : List Gt} {k : Nat}
theorem nthG_get (h : k < xs.length) : xs[k]? = some (nthG xs k) := by simp [nthG, h]
theorem nthG_mem (h : k < xs.length) : nthG xs k ∈ xs := List.mem_of_getElem? (nthG_get h)
theorem take_g (h : k < xs.length) : xs.take (k + 1) = xs.take k ++ [nthG xs k] := by rw [List.take_add_one, nthG_get h]; rfl
theorem drop_g (h : k < xs.length) : xs.drop k = nthG xs k :: xs.drop (k + 1) := by
  rw [List.drop_eq_getElem_cons h]
  congr 1
  simp [nthG, h]
theorem gin_at (o : Bool) (h : k < xs.length) : ((xs.flatMap (gtr o)).drop (k * 5)).take (gtr o (nthG xs k)).length = gtr o (nthG xs k) := flat_at (f := gtr o) (fun _ => rfl) (nthG_get h)
theorem gin_y (o : Bool) (h : k < xs.length) : ((xs.flatMap (gtr o)).drop (k * 5 + 0)).take [Tr.v (.int .i64 (nthG xs k).1)].length = [Tr.v (.int .i64 (nthG xs k).1)] := flat_sub (f := gtr o) (o := 0) (m := 1) (fun _ => rfl) (nthG_get h) (by omega)
theorem gin_q (o : Bool) (h : k < xs.length) : ((xs.flatMap (gtr o)).drop (k * 5 + 1)).take ((nthG xs k).2.tr o).length = (nthG xs k).2.tr o := flat_sub (f := gtr o) (o := 1) (m := 4) (fun _ => rfl) (nthG_get h) (by omega)
theorem gflat_len (o : Bool) (xs : List Gt) : (xs.flatMap (gtr o)).length = xs.length * 5 := flat_len (f := gtr o) (z := 5) (fun _ => rfl) xs
theorem toG_len (vs : List (Int × Rat)) : (toG vs).length = vs.length := List.length_map ..
theorem sG_toG (t : Nat) (o : Bool) (vs : List (Int × Rat)) : sG t o (toG vs) = sV t o vs := by
  unfold sG sV
  rw [toG_len, toG, List.flatMap_map]
  rfl
end
abbrev Ls := List (Int × Rat) × Int × Bool
def oE (x : Gt) (s : Ls) : Int := putE (rightQ x.2.s x.2.x x.2.t x.2.y) x.2.q x.1 s.2.1 s.2.2
def ofF : List Gt → Ls → Option Ls
  | [], s => some s
  | x :: l, s => if oE x s ≠ 0 ∨ x.2.q.num.sign = 0 then none else ofF l (putL (oE x s) x.2.q x.1 s.1, putY (oE x s) x.1 s.2.1, putP (oE x s) s.2.2)
section
variable {xs : List Gt} {k : Nat} {s : Ls} {r : Option Ls}
theorem ofF_stop (h : k < xs.length) (hr : ofF (xs.drop k) s = r) (he : oE (nthG xs k) s ≠ 0 ∨ (nthG xs k).2.q.num.sign = 0) : r = none := by
  rw [drop_g h, ofF, if_pos he] at hr
  exact hr.symm
theorem ofF_go (h : k < xs.length) (hr : ofF (xs.drop k) s = r) (he : oE (nthG xs k) s = 0) (h2 : (nthG xs k).2.q.num.sign ≠ 0) : ofF (xs.drop (k + 1)) (putL (oE (nthG xs k) s) (nthG xs k).2.q (nthG xs k).1 s.1, putY (oE (nthG xs k) s) (nthG xs k).1 s.2.1, putP (oE (nthG xs k) s) s.2.2) = r := by
  rw [drop_g h, ofF, if_neg (fun h9 => h9.elim (fun h9 => h9 he) h2)] at hr
  exact hr
theorem ofF_end (h : ¬ k < xs.length) (hr : ofF (xs.drop k) s = r) : r = some s := by
  rw [List.drop_of_length_le (by omega)] at hr
  exact hr.symm
theorem ofF_ok : ∀ {xs : List Gt} {s s' : Ls} {n B : Nat}, ofF xs s = some s' → StOk s.1 n B → LdOk s.1 s.2.1 s.2.2 → (∀ x ∈ xs, wt x.2.q ≤ 7) → StOk s'.1 (n + xs.length) (B + 7 * xs.length) ∧ LdOk s'.1 s'.2.1 s'.2.2
  | [], s, s', n, B, h, h1, h2, _ => by
    rw [ofF] at h
    injection h with h
    subst h
    exact ⟨h1, h2⟩
  | x :: xs, s, s', n, B, h, h1, h2, h3 => by
    rw [ofF] at h
    split at h
    · cases h
    · have h4 := ofF_ok h ((h1.put (oE x s) x.1 x.2.q).mono (Nat.le_refl _) (Nat.add_le_add_left (h3 x (List.mem_cons_self ..)) B)) h2.puts fun z hz => h3 z (List.mem_cons_of_mem _ hz)
      refine ⟨h4.1.mono (by rw [List.length_cons]; omega) (by rw [List.length_cons]; omega), h4.2⟩
end
def lastY (l : Int) (vs : List (Int × Rat)) : Int := vs.foldl (fun _ x => x.1) l
theorem ofF_toG : ∀ {vs A : List (Int × Rat)} {l : Int} {p : Bool}, (p = true → ∀ x ∈ vs, l < x.1) → Asc vs → (∀ x ∈ vs, 0 < x.2) → ofF (toG vs) (A, l, p) = some (A ++ vs, lastY l vs, p || !vs.isEmpty)
  | [], A, l, p, _, _, _ => by simp [toG, ofF, lastY]
  | x :: vs, A, l, p, h, ha, h0 => by
    have hx := h0 x (List.mem_cons_self ..)
    have hs := (sgn_pos x.2).2 hx
    have he : oE (x.1, Fr4.of x.2) (A, l, p) = 0 := by
      have e1 : rightQ (Fr4.of x.2).s (Fr4.of x.2).x (Fr4.of x.2).t (Fr4.of x.2).y = true := rightQ_dg x.2
      unfold oE putE
      dsimp only
      rw [e1, Fr4.q_of]
      simp only [Bool.not_true, Bool.false_eq_true, if_false]
      rw [if_neg (by rw [decide_eq_true_eq]; omega)]
      cases p with
      | false => rfl
      | true =>
        have := h rfl x (List.mem_cons_self ..)
        rw [if_neg (by simp; omega)]
    show ofF ((x.1, Fr4.of x.2) :: toG vs) (A, l, p) = _
    rw [ofF, if_neg (by rw [he]; dsimp only; rw [Fr4.q_of]; omega), he]
    dsimp only
    rw [Fr4.q_of]
    have e1 : putL 0 x.2 x.1 A = A ++ [x] := by unfold putL; rw [if_pos rfl, if_pos (decide_eq_true hs)]
    rw [e1]
    show ofF (toG vs) (A ++ [x], x.1, true) = _
    rw [ofF_toG (fun _ z hz => ha.cons.2 z.1 (List.mem_map.2 ⟨z, hz, rfl⟩)) ha.cons.1 fun z hz => h0 z (List.mem_cons_of_mem _ hz)]
    simp [lastY]
theorem lastY_nth : ∀ {vs : List (Int × Rat)} {l : Int}, 0 < vs.length → lastY l vs = (nthV vs (vs.length - 1)).1
  | [x], l, _ => rfl
  | x :: y :: vs, l, _ => by
    show lastY x.1 (y :: vs) = _
    rw [lastY_nth (by simp)]
    simp [nthV]
theorem isE_len {vs : List (Int × Rat)} : (!vs.isEmpty) = decide (0 < (vs.length : Int)) := by cases vs <;> simp <;> omega
theorem isE_pos {vs : List (Int × Rat)} (h : (!vs.isEmpty) = true) : 0 < vs.length := by cases vs <;> simp at *
theorem mem_nthG {xs : List Gt} {x : Gt} (h : x ∈ xs) : ∃ k, k < xs.length ∧ nthG xs k = x := by
  obtain ⟨k, hk, e⟩ := List.mem_iff_getElem.1 h
  exact ⟨k, hk, by simp [nthG, hk, e]⟩
theorem short_use {a : Fr4} (h : shortB a = true) : a.x.length ≤ 6 ∧ a.y.length ≤ 6 := by
  simp only [shortB, Bool.and_eq_true, decide_eq_true_eq] at h
  omega
theorem Spec.mono {fresh : Bool} {P : Program} {f : FuncId} {lent : List Lt} {args : List FV} {R R' : List Lt → FV → Prop} (h : Spec fresh P f lent args R) (hR : ∀ l r, R l r → R' l r) : Spec fresh P f lent args R' := fun N w cs us hL =>
  (h N w cs us hL).mono fun _ _ ⟨v, l, cs', r, y, h1, h2, h3⟩ => ⟨v, l, cs', r, y, h1, hR _ _ h2, h3⟩
section
variable {x : Cx} {g : Nat → FV} {ob : List (Option Ob)} {Q Q' : Post}
theorem WP.mono {c : Code} (h : WP x c g ob Q) (hq : ∀ e g ob, Q e g ob → Q' e g ob) : WP x c g ob Q' := fun ts W hR => wp_mono (h ts W hR) fun e a w h9 => by
  cases e with
  | panic c => exact h9
  | _ =>
    obtain ⟨g, ob, ts, rfl, h1, h2⟩ := h9
    exact ⟨g, ob, ts, rfl, h1, hq _ _ _ h2⟩
theorem md3 {γ : Type} {a b c d : Code} (I : γ → Nat → FV) (O : γ → List (Option Ob)) (p : γ → Prop) (h : WP x a g ob (thenQ (fun g ob => WP x b g ob (thenQ (fun g ob => WP x c g ob (thenQ (fun g ob => ∃ s, p s ∧ Sub x g ob (I s) (O s)) Q)) Q)) Q)) (k : ∀ s, p s → WP x d (I s) (O s) Q) : WP x (.seq a (.seq b (.seq c d))) g ob Q := by
  refine sq (h.mono fun e g ob hq => ?_)
  cases e with
  | normal =>
    refine sq (WP.mono hq fun e g ob hq => ?_)
    cases e with
    | normal => exact md I O p hq k
    | _ => exact hq
  | _ => exact hq
end
end Go.Proofs.YtogaallfhifngaaGreat
