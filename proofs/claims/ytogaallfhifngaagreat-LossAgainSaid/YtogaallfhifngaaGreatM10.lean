/- Part 10 of a proof: B5 to A3. -/
import Derived.Test.YtogaallfhifngaaGreatM9
import Derived.Test.YtogaallfhifngaaGreatM8
set_option maxRecDepth 100000
set_option linter.unusedVariables false
set_option linter.unusedSimpArgs false
namespace Go.Proofs.YtogaallfhifngaaGreat
open Go Go.RowKit
def zeroQ (x : Int × Rat) : Bool := dl0 x.1 x.2
theorem p_Use1 {y : Int} {q : Rat} (hs : Sz 68719476736 q) : Spec true Tryz.prog 44 [] [.agg ((vtr false (y, q)).map .t)] (Ret (.one (tv (.bool (zeroQ (y, q)))))) := by
  refine fn0 Tryz.func44 rfl Tryz.ntmps44 rfl ttok rfl fun N w c0 h0 => ?_
  refine sq ?_; refine rl ?_; refine bx 0 ?_; refine o1 ?_; refine nl ?_; refine sq ?_; refine rl ?_; refine o1 ?_; refine ld ?_
  refine ca (p_Sign (Qn.of (p := q) hs)) ok27 ⟨a1g rfl, rfl⟩ (.one (tv (.int .i64 q.num.sign))) ?_; refine o1 ?_; refine o1 ?_; refine nl ?_; refine rt ?_
  exact en (.inl rfl) rfl (pk1 (pkv _)) (by decide) (fun _ => trivial) rfl
theorem p_take_U {t0 i : Nat} {rest : List Tr} {us vs : List (Int × Rat)} {x : Int × Rat} {a : Fr4} {p : Rat} (ha : Qn a p) (hnx : nthV us i = x) (hi : i < us.length) (hul : us.length = vs.length) (hv : Sz 68719476736 x.2) (hl : vs.length ≤ 1073741823) : Spec false Tryz.prog 40 [⟨t0, 0, .sl 1 0 vs.length :: rest.map .t⟩, ⟨57, 5, vcl us⟩] [.one (.pt 0 0), .one (tv (.int .i64 ((i : Nat) : Int))), qF a] (Rt [⟨t0, 0, .sl 1 0 vs.length :: rest.map .t⟩, ⟨57, 5, vcl (us.set i (x.1, x.2 - qmin x.2 [p]))⟩] (.agg ((vtr false (x.1, qmin x.2 [p])).map .t))) := by
  subst hnx
  rw [← hul]
  exact p_take ha hi hv (by omega)
theorem p_Use {vs : List (Int × Rat)} {last fr : Int} {put : Bool} {a : Fr4} {p : Rat} (ha : Qn a p) (hl : vs.length ≤ 1073741823) (hw : wts (vs.map Prod.snd) + wt p + 2 * vs.length ≤ 17179869184) (hzU : ∀ x ∈ (useL fr vs p).1, Sz 68719476736 x.2) : Spec false Tryz.prog 15 [⟨76, 0, [.t (sR 57 vs), tv (.int .i64 last), tv (.bool put)]⟩] [.one (.pt 0 0), .one (tv (.int .i64 fr)), qF a] (Rt [⟨76, 0, [.t (sR 57 (keepV zeroQ (useL fr vs p).1)), tv (.int .i64 last), tv (.bool put)]⟩] (.one (.t (sO 57 (useL fr vs p).2.1)))) := by
  refine fnL Tryz.func15 rfl Tryz.ntmps15 rfl ttok rfl fun N M w c0 h0 => ?_
  refine WP.sub (opn (j := 0) (key := 1) (p := 0) (e := 57) (z := 5) (n := vs.length) (trs := vs.flatMap (vtr false)) rfl rfl rfl rfl rfl) ?_; refine sq ?_; refine rl ?_; refine bx 2 ?_; refine o1 ?_
  refine nl ?_; refine sq ?_; refine sq ?_; refine rl ?_; refine o1 ?_; refine o1 ?_; refine nl ?_; refine cdf rfl ?_; refine sk ?_; refine sq ?_; refine rl ?_; refine o1 ?_; refine nl ?_; refine sq ?_
  refine sq ?_; refine rl ?_; (iterate 4 refine o1 ?_); refine ld ?_; refine o1 ?_; refine o1 ?_; refine nl ?_; refine bl ?_
  refine lp (γ := Nat × Fr4) (fun s => frL [(0, .one (.pt 0 0)), (1, .one (tv (.int .i64 fr))), (5, .one (.pt 2 0)), (7, .one (.sl 3 0 ((useL fr (vs.take s.1) p).2.1.length))), (17, .one (.sl 1 0 (vs.length))), (18, .one (tv (.int .i64 ((vs.length : Nat) : Int)))), (19, .one (tv (.int .i64 ((s.1 : Nat) : Int))))]) (fun s => [(⟨76, 0, [.sl 1 0 vs.length, tv (.int .i64 last), tv (.bool put)]⟩ : Ob), ⟨57, 5, vcl ((useL fr (vs.take s.1) p).1 ++ vs.drop s.1)⟩, ⟨36, 0, ((s.2).tr false).map .t⟩, ⟨57, 5, vco (useL fr (vs.take s.1) p).2.1⟩].map some) (fun s => s.1 ≤ vs.length ∧ Qn s.2 (useL fr (vs.take s.1) p).2.2 ∧ wt (useL fr (vs.take s.1) p).2.2 ≤ wts ((vs.take s.1).map Prod.snd) + wt p + 2 * s.1 ∧ (useL fr (vs.take s.1) p).2.1.length ≤ s.1) (fun s => vs.length - s.1) (0, a) ⟨Nat.zero_le _, ha, by simp [useL, wts], Nat.le_refl _⟩ ((nr (i := 7) 3 57 5 rfl rfl rfl rfl).trans (suL h0 [0, 1, 2, 3] _ _ (by decide) rfl ⟨rfl, rfl, rfl, rfl, rfl, rfl, rfl, trivial⟩ ⟨oe rfl rfl, oet rfl, oet rfl, oe rfl rfl, rfl⟩)) ?_
  rintro ⟨k, m⟩ ⟨hk, hm, hb, hgl⟩; dsimp only at hk hm hb hgl ⊢; refine sq ?_; refine rl ?_; refine o1 ?_; refine nl ?_; refine sq ?_; refine cdp rfl (fun h1 => ?_) (fun h1 => ?_)
  ·
    refine sk ?_; refine sq ?_; refine bl ?_; refine sq ?_; have hal : (useL fr (vs.take k) p).1.length = k := by rw [useL_len, List.length_take, Nat.min_eq_left hk]
    have hul : ((useL fr (vs.take k) p).1 ++ vs.drop k).length = vs.length := by rw [List.length_append, hal, List.length_drop]; omega
    have hnx : nthV ((useL fr (vs.take k) p).1 ++ vs.drop k) k = (nthV vs k) := nth_mid2 (by rw [← drop_v (by omega)]) hal
    have hvw : wt (nthV vs k).2 ≤ wts (vs.map Prod.snd) := wts_mem (List.mem_map.2 ⟨_, nthV_mem (by omega), rfl⟩)
    have hwk : wts ((vs.take (k + 1)).map Prod.snd) = wts ((vs.take k).map Prod.snd) + wt (nthV vs k).2 := by rw [take_v (by omega), List.map_append, wts_append]; simp [wts]
    have hwl : wts ((vs.take (k + 1)).map Prod.snd) ≤ wts (vs.map Prod.snd) := wts_sub ((List.take_sublist _ _).map _)
    have hszv : Sz 17179869184 (nthV vs k).2 := sz_iff.2 (by have h9 : wt (nthV vs k).2 = szq (nthV vs k).2 + 1 := rfl; omega)
    have hszr : Sz 17179869184 (useL fr (vs.take k) p).2.2 := sz_iff.2 (by have h9 : wt (useL fr (vs.take k) p).2.2 = szq (useL fr (vs.take k) p).2.2 + 1 := rfl; omega)
    have hszn : Sz 17179869184 (qmin (nthV vs k).2 [(useL fr (vs.take k) p).2.2]) := qmin_sz hszv (fun q hq => by rw [List.mem_singleton] at hq; rw [hq]; exact hszr)
    have hszm : Sz 68719476736 ((useL fr (vs.take k) p).2.2 - (qmin (nthV vs k).2 [(useL fr (vs.take k) p).2.2])) := (sub_sz hszr hszn).mono (by omega)
    refine rl ?_; refine o1 ?_; refine o1 ?_
    refine lda (us := (vtr false (nthV vs k)).map .t) (by have h9 := row_at (us := ((useL fr (vs.take k) p).1 ++ vs.drop k)) (k := k) (by rw [hul]; omega); rwa [hnx] at h9) ?_
    refine al 4 ?_; refine o1 ?_; refine st ?_; refine nl ?_; refine sq ?_; refine rl ?_; refine o1 ?_; refine ld ?_; (iterate 3 refine o1 ?_)
    refine WL.split (t := 28) rfl (fun h2 => ?_) (fun h2 => ?_)
    ·
      refine ld ?_; refine ca (p_Sign hm) ok27 ⟨a1g rfl, rfl⟩ (.one (tv (.int .i64 (useL fr (vs.take k) p).2.2.num.sign))) ?_; refine o1 ?_; refine o1 ?_; refine nl ?_
      refine cdp rfl (fun h3 => ?_) (fun h3 => ?_)
      ·
        refine md (γ := Unit) (fun _ => frL [(0, .one (.pt 0 0)), (1, .one (tv (.int .i64 fr))), (5, .one (.pt 2 0)), (7, .one (.sl 3 0 ((useL fr (vs.take k) p).2.1.length))), (17, .one (.sl 1 0 (vs.length))), (18, .one (tv (.int .i64 ((vs.length : Nat) : Int)))), (19, .one (tv (.int .i64 ((k : Nat) : Int)))), (10, .one (.pt 4 0))]) (fun _ => ([⟨76, 0, [.sl 1 0 vs.length, tv (.int .i64 last), tv (.bool put)]⟩, ⟨57, 5, vcl (((useL fr (vs.take k) p).1 ++ vs.drop k).set (k) ((nthV vs k).1, ((nthV vs k).2 - (qmin (nthV vs k).2 [(useL fr (vs.take k) p).2.2]))))⟩, ⟨36, 0, (m.tr false).map .t⟩, ⟨57, 5, vco (useL fr (vs.take k) p).2.1⟩, ⟨57, 0, (vtr false ((nthV vs k).1, (qmin (nthV vs k).2 [(useL fr (vs.take k) p).2.2]))).map .t⟩] : List Ob).map some) (fun _ => True) ?_ fun _ _ => ?_
        ·
          refine rd [2, 4] (fun i => [7].contains i) mixed ?_
          refine dv 0 ?_; refine dv 1 ?_; refine dv 2 ?_; refine dv 3 ?_; refine dld 4 ?_; refine WO.two (i := 5) (j := 6) (by kernel_rfl) ?_ ?_
          ·
            have htk := p_take_U (t0 := 76) (rest := [.v (.int .i64 last), .v (.bool put)]) (x := (nthV vs k)) hm (us := ((useL fr (vs.take k) p).1 ++ vs.drop k)) (i := k) hnx (by rw [hul]; omega) hul (hszv.mono (by omega)) hl
            refine ocl 5 5 [0, 1] rfl htk ok40 ⟨oe rfl rfl, oet rfl, rfl⟩ ⟨rfl, rfl, rfl, rfl⟩ (ok := [some ⟨76, 0, [.sl 1 0 vs.length, tv (.int .i64 last), tv (.bool put)]⟩, some ⟨57, 5, vcl (((useL fr (vs.take k) p).1 ++ vs.drop k).set (k) ((nthV vs k).1, ((nthV vs k).2 - (qmin (nthV vs k).2 [(useL fr (vs.take k) p).2.2]))))⟩]) ⟨oe rfl rfl, oet rfl, rfl⟩ ⟨rfl, rfl, trivial⟩ ?_
            refine d_al (key := 5) 6 (by kernel_rfl) rfl rfl ttok rfl ⟨rfl, rfl, trivial⟩ ?_
            refine dst 7 ?_; refine dz0 ?_
            exact ⟨(), trivial, suL h0 [0, 1, 2, 3, 5] _ _ (by decide) rfl ⟨rfl, rfl, rfl, rfl, rfl, rfl, rfl, rfl, trivial⟩ ⟨oe rfl rfl, oet rfl, oet rfl, oet rfl, oet rfl, rfl⟩⟩
          ·
            refine o_al (key := 5) 6 rfl rfl ttok rfl ⟨rfl, rfl, trivial⟩ ?_
            have htk := p_take_U (t0 := 76) (rest := [.v (.int .i64 last), .v (.bool put)]) (x := (nthV vs k)) hm (us := ((useL fr (vs.take k) p).1 ++ vs.drop k)) (i := k) hnx (by rw [hul]; omega) hul (hszv.mono (by omega)) hl
            refine dcl 5 6 [0, 1] rfl htk ok40 ⟨oe rfl rfl, oet rfl, rfl⟩ ⟨rfl, rfl, rfl, rfl⟩ (ok := [some ⟨76, 0, [.sl 1 0 vs.length, tv (.int .i64 last), tv (.bool put)]⟩, some ⟨57, 5, vcl (((useL fr (vs.take k) p).1 ++ vs.drop k).set (k) ((nthV vs k).1, ((nthV vs k).2 - (qmin (nthV vs k).2 [(useL fr (vs.take k) p).2.2]))))⟩]) ⟨oe rfl rfl, oet rfl, rfl⟩ ⟨rfl, rfl, trivial⟩ ?_
            refine dst 7 ?_; refine dz0 ?_
            exact ⟨(), trivial, suL h0 [0, 1, 2, 3, 5] _ _ (by decide) rfl ⟨rfl, rfl, rfl, rfl, rfl, rfl, rfl, rfl, trivial⟩ ⟨oe rfl rfl, oet rfl, oet rfl, oet rfl, oet rfl, rfl⟩⟩
        refine rd [0, 2, 4] (fun i => [10].contains i) mixed ?_
        refine dv 0 ?_; refine dld 1 ?_; refine dld 5 ?_; refine dv 6 ?_; refine dld 7 ?_
        refine dck 5 2 rfl (p_clone (y := (nthV vs k).1) (Qn.of (p := (qmin (nthV vs k).2 [(useL fr (vs.take k) p).2.2])) hszn)) ok41 ⟨a1g rfl, rfl⟩ ?_
        refine d_bs (key := 7) 3 (by kernel_rfl) rfl rfl ttok rfl ⟨rfl, rfl, rfl, trivial⟩ ?_
        refine d_appK (j := 8) 4 rfl ttok rfl rfl rfl (.sl rfl (vco_len _)) (.sl rfl rfl rfl) rfl rfl (by omega) (by omega) rfl ⟨rfl, rfl, rfl, trivial⟩ rfl (by kernel_rfl) rfl ?_
        refine dca 8 rfl (p_Sub hm (Qn.of (p := (qmin (nthV vs k).2 [(useL fr (vs.take k) p).2.2])) hszn)) ok42 ⟨a1g rfl, a1g rfl, rfl⟩ (qF (.of ((useL fr (vs.take k) p).2.2 - (qmin (nthV vs k).2 [(useL fr (vs.take k) p).2.2])))) ?_
        refine d_v 9 (by kernel_rfl) rfl rfl ttok rfl (by trivial) ?_ (fun h => by first | rfl | cases h)
        refine dst 10 ?_; refine dz0 ?_; refine rl ?_; refine o1 ?_; refine WL.cast (t := 48) (u' := .int .i64 ((k + 1 : Nat) : Int)) rfl (cint (by omega)) ?_
        refine o1 ?_; refine nl ?_; have hst := (useL_snoc (fr := fr) p (by omega : k < vs.length)).trans (useS_yes (s := (useL fr (vs.take k) p)) (y := (nthV vs k).1) (q := (nthV vs k).2) h2 h3)
        refine ⟨(k + 1, Fr4.of ((useL fr (vs.take k) p).2.2 - (qmin (nthV vs k).2 [(useL fr (vs.take k) p).2.2]))), by dsimp only; omega, ?_, ?_⟩
        · dsimp only
          rw [hst]
          exact ⟨by omega, Qn.of hszm, by dsimp only; have h9 := wt_min2 (nthV vs k).2 (useL fr (vs.take k) p).2.2; omega, by dsimp only; rw [List.length_append, List.length_singleton]; omega⟩
        · dsimp only
          rw [hst]; dsimp only
          exact (pkV (j := 8) (k1 := 5) (k2 := 6) (us := (useL fr (vs.take k) p).2.1) (y := (nthV vs k).1) (q := (qmin (nthV vs k).2 [(useL fr (vs.take k) p).2.2])) rfl rfl rfl rfl rfl rfl).trans (suL h0 [0, 1, 2, 8] _ _ (by decide) rfl ⟨rfl, rfl, rfl, congrArg (fun n => some (FV.one (.sl 8 0 n))) (show ((useL fr (vs.take k) p).2.1 ++ [((nthV vs k).1, (qmin (nthV vs k).2 [(useL fr (vs.take k) p).2.2]))]).length = (useL fr (vs.take k) p).2.1.length + 1 by simp), rfl, rfl, rfl, trivial⟩ ⟨oe rfl rfl, oet (congrArg (fun l => some (⟨57, 5, vcl l⟩ : Ob)) (by rw [set_mid2 (x := (nthV vs k)) (by rw [← drop_v (by omega)]) hal, List.append_assoc])), oet rfl, oet rfl, rfl⟩)
      ·
        refine sk ?_; refine rl ?_; refine o1 ?_; refine WL.cast (t := 48) (u' := .int .i64 ((k + 1 : Nat) : Int)) rfl (cint (by omega)) ?_
        refine o1 ?_; refine nl ?_; have hst := (useL_snoc (fr := fr) p (by omega : k < vs.length)).trans (useS_no (s := (useL fr (vs.take k) p)) (x := (nthV vs k)) (fun hc => h3 hc.2))
        refine ⟨(k + 1, m), by dsimp only; omega, ?_, ?_⟩
        · dsimp only
          rw [hst]; exact ⟨by omega, hm, by dsimp only; omega, by dsimp only; omega⟩
        · dsimp only
          rw [hst]; dsimp only
          exact (suL h0 [0, 1, 2, 3] _ _ (by decide) rfl ⟨rfl, rfl, rfl, rfl, rfl, rfl, rfl, trivial⟩ ⟨oe rfl rfl, oet (congrArg (fun l => some (⟨57, 5, vcl l⟩ : Ob)) (by rw [drop_v (k := k) (by omega), List.append_assoc]; rfl)), oet rfl, oet rfl, rfl⟩)
    ·
      (iterate 3 refine no_ ?_); refine o1 ?_; refine nl ?_; refine cdf rfl ?_; refine sk ?_; refine rl ?_; refine o1 ?_
      refine WL.cast (t := 48) (u' := .int .i64 ((k + 1 : Nat) : Int)) rfl (cint (by omega)) ?_
      refine o1 ?_; refine nl ?_; have hst := (useL_snoc (fr := fr) p (by omega : k < vs.length)).trans (useS_no (s := (useL fr (vs.take k) p)) (x := (nthV vs k)) (fun hc => h2 hc.1))
      refine ⟨(k + 1, m), by dsimp only; omega, ?_, ?_⟩
      · dsimp only
        rw [hst]; exact ⟨by omega, hm, by dsimp only; omega, by dsimp only; omega⟩
      · dsimp only
        rw [hst]; dsimp only
        exact (suL h0 [0, 1, 2, 3] _ _ (by decide) rfl ⟨rfl, rfl, rfl, rfl, rfl, rfl, rfl, trivial⟩ ⟨oe rfl rfl, oet (congrArg (fun l => some (⟨57, 5, vcl l⟩ : Ob)) (by rw [drop_v (k := k) (by omega), List.append_assoc]; rfl)), oet rfl, oet rfl, rfl⟩)
  ·
    refine ex ?_; refine sq ?_; refine rl ?_; (iterate 3 refine o1 ?_); have hkk : vs.take k = vs := List.take_of_length_le (by omega)
    have hU9 : ((useL fr (vs.take k) p).1 ++ vs.drop k) = (useL fr vs p).1 := by rw [hkk, List.drop_of_length_le (by omega), List.append_nil]
    have hG9 : (useL fr (vs.take k) p).2.1 = (useL fr vs p).2.1 := by rw [hkk]
    have hul9 : (useL fr vs p).1.length = vs.length := useL_len fr vs p
    refine WL.sub (cls (j := 0) (k := 1) (p := 0) (n := vs.length) (trs := (useL fr vs p).1.flatMap (vtr false)) rfl rfl rfl (congrArg (fun l => some (⟨57, 5, vcl l⟩ : Ob)) hU9) rfl (take_self _ _ (by rw [vflat_len, hul9])) (by rw [vflat_len, hul9]) rfl) ?_
    have hsw := p_sweep (t0 := 76) (rest := [.v (.int .i64 last), .v (.bool put)]) (vs := (useL fr vs p).1) (dl := zeroQ) (fst := []) (caps := []) ok44 (fun x hx => p_Use1 (y := x.1) (q := x.2) (hzU x hx)) (by rw [hul9]; exact hl)
    rw [show sR 57 (useL fr vs p).1 = .s true 57 5 vs.length ((useL fr vs p).1.flatMap (vtr false)) by rw [← hul9]; rfl] at hsw
    refine cl 4 [0] hsw ok43 ⟨oe rfl rfl, rfl⟩ ⟨rfl, rfl, rfl⟩ (ok := [some ⟨76, 0, [.t (sR 57 (keepV zeroQ (useL fr vs p).1)), tv (.int .i64 last), tv (.bool put)]⟩]) ⟨oe rfl rfl, rfl⟩ ?_
    refine nl ?_; refine sq ?_; refine rl ?_; refine o1 ?_; refine o1 ?_; refine nl ?_; refine rt ?_
    exact enL (lent' := [⟨76, 0, [.t (sR 57 (keepV zeroQ (useL fr vs p).1)), tv (.int .i64 last), tv (.bool put)]⟩]) (.inl rfl) rfl (pk1 (.one (.sl (trs := (useL fr (vs.take k) p).2.1.flatMap (vtr true)) rfl rfl (take_self _ _ (vflat_len true _)) (vflat_len true _)))) (by decide) (by simp) ⟨⟨rfl, rfl⟩, trivial⟩ ⟨rfl, trivial⟩ ⟨rfl, trivial⟩ (fun h => by cases h) ⟨rfl, by rw [hG9]; rfl⟩
end Go.Proofs.YtogaallfhifngaaGreat
namespace Go.Proofs.YtogaallfhifngaaGreat
open Go Go.RowKit
theorem p_Exp1 {y b : Int} {q : Rat} : Spec true Tryz.prog 51 [] [.agg ((vtr false (y, q)).map .t), .one (.t (.p false 3 [.v (.int .i64 b)]))] (Ret (.one (tv (.bool (decide (y < b)))))) := by
  refine fn0 Tryz.func51 rfl Tryz.ntmps51 rfl ttok rfl fun N w c0 h0 => ?_
  refine WP.sub (pef (i := 1) rfl rfl) ?_; refine sq ?_; refine rl ?_; refine bx 0 ?_; refine o1 ?_; refine nl ?_; refine sq ?_; refine rl ?_; refine o1 ?_; refine ld ?_
  refine ldf ([.v (.int .i64 b)]) rfl ?_; refine o1 ?_; refine o1 ?_; refine nl ?_; refine rt ?_; exact en (.inl rfl) rfl (pk1 (pkv _)) (by decide) (fun _ => trivial) rfl
theorem p_Exp2 {y b : Int} {q : Rat} : Spec true Tryz.prog 53 [] [.agg ((vtr false (y, q)).map .t), .one (.t (.p false 92 [.f 51 [] [.p false 3 [.v (.int .i64 b)]]]))] (Ret (.one (tv (.bool (!decide (y < b)))))) := by
  refine fn0 Tryz.func53 rfl Tryz.ntmps53 rfl ttok rfl fun N w c0 h0 => ?_
  refine WP.sub (pef (i := 1) rfl rfl) ?_; refine sq ?_; refine rl ?_; refine bx 0 ?_; refine o1 ?_; refine nl ?_; refine sq ?_; refine rl ?_
  refine ldf ([.f 51 [] [.p false 3 [.v (.int .i64 b)]]]) rfl ?_; refine ld ?_
  refine ce 1 [.agg [tv (.int .i64 y), tv (.bool (sgz q.num)), .t (sU false (dg 4294967296 q.num.natAbs)), tv (.bool false), .t (sU false (dg 4294967296 q.den))]] rfl (p_Exp1 (y := y) (q := q) (b := b)) ok51 ⟨rfl, rfl⟩ ?_
  refine o1 ?_; refine o1 ?_; refine nl ?_; refine rt ?_; exact en (.inl rfl) rfl (pk1 (pkv _)) (by decide) (fun _ => trivial) rfl
theorem p_Expire {vs : List (Int × Rat)} {last b : Int} {put : Bool} (hl : vs.length ≤ 1073741823) (hz : ∀ x ∈ vs, Sz 68719476736 x.2) : Spec false Tryz.prog 21 [⟨76, 0, [.t (sR 57 vs), tv (.int .i64 last), tv (.bool put)]⟩] [.one (.pt 0 0), .one (tv (.int .i64 b))] (Rt [⟨76, 0, [.t (sR 57 (keepV (fun x : Int × Rat => decide (x.1 < b)) vs)), tv (.int .i64 last), tv (.bool put)]⟩] (.one (.t (sO 57 (keepV (fun x : Int × Rat => !decide (x.1 < b)) vs))))) := by
  refine fnL Tryz.func21 rfl Tryz.ntmps21 rfl ttok rfl fun N M w c0 h0 => ?_
  refine WP.sub (opn (j := 0) (key := 1) (p := 0) (e := 57) (z := 5) (n := vs.length) (trs := vs.flatMap (vtr false)) rfl rfl rfl rfl rfl) ?_; refine sq ?_; refine rl ?_; refine bx 2 ?_
  refine WL.sub (fzp (i := 3) (k := 2) (t := 3) (l := [.v (.int .i64 b)]) rfl rfl rfl (.one .sl)) ?_; refine o1 ?_; refine nl ?_; refine sq ?_; refine sq ?_; refine rl ?_; refine o1 ?_; refine o1 ?_
  refine nl ?_; refine cdf rfl ?_; refine sk ?_; refine sq ?_; refine rl ?_; refine o1 ?_; refine al 3 ?_; refine st ?_
  refine WL.sub (fzp (i := 5) (k := 3) (t := 92) (l := [.f 51 [] [.p false 3 [.v (.int .i64 b)]]]) rfl rfl rfl (.one .sl)) ?_; refine nl ?_; refine sq ?_; refine rl ?_; (iterate 4 refine o1 ?_)
  refine ld ?_; refine cl 4 [1] (p_CloneS hl) ok52 ⟨oet rfl, rfl⟩ ⟨rfl, rfl⟩ (ok := [some ⟨57, 5, vcl vs⟩]) ⟨oet rfl, rfl⟩ ?_; refine o1 ?_; refine bx 5 ?_; refine o1 ?_; refine nl ?_; refine sq ?_
  refine rl ?_; refine o1 ?_; refine o1 ?_
  refine WL.sub (cls (j := 5) (k := 4) (p := 0) (n := vs.length) (trs := vs.flatMap (vtr false)) rfl rfl rfl rfl rfl (take_self _ _ (vflat_len false _)) (vflat_len false _) rfl) ?_
  refine cl 6 [5] (p_sweep (t0 := 74) (rest := []) (dl := (fun x : Int × Rat => !decide (x.1 < b))) (fst := []) (caps := [.p false 92 [.f 51 [] [.p false 3 [.v (.int .i64 b)]]]]) ok53 (fun x _ => p_Exp2 (y := x.1) (q := x.2)) hl) ok43 ⟨oe rfl rfl, rfl⟩ ⟨rfl, rfl, rfl⟩ (ok := [some ⟨74, 0, [.t (sR 57 (keepV (fun x : Int × Rat => !decide (x.1 < b)) vs))]⟩]) ⟨oe rfl rfl, rfl⟩ ?_
  refine nl ?_; refine sq ?_
  refine WP.sub (cls (j := 0) (k := 1) (p := 0) (n := vs.length) (trs := vs.flatMap (vtr false)) rfl rfl rfl rfl rfl (take_self _ _ (vflat_len false _)) (vflat_len false _) rfl) ?_
  refine WP.sub (pef (i := 5) rfl rfl) ?_; refine rd [5] (fun i => [].contains i) mixed ?_
  refine dv 0 ?_; refine dv 1 ?_; refine dv 2 ?_; refine dlr 3 ([.f 51 [] [.p false 3 [.v (.int .i64 b)]]]) rfl ?_
  refine dcl 4 6 [0] rfl (p_sweep (t0 := 76) (rest := [.v (.int .i64 last), .v (.bool put)]) (dl := (fun x : Int × Rat => decide (x.1 < b))) (fst := []) (caps := [.p false 3 [.v (.int .i64 b)]]) ok51 (fun x _ => p_Exp1 (y := x.1) (q := x.2)) hl) ok43 ⟨oe rfl rfl, rfl⟩ ⟨rfl, rfl, rfl⟩ (ok := [some ⟨76, 0, [.t (sR 57 (keepV (fun x : Int × Rat => decide (x.1 < b)) vs)), tv (.int .i64 last), tv (.bool put)]⟩]) ⟨oe rfl rfl, rfl⟩ ⟨rfl, trivial⟩ ?_
  refine dz0 ?_; refine sq ?_; refine rl ?_; refine o1 ?_
  refine cak 6 (p_rows (vs := (keepV (fun x : Int × Rat => !decide (x.1 < b)) vs)) (rest := []) (fun x hx => hz x (List.mem_filter.1 hx).1) (Nat.le_trans (List.length_filter_le _ _) hl)) ok45 ⟨a1o rfl (.pe (trs := [sR 57 (keepV (fun x : Int × Rat => !decide (x.1 < b)) vs)]) rfl rfl rfl (by simp [rdTL, rdT, sR, sV, rd_vo])), rfl⟩ ?_
  refine o1 ?_; refine nl ?_; refine rt ?_
  exact enL (lent' := [⟨76, 0, [.t (sR 57 (keepV (fun x : Int × Rat => decide (x.1 < b)) vs)), tv (.int .i64 last), tv (.bool put)]⟩]) (.inl rfl) rfl (pk1 (.one (.sl (trs := (keepV (fun x : Int × Rat => !decide (x.1 < b)) vs).flatMap (vtr true)) rfl rfl (take_self _ _ (vflat_len true _)) (vflat_len true _)))) (by decide) (by simp) ⟨⟨rfl, rfl⟩, trivial⟩ ⟨rfl, trivial⟩ ⟨rfl, trivial⟩ (fun h => by cases h) ⟨rfl, rfl⟩
theorem p_Put {vs : List (Int × Rat)} {last y : Int} {put : Bool} {a : Fr4} {q : Rat} (ha : Qn a q) (hl : vs.length ≤ 1073741822) : Spec false Tryz.prog 22 [⟨76, 0, [.t (sR 57 vs), tv (.int .i64 last), tv (.bool put)]⟩] [.one (.pt 0 0), .one (tv (.int .i64 y)), qF a] (Rt [⟨76, 0, [.t (sR 57 (putL (putE (rightQ a.s a.x a.t a.y) q y last put) q y vs)), tv (.int .i64 (putY (putE (rightQ a.s a.x a.t a.y) q y last put) y last)), tv (.bool (putP (putE (rightQ a.s a.x a.t a.y) q y last put) put))]⟩] (.one (tv (.int .i64 (putE (rightQ a.s a.x a.t a.y) q y last put))))) := by
  refine fnL Tryz.func22 rfl Tryz.ntmps22 rfl ttok rfl fun N M w c0 h0 => ?_
  refine WP.sub (opn (j := 0) (key := 1) (p := 0) (e := 57) (z := 5) (n := vs.length) (trs := vs.flatMap (vtr false)) rfl rfl rfl rfl rfl) ?_; refine sq ?_; refine rl ?_; refine bx 2 ?_; refine o1 ?_
  refine nl ?_; refine sq ?_; refine bl ?_; refine sq ?_; refine rl ?_; (iterate 3 refine o1 ?_); refine nl ?_; refine cdf rfl ?_; refine sq ?_; refine rl ?_; refine ld ?_
  refine ca (c_rRight ha.1) ok54 ⟨a1g rfl, rfl⟩ (.one (tv (.bool (rightQ a.s a.x a.t a.y)))) ?_; refine WL.splitb (t := 12) rfl (fun h1 => ?_) (fun h1 => ?_)
  ·
    refine o1 ?_; refine o1 ?_; refine ld ?_; refine ca (p_Sign ha) ok27 ⟨a1g rfl, rfl⟩ (.one (tv (.int .i64 q.num.sign))) ?_; (iterate 3 refine o1 ?_); refine nl ?_
    refine cdp rfl (fun h2 => ?_) (fun h2 => ?_)
    ·
      refine sq ?_; refine rl ?_
      refine WL.sub (cls (j := 0) (k := 1) (p := 0) (n := vs.length) (trs := vs.flatMap (vtr false)) rfl rfl rfl rfl rfl (take_self _ _ (vflat_len false _)) (vflat_len false _) rfl) ?_; refine o1 ?_
      refine nl ?_; refine rt ?_; have hpe : (putE (rightQ a.s a.x a.t a.y) q y last put) = 2 := by unfold putE; rw [h1, decide_eq_true h2]; rfl
      exact enL (lent' := [⟨76, 0, [.t (sR 57 (putL (putE (rightQ a.s a.x a.t a.y) q y last put) q y vs)), tv (.int .i64 (putY (putE (rightQ a.s a.x a.t a.y) q y last put) y last)), tv (.bool (putP (putE (rightQ a.s a.x a.t a.y) q y last put) put))]⟩]) (.inl rfl) rfl (pk1 (pkv _)) (by decide) (fun _ h => by cases h) ⟨⟨rfl, rfl⟩, trivial⟩ ⟨(by rw [hpe]; rfl), trivial⟩ ⟨rfl, trivial⟩ (fun h => by cases h) ⟨rfl, by rw [hpe]⟩
    ·
      refine sq ?_; refine rl ?_; (iterate 3 refine o1 ?_); refine ld ?_; refine o1 ?_; refine WL.splitb (t := 24) rfl (fun h3 => ?_) (fun h3 => ?_)
      ·
        (iterate 4 refine o1 ?_); refine ld ?_; (iterate 3 refine o1 ?_); refine nl ?_; refine cdp rfl (fun h4 => ?_) (fun h4 => ?_)
        ·
          refine sq ?_; refine rl ?_
          refine WL.sub (cls (j := 0) (k := 1) (p := 0) (n := vs.length) (trs := vs.flatMap (vtr false)) rfl rfl rfl rfl rfl (take_self _ _ (vflat_len false _)) (vflat_len false _) rfl) ?_
          refine o1 ?_; refine nl ?_; refine rt ?_; have hpe : (putE (rightQ a.s a.x a.t a.y) q y last put) = 4 := by unfold putE; rw [h1, decide_eq_false h2, h3, decide_eq_true h4]; rfl
          exact enL (lent' := [⟨76, 0, [.t (sR 57 (putL (putE (rightQ a.s a.x a.t a.y) q y last put) q y vs)), tv (.int .i64 (putY (putE (rightQ a.s a.x a.t a.y) q y last put) y last)), tv (.bool (putP (putE (rightQ a.s a.x a.t a.y) q y last put) put))]⟩]) (.inl rfl) rfl (pk1 (pkv _)) (by decide) (fun _ h => by cases h) ⟨⟨rfl, rfl⟩, trivial⟩ ⟨(by rw [hpe]; rfl), trivial⟩ ⟨rfl, trivial⟩ (fun h => by cases h) ⟨rfl, by rw [hpe]⟩
        ·
          refine sk ?_; refine sq ?_; refine rl ?_; (iterate 5 refine o1 ?_); refine st ?_; refine o1 ?_; refine o1 ?_; refine st ?_; refine nl ?_; refine sq ?_; refine sq ?_
          obtain rfl := (ha.right h1).symm
          refine rl ?_; refine ld ?_; refine ca (p_Sign ha) ok27 ⟨a1g rfl, rfl⟩ (.one (tv (.int .i64 q.num.sign))) ?_; refine o1 ?_; refine nl ?_; refine cdp rfl (fun h5 => ?_) (fun h5 => ?_)
          ·
            refine rd [0, 2] (fun i => [12, 13, 14, 15].contains i) mixed ?_
            refine dv 0 ?_; refine dv 1 ?_; refine dv 2 ?_; refine dv 3 ?_; refine dv 4 ?_; refine dld 5 ?_; refine dv 6 ?_; refine dld 7 ?_; refine dv 8 ?_
            refine dca 9 rfl (p_clone (y := y) ha) ok41 ⟨a1g rfl, rfl⟩ (.agg ((vtr false (y, q)).map .t)) ?_; refine d_bs (key := 3) 10 (by kernel_rfl) rfl rfl ttok rfl ⟨rfl, rfl, trivial⟩ ?_
            refine d_appK (j := 4) (n := vs.length) (l := vcl vs) 11 rfl ttok rfl rfl rfl (.sl rfl (vcl_len _)) (.sl rfl rfl rfl) rfl rfl (by omega) (by omega) rfl ⟨rfl, rfl, trivial⟩ rfl (by kernel_rfl) rfl ?_
            refine d_v 12 (by kernel_rfl) rfl rfl ttok rfl (by trivial) ?_ (fun h => by first | rfl | cases h)
            refine d_v 13 (by kernel_rfl) rfl rfl ttok rfl (by trivial) ?_ (fun h => by first | rfl | cases h)
            refine d_v 14 (by kernel_rfl) rfl rfl ttok rfl (by trivial) ?_ (fun h => by first | rfl | cases h)
            refine dst 15 ?_; refine dz0 ?_; refine sq ?_; refine rl ?_
            refine WL.sub (cls (j := 0) (k := 4) (p := 0) (n := vs.length + 1) (trs := (vs ++ [(y, q)]).flatMap (vtr false)) rfl rfl rfl (congrArg (fun l => some (⟨57, 5, l⟩ : Ob)) (vcl_snoc vs (y, q))) rfl (take_self _ _ (by rw [vflat_len, List.length_append]; rfl)) (by rw [vflat_len, List.length_append]; rfl) rfl) ?_
            refine o1 ?_; refine nl ?_; refine rt ?_
            have hpe : (putE (rightQ (Fr4.of q).s (Fr4.of q).x (Fr4.of q).t (Fr4.of q).y) q y last put) = 0 := by unfold putE; rw [h1, decide_eq_false h2, h3, decide_eq_false h4]; rfl
            have hpl : putL 0 q y vs = (vs ++ [(y, q)]) := by unfold putL; rw [decide_eq_true h5]; rfl
            exact enL (lent' := [⟨76, 0, [.t (sR 57 (putL (putE (rightQ (Fr4.of q).s (Fr4.of q).x (Fr4.of q).t (Fr4.of q).y) q y last put) q y vs)), tv (.int .i64 (putY (putE (rightQ (Fr4.of q).s (Fr4.of q).x (Fr4.of q).t (Fr4.of q).y) q y last put) y last)), tv (.bool (putP (putE (rightQ (Fr4.of q).s (Fr4.of q).x (Fr4.of q).t (Fr4.of q).y) q y last put) put))]⟩]) (.inl rfl) rfl (pk1 (pkv _)) (by decide) (fun _ h => by cases h) ⟨⟨rfl, rfl⟩, trivial⟩ ⟨(by rw [hpe, hpl]; rw [show sR 57 (vs ++ [(y, q)]) = .s true 57 5 (vs.length + 1) ((vs ++ [(y, q)]).flatMap (vtr false)) by rw [sR, List.length_append]; rfl]; rfl), trivial⟩ ⟨rfl, trivial⟩ (fun h => by cases h) ⟨rfl, by rw [hpe]⟩
          ·
            refine sk ?_; refine sq ?_; refine rl ?_
            refine WL.sub (cls (j := 0) (k := 1) (p := 0) (n := vs.length) (trs := vs.flatMap (vtr false)) rfl rfl rfl rfl rfl (take_self _ _ (vflat_len false _)) (vflat_len false _) rfl) ?_
            refine o1 ?_; refine nl ?_; refine rt ?_
            have hpe : (putE (rightQ (Fr4.of q).s (Fr4.of q).x (Fr4.of q).t (Fr4.of q).y) q y last put) = 0 := by unfold putE; rw [h1, decide_eq_false h2, h3, decide_eq_false h4]; rfl
            have hpl : putL 0 q y vs = vs := by unfold putL; rw [decide_eq_false h5]; rfl
            exact enL (lent' := [⟨76, 0, [.t (sR 57 (putL (putE (rightQ (Fr4.of q).s (Fr4.of q).x (Fr4.of q).t (Fr4.of q).y) q y last put) q y vs)), tv (.int .i64 (putY (putE (rightQ (Fr4.of q).s (Fr4.of q).x (Fr4.of q).t (Fr4.of q).y) q y last put) y last)), tv (.bool (putP (putE (rightQ (Fr4.of q).s (Fr4.of q).x (Fr4.of q).t (Fr4.of q).y) q y last put) put))]⟩]) (.inl rfl) rfl (pk1 (pkv _)) (by decide) (fun _ h => by cases h) ⟨⟨rfl, rfl⟩, trivial⟩ ⟨(by rw [hpe, hpl]; rfl), trivial⟩ ⟨rfl, trivial⟩ (fun h => by cases h) ⟨rfl, by rw [hpe]⟩
      ·
        (iterate 6 refine no_ ?_); refine o1 ?_; refine o1 ?_; refine nl ?_; refine cdf rfl ?_; refine sk ?_; refine sq ?_; refine rl ?_; (iterate 5 refine o1 ?_); refine st ?_; refine o1 ?_
        refine o1 ?_; refine st ?_; refine nl ?_; refine sq ?_; refine sq ?_; obtain rfl := (ha.right h1).symm
        refine rl ?_; refine ld ?_; refine ca (p_Sign ha) ok27 ⟨a1g rfl, rfl⟩ (.one (tv (.int .i64 q.num.sign))) ?_; refine o1 ?_; refine nl ?_; refine cdp rfl (fun h6 => ?_) (fun h6 => ?_)
        ·
          refine rd [0, 2] (fun i => [12, 13, 14, 15].contains i) mixed ?_
          refine dv 0 ?_; refine dv 1 ?_; refine dv 2 ?_; refine dv 3 ?_; refine dv 4 ?_; refine dld 5 ?_; refine dv 6 ?_; refine dld 7 ?_; refine dv 8 ?_
          refine dca 9 rfl (p_clone (y := y) ha) ok41 ⟨a1g rfl, rfl⟩ (.agg ((vtr false (y, q)).map .t)) ?_; refine d_bs (key := 3) 10 (by kernel_rfl) rfl rfl ttok rfl ⟨rfl, rfl, trivial⟩ ?_
          refine d_appK (j := 4) (n := vs.length) (l := vcl vs) 11 rfl ttok rfl rfl rfl (.sl rfl (vcl_len _)) (.sl rfl rfl rfl) rfl rfl (by omega) (by omega) rfl ⟨rfl, rfl, trivial⟩ rfl (by kernel_rfl) rfl ?_
          refine d_v 12 (by kernel_rfl) rfl rfl ttok rfl (by trivial) ?_ (fun h => by first | rfl | cases h)
          refine d_v 13 (by kernel_rfl) rfl rfl ttok rfl (by trivial) ?_ (fun h => by first | rfl | cases h)
          refine d_v 14 (by kernel_rfl) rfl rfl ttok rfl (by trivial) ?_ (fun h => by first | rfl | cases h)
          refine dst 15 ?_; refine dz0 ?_; refine sq ?_; refine rl ?_
          refine WL.sub (cls (j := 0) (k := 4) (p := 0) (n := vs.length + 1) (trs := (vs ++ [(y, q)]).flatMap (vtr false)) rfl rfl rfl (congrArg (fun l => some (⟨57, 5, l⟩ : Ob)) (vcl_snoc vs (y, q))) rfl (take_self _ _ (by rw [vflat_len, List.length_append]; rfl)) (by rw [vflat_len, List.length_append]; rfl) rfl) ?_
          refine o1 ?_; refine nl ?_; refine rt ?_
          have hpe : (putE (rightQ (Fr4.of q).s (Fr4.of q).x (Fr4.of q).t (Fr4.of q).y) q y last put) = 0 := by unfold putE; rw [h1, decide_eq_false h2, h3]; rfl
          have hpl : putL 0 q y vs = (vs ++ [(y, q)]) := by unfold putL; rw [decide_eq_true h6]; rfl
          exact enL (lent' := [⟨76, 0, [.t (sR 57 (putL (putE (rightQ (Fr4.of q).s (Fr4.of q).x (Fr4.of q).t (Fr4.of q).y) q y last put) q y vs)), tv (.int .i64 (putY (putE (rightQ (Fr4.of q).s (Fr4.of q).x (Fr4.of q).t (Fr4.of q).y) q y last put) y last)), tv (.bool (putP (putE (rightQ (Fr4.of q).s (Fr4.of q).x (Fr4.of q).t (Fr4.of q).y) q y last put) put))]⟩]) (.inl rfl) rfl (pk1 (pkv _)) (by decide) (fun _ h => by cases h) ⟨⟨rfl, rfl⟩, trivial⟩ ⟨(by rw [hpe, hpl]; rw [show sR 57 (vs ++ [(y, q)]) = .s true 57 5 (vs.length + 1) ((vs ++ [(y, q)]).flatMap (vtr false)) by rw [sR, List.length_append]; rfl]; rfl), trivial⟩ ⟨rfl, trivial⟩ (fun h => by cases h) ⟨rfl, by rw [hpe]⟩
        ·
          refine sk ?_; refine sq ?_; refine rl ?_
          refine WL.sub (cls (j := 0) (k := 1) (p := 0) (n := vs.length) (trs := vs.flatMap (vtr false)) rfl rfl rfl rfl rfl (take_self _ _ (vflat_len false _)) (vflat_len false _) rfl) ?_
          refine o1 ?_; refine nl ?_; refine rt ?_
          have hpe : (putE (rightQ (Fr4.of q).s (Fr4.of q).x (Fr4.of q).t (Fr4.of q).y) q y last put) = 0 := by unfold putE; rw [h1, decide_eq_false h2, h3]; rfl
          have hpl : putL 0 q y vs = vs := by unfold putL; rw [decide_eq_false h6]; rfl
          exact enL (lent' := [⟨76, 0, [.t (sR 57 (putL (putE (rightQ (Fr4.of q).s (Fr4.of q).x (Fr4.of q).t (Fr4.of q).y) q y last put) q y vs)), tv (.int .i64 (putY (putE (rightQ (Fr4.of q).s (Fr4.of q).x (Fr4.of q).t (Fr4.of q).y) q y last put) y last)), tv (.bool (putP (putE (rightQ (Fr4.of q).s (Fr4.of q).x (Fr4.of q).t (Fr4.of q).y) q y last put) put))]⟩]) (.inl rfl) rfl (pk1 (pkv _)) (by decide) (fun _ h => by cases h) ⟨⟨rfl, rfl⟩, trivial⟩ ⟨(by rw [hpe, hpl]; rfl), trivial⟩ ⟨rfl, trivial⟩ (fun h => by cases h) ⟨rfl, by rw [hpe]⟩
  ·
    refine o1 ?_; refine o1 ?_; (iterate 3 refine no_ ?_); refine o1 ?_; refine o1 ?_; refine nl ?_; refine cdt rfl ?_; refine sq ?_; refine rl ?_
    refine WL.sub (cls (j := 0) (k := 1) (p := 0) (n := vs.length) (trs := vs.flatMap (vtr false)) rfl rfl rfl rfl rfl (take_self _ _ (vflat_len false _)) (vflat_len false _) rfl) ?_; refine o1 ?_
    refine nl ?_; refine rt ?_; have hpe : (putE (rightQ a.s a.x a.t a.y) q y last put) = 2 := by unfold putE; rw [h1]; rfl
    exact enL (lent' := [⟨76, 0, [.t (sR 57 (putL (putE (rightQ a.s a.x a.t a.y) q y last put) q y vs)), tv (.int .i64 (putY (putE (rightQ a.s a.x a.t a.y) q y last put) y last)), tv (.bool (putP (putE (rightQ a.s a.x a.t a.y) q y last put) put))]⟩]) (.inl rfl) rfl (pk1 (pkv _)) (by decide) (fun _ h => by cases h) ⟨⟨rfl, rfl⟩, trivial⟩ ⟨(by rw [hpe]; rfl), trivial⟩ ⟨rfl, trivial⟩ (fun h => by cases h) ⟨rfl, by rw [hpe]⟩
theorem p_PutL {vs : List (Int × Rat)} {last y : Int} {put : Bool} {a : Fr4} {q : Rat} (ha : Qn a q) (hl : vs.length ≤ 1073741822) : Spec false Tryz.prog 22 [⟨76, 0, [.t (sR 57 vs), tv (.int .i64 last), tv (.bool put)]⟩, ⟨104, 1, (u32T a.x).map .t⟩, ⟨104, 1, (u32T a.y).map .t⟩] [.one (.pt 0 0), .one (tv (.int .i64 y)), .agg [tv (.bool a.s), .sl 1 0 a.x.length, tv (.bool a.t), .sl 2 0 a.y.length]] (Rt [⟨76, 0, [.t (sR 57 (putL (putE (rightQ a.s a.x a.t a.y) q y last put) q y vs)), tv (.int .i64 (putY (putE (rightQ a.s a.x a.t a.y) q y last put) y last)), tv (.bool (putP (putE (rightQ a.s a.x a.t a.y) q y last put) put))]⟩, ⟨104, 1, (u32T a.x).map .t⟩, ⟨104, 1, (u32T a.y).map .t⟩] (.one (tv (.int .i64 (putE (rightQ a.s a.x a.t a.y) q y last put))))) := by
  refine fnL Tryz.func22 rfl Tryz.ntmps22 rfl ttok rfl fun N M w c0 h0 => ?_
  refine WP.sub (opn (j := 0) (key := 3) (p := 0) (e := 57) (z := 5) (n := vs.length) (trs := vs.flatMap (vtr false)) rfl rfl rfl rfl rfl) ?_; refine sq ?_; refine rl ?_; refine bx 4 ?_; refine o1 ?_
  refine nl ?_; refine sq ?_; refine bl ?_; refine sq ?_; refine rl ?_; (iterate 3 refine o1 ?_); refine nl ?_; refine cdf rfl ?_; refine sq ?_; refine rl ?_; refine ld ?_
  refine ca (c_rRight ha.1) ok54 ⟨a1a rfl (.cons .t (.cons (.sl rfl rfl (take_self _ _ rfl) (ln_u32 _)) (.cons .t (.cons (.sl rfl rfl (take_self _ _ rfl) (ln_u32 _)) .nil)))), rfl⟩ (.one (tv (.bool (rightQ a.s a.x a.t a.y)))) ?_
  refine WL.splitb (t := 12) rfl (fun h1 => ?_) (fun h1 => ?_)
  ·
    refine o1 ?_; refine o1 ?_; refine ld ?_
    refine ca (p_Sign ha) ok27 ⟨a1a rfl (.cons .t (.cons (.sl rfl rfl (take_self _ _ rfl) (ln_u32 _)) (.cons .t (.cons (.sl rfl rfl (take_self _ _ rfl) (ln_u32 _)) .nil)))), rfl⟩ (.one (tv (.int .i64 q.num.sign))) ?_
    (iterate 3 refine o1 ?_); refine nl ?_; refine cdp rfl (fun h2 => ?_) (fun h2 => ?_)
    ·
      refine sq ?_; refine rl ?_
      refine WL.sub (cls (j := 0) (k := 3) (p := 0) (n := vs.length) (trs := vs.flatMap (vtr false)) rfl rfl rfl rfl rfl (take_self _ _ (vflat_len false _)) (vflat_len false _) rfl) ?_; refine o1 ?_
      refine nl ?_; refine rt ?_; have hpe : (putE (rightQ a.s a.x a.t a.y) q y last put) = 2 := by unfold putE; rw [h1, decide_eq_true h2]; rfl
      exact enL (lent' := [⟨76, 0, [.t (sR 57 (putL (putE (rightQ a.s a.x a.t a.y) q y last put) q y vs)), tv (.int .i64 (putY (putE (rightQ a.s a.x a.t a.y) q y last put) y last)), tv (.bool (putP (putE (rightQ a.s a.x a.t a.y) q y last put) put))]⟩, ⟨104, 1, (u32T a.x).map .t⟩, ⟨104, 1, (u32T a.y).map .t⟩]) (.inl rfl) rfl (pk1 (pkv _)) (by decide) (fun _ h => by cases h) ⟨⟨rfl, rfl⟩, ⟨rfl, rfl⟩, ⟨rfl, rfl⟩, trivial⟩ ⟨(by rw [hpe]; rfl), rfl, rfl, trivial⟩ ⟨rfl, refC_t _, refC_t _, trivial⟩ (fun h => by cases h) ⟨rfl, by rw [hpe]⟩
    ·
      refine sq ?_; refine rl ?_; (iterate 3 refine o1 ?_); refine ld ?_; refine o1 ?_; refine WL.splitb (t := 24) rfl (fun h3 => ?_) (fun h3 => ?_)
      ·
        (iterate 4 refine o1 ?_); refine ld ?_; (iterate 3 refine o1 ?_); refine nl ?_; refine cdp rfl (fun h4 => ?_) (fun h4 => ?_)
        ·
          refine sq ?_; refine rl ?_
          refine WL.sub (cls (j := 0) (k := 3) (p := 0) (n := vs.length) (trs := vs.flatMap (vtr false)) rfl rfl rfl rfl rfl (take_self _ _ (vflat_len false _)) (vflat_len false _) rfl) ?_
          refine o1 ?_; refine nl ?_; refine rt ?_; have hpe : (putE (rightQ a.s a.x a.t a.y) q y last put) = 4 := by unfold putE; rw [h1, decide_eq_false h2, h3, decide_eq_true h4]; rfl
          exact enL (lent' := [⟨76, 0, [.t (sR 57 (putL (putE (rightQ a.s a.x a.t a.y) q y last put) q y vs)), tv (.int .i64 (putY (putE (rightQ a.s a.x a.t a.y) q y last put) y last)), tv (.bool (putP (putE (rightQ a.s a.x a.t a.y) q y last put) put))]⟩, ⟨104, 1, (u32T a.x).map .t⟩, ⟨104, 1, (u32T a.y).map .t⟩]) (.inl rfl) rfl (pk1 (pkv _)) (by decide) (fun _ h => by cases h) ⟨⟨rfl, rfl⟩, ⟨rfl, rfl⟩, ⟨rfl, rfl⟩, trivial⟩ ⟨(by rw [hpe]; rfl), rfl, rfl, trivial⟩ ⟨rfl, refC_t _, refC_t _, trivial⟩ (fun h => by cases h) ⟨rfl, by rw [hpe]⟩
        ·
          refine sk ?_; refine sq ?_; refine rl ?_; (iterate 5 refine o1 ?_); refine st ?_; refine o1 ?_; refine o1 ?_; refine st ?_; refine nl ?_; refine sq ?_; refine sq ?_
          obtain rfl := (ha.right h1).symm
          refine rl ?_; refine ld ?_
          refine ca (p_Sign ha) ok27 ⟨a1a rfl (.cons .t (.cons (.sl rfl rfl (take_self _ _ rfl) (ln_u32 _)) (.cons .t (.cons (.sl rfl rfl (take_self _ _ rfl) (ln_u32 _)) .nil)))), rfl⟩ (.one (tv (.int .i64 q.num.sign))) ?_
          refine o1 ?_; refine nl ?_; refine cdp rfl (fun h5 => ?_) (fun h5 => ?_)
          ·
            refine rd [0, 4] (fun i => [12, 13, 14, 15].contains i) mixed ?_
            refine dv 0 ?_; refine dv 1 ?_; refine dv 2 ?_; refine dv 3 ?_; refine dv 4 ?_; refine dld 5 ?_; refine dv 6 ?_; refine dld 7 ?_; refine dv 8 ?_
            refine dca 9 rfl (p_clone (y := y) ha) ok41 ⟨a1a rfl (.cons .t (.cons .t (.cons (.sl rfl rfl (take_self _ _ rfl) (ln_u32 _)) (.cons .t (.cons (.sl rfl rfl (take_self _ _ rfl) (ln_u32 _)) .nil))))), rfl⟩ (.agg ((vtr false (y, q)).map .t)) ?_
            refine d_bs (key := 5) 10 (by kernel_rfl) rfl rfl ttok rfl ⟨rfl, rfl, trivial⟩ ?_
            refine d_appK (j := 6) (n := vs.length) (l := vcl vs) 11 rfl ttok rfl rfl rfl (.sl rfl (vcl_len _)) (.sl rfl rfl rfl) rfl rfl (by omega) (by omega) rfl ⟨rfl, rfl, trivial⟩ rfl (by kernel_rfl) rfl ?_
            refine d_v 12 (by kernel_rfl) rfl rfl ttok rfl (by trivial) ?_ (fun h => by first | rfl | cases h)
            refine d_v 13 (by kernel_rfl) rfl rfl ttok rfl (by trivial) ?_ (fun h => by first | rfl | cases h)
            refine d_v 14 (by kernel_rfl) rfl rfl ttok rfl (by trivial) ?_ (fun h => by first | rfl | cases h)
            refine dst 15 ?_; refine dz0 ?_; refine sq ?_; refine rl ?_
            refine WL.sub (cls (j := 0) (k := 6) (p := 0) (n := vs.length + 1) (trs := (vs ++ [(y, q)]).flatMap (vtr false)) rfl rfl rfl (congrArg (fun l => some (⟨57, 5, l⟩ : Ob)) (vcl_snoc vs (y, q))) rfl (take_self _ _ (by rw [vflat_len, List.length_append]; rfl)) (by rw [vflat_len, List.length_append]; rfl) rfl) ?_
            refine o1 ?_; refine nl ?_; refine rt ?_
            have hpe : (putE (rightQ (Fr4.of q).s (Fr4.of q).x (Fr4.of q).t (Fr4.of q).y) q y last put) = 0 := by unfold putE; rw [h1, decide_eq_false h2, h3, decide_eq_false h4]; rfl
            have hpl : putL 0 q y vs = (vs ++ [(y, q)]) := by unfold putL; rw [decide_eq_true h5]; rfl
            exact enL (lent' := [⟨76, 0, [.t (sR 57 (putL (putE (rightQ (Fr4.of q).s (Fr4.of q).x (Fr4.of q).t (Fr4.of q).y) q y last put) q y vs)), tv (.int .i64 (putY (putE (rightQ (Fr4.of q).s (Fr4.of q).x (Fr4.of q).t (Fr4.of q).y) q y last put) y last)), tv (.bool (putP (putE (rightQ (Fr4.of q).s (Fr4.of q).x (Fr4.of q).t (Fr4.of q).y) q y last put) put))]⟩, ⟨104, 1, (u32T (Fr4.of q).x).map .t⟩, ⟨104, 1, (u32T (Fr4.of q).y).map .t⟩]) (.inl rfl) rfl (pk1 (pkv _)) (by decide) (fun _ h => by cases h) ⟨⟨rfl, rfl⟩, ⟨rfl, rfl⟩, ⟨rfl, rfl⟩, trivial⟩ ⟨(by rw [hpe, hpl]; rw [show sR 57 (vs ++ [(y, q)]) = .s true 57 5 (vs.length + 1) ((vs ++ [(y, q)]).flatMap (vtr false)) by rw [sR, List.length_append]; rfl]; rfl), rfl, rfl, trivial⟩ ⟨rfl, refC_t _, refC_t _, trivial⟩ (fun h => by cases h) ⟨rfl, by rw [hpe]⟩
          ·
            refine sk ?_; refine sq ?_; refine rl ?_
            refine WL.sub (cls (j := 0) (k := 3) (p := 0) (n := vs.length) (trs := vs.flatMap (vtr false)) rfl rfl rfl rfl rfl (take_self _ _ (vflat_len false _)) (vflat_len false _) rfl) ?_
            refine o1 ?_; refine nl ?_; refine rt ?_
            have hpe : (putE (rightQ (Fr4.of q).s (Fr4.of q).x (Fr4.of q).t (Fr4.of q).y) q y last put) = 0 := by unfold putE; rw [h1, decide_eq_false h2, h3, decide_eq_false h4]; rfl
            have hpl : putL 0 q y vs = vs := by unfold putL; rw [decide_eq_false h5]; rfl
            exact enL (lent' := [⟨76, 0, [.t (sR 57 (putL (putE (rightQ (Fr4.of q).s (Fr4.of q).x (Fr4.of q).t (Fr4.of q).y) q y last put) q y vs)), tv (.int .i64 (putY (putE (rightQ (Fr4.of q).s (Fr4.of q).x (Fr4.of q).t (Fr4.of q).y) q y last put) y last)), tv (.bool (putP (putE (rightQ (Fr4.of q).s (Fr4.of q).x (Fr4.of q).t (Fr4.of q).y) q y last put) put))]⟩, ⟨104, 1, (u32T (Fr4.of q).x).map .t⟩, ⟨104, 1, (u32T (Fr4.of q).y).map .t⟩]) (.inl rfl) rfl (pk1 (pkv _)) (by decide) (fun _ h => by cases h) ⟨⟨rfl, rfl⟩, ⟨rfl, rfl⟩, ⟨rfl, rfl⟩, trivial⟩ ⟨(by rw [hpe, hpl]; rfl), rfl, rfl, trivial⟩ ⟨rfl, refC_t _, refC_t _, trivial⟩ (fun h => by cases h) ⟨rfl, by rw [hpe]⟩
      ·
        (iterate 6 refine no_ ?_); refine o1 ?_; refine o1 ?_; refine nl ?_; refine cdf rfl ?_; refine sk ?_; refine sq ?_; refine rl ?_; (iterate 5 refine o1 ?_); refine st ?_; refine o1 ?_
        refine o1 ?_; refine st ?_; refine nl ?_; refine sq ?_; refine sq ?_; obtain rfl := (ha.right h1).symm
        refine rl ?_; refine ld ?_
        refine ca (p_Sign ha) ok27 ⟨a1a rfl (.cons .t (.cons (.sl rfl rfl (take_self _ _ rfl) (ln_u32 _)) (.cons .t (.cons (.sl rfl rfl (take_self _ _ rfl) (ln_u32 _)) .nil)))), rfl⟩ (.one (tv (.int .i64 q.num.sign))) ?_
        refine o1 ?_; refine nl ?_; refine cdp rfl (fun h6 => ?_) (fun h6 => ?_)
        ·
          refine rd [0, 4] (fun i => [12, 13, 14, 15].contains i) mixed ?_
          refine dv 0 ?_; refine dv 1 ?_; refine dv 2 ?_; refine dv 3 ?_; refine dv 4 ?_; refine dld 5 ?_; refine dv 6 ?_; refine dld 7 ?_; refine dv 8 ?_
          refine dca 9 rfl (p_clone (y := y) ha) ok41 ⟨a1a rfl (.cons .t (.cons .t (.cons (.sl rfl rfl (take_self _ _ rfl) (ln_u32 _)) (.cons .t (.cons (.sl rfl rfl (take_self _ _ rfl) (ln_u32 _)) .nil))))), rfl⟩ (.agg ((vtr false (y, q)).map .t)) ?_
          refine d_bs (key := 5) 10 (by kernel_rfl) rfl rfl ttok rfl ⟨rfl, rfl, trivial⟩ ?_
          refine d_appK (j := 6) (n := vs.length) (l := vcl vs) 11 rfl ttok rfl rfl rfl (.sl rfl (vcl_len _)) (.sl rfl rfl rfl) rfl rfl (by omega) (by omega) rfl ⟨rfl, rfl, trivial⟩ rfl (by kernel_rfl) rfl ?_
          refine d_v 12 (by kernel_rfl) rfl rfl ttok rfl (by trivial) ?_ (fun h => by first | rfl | cases h)
          refine d_v 13 (by kernel_rfl) rfl rfl ttok rfl (by trivial) ?_ (fun h => by first | rfl | cases h)
          refine d_v 14 (by kernel_rfl) rfl rfl ttok rfl (by trivial) ?_ (fun h => by first | rfl | cases h)
          refine dst 15 ?_; refine dz0 ?_; refine sq ?_; refine rl ?_
          refine WL.sub (cls (j := 0) (k := 6) (p := 0) (n := vs.length + 1) (trs := (vs ++ [(y, q)]).flatMap (vtr false)) rfl rfl rfl (congrArg (fun l => some (⟨57, 5, l⟩ : Ob)) (vcl_snoc vs (y, q))) rfl (take_self _ _ (by rw [vflat_len, List.length_append]; rfl)) (by rw [vflat_len, List.length_append]; rfl) rfl) ?_
          refine o1 ?_; refine nl ?_; refine rt ?_
          have hpe : (putE (rightQ (Fr4.of q).s (Fr4.of q).x (Fr4.of q).t (Fr4.of q).y) q y last put) = 0 := by unfold putE; rw [h1, decide_eq_false h2, h3]; rfl
          have hpl : putL 0 q y vs = (vs ++ [(y, q)]) := by unfold putL; rw [decide_eq_true h6]; rfl
          exact enL (lent' := [⟨76, 0, [.t (sR 57 (putL (putE (rightQ (Fr4.of q).s (Fr4.of q).x (Fr4.of q).t (Fr4.of q).y) q y last put) q y vs)), tv (.int .i64 (putY (putE (rightQ (Fr4.of q).s (Fr4.of q).x (Fr4.of q).t (Fr4.of q).y) q y last put) y last)), tv (.bool (putP (putE (rightQ (Fr4.of q).s (Fr4.of q).x (Fr4.of q).t (Fr4.of q).y) q y last put) put))]⟩, ⟨104, 1, (u32T (Fr4.of q).x).map .t⟩, ⟨104, 1, (u32T (Fr4.of q).y).map .t⟩]) (.inl rfl) rfl (pk1 (pkv _)) (by decide) (fun _ h => by cases h) ⟨⟨rfl, rfl⟩, ⟨rfl, rfl⟩, ⟨rfl, rfl⟩, trivial⟩ ⟨(by rw [hpe, hpl]; rw [show sR 57 (vs ++ [(y, q)]) = .s true 57 5 (vs.length + 1) ((vs ++ [(y, q)]).flatMap (vtr false)) by rw [sR, List.length_append]; rfl]; rfl), rfl, rfl, trivial⟩ ⟨rfl, refC_t _, refC_t _, trivial⟩ (fun h => by cases h) ⟨rfl, by rw [hpe]⟩
        ·
          refine sk ?_; refine sq ?_; refine rl ?_
          refine WL.sub (cls (j := 0) (k := 3) (p := 0) (n := vs.length) (trs := vs.flatMap (vtr false)) rfl rfl rfl rfl rfl (take_self _ _ (vflat_len false _)) (vflat_len false _) rfl) ?_
          refine o1 ?_; refine nl ?_; refine rt ?_
          have hpe : (putE (rightQ (Fr4.of q).s (Fr4.of q).x (Fr4.of q).t (Fr4.of q).y) q y last put) = 0 := by unfold putE; rw [h1, decide_eq_false h2, h3]; rfl
          have hpl : putL 0 q y vs = vs := by unfold putL; rw [decide_eq_false h6]; rfl
          exact enL (lent' := [⟨76, 0, [.t (sR 57 (putL (putE (rightQ (Fr4.of q).s (Fr4.of q).x (Fr4.of q).t (Fr4.of q).y) q y last put) q y vs)), tv (.int .i64 (putY (putE (rightQ (Fr4.of q).s (Fr4.of q).x (Fr4.of q).t (Fr4.of q).y) q y last put) y last)), tv (.bool (putP (putE (rightQ (Fr4.of q).s (Fr4.of q).x (Fr4.of q).t (Fr4.of q).y) q y last put) put))]⟩, ⟨104, 1, (u32T (Fr4.of q).x).map .t⟩, ⟨104, 1, (u32T (Fr4.of q).y).map .t⟩]) (.inl rfl) rfl (pk1 (pkv _)) (by decide) (fun _ h => by cases h) ⟨⟨rfl, rfl⟩, ⟨rfl, rfl⟩, ⟨rfl, rfl⟩, trivial⟩ ⟨(by rw [hpe, hpl]; rfl), rfl, rfl, trivial⟩ ⟨rfl, refC_t _, refC_t _, trivial⟩ (fun h => by cases h) ⟨rfl, by rw [hpe]⟩
  ·
    refine o1 ?_; refine o1 ?_; (iterate 3 refine no_ ?_); refine o1 ?_; refine o1 ?_; refine nl ?_; refine cdt rfl ?_; refine sq ?_; refine rl ?_
    refine WL.sub (cls (j := 0) (k := 3) (p := 0) (n := vs.length) (trs := vs.flatMap (vtr false)) rfl rfl rfl rfl rfl (take_self _ _ (vflat_len false _)) (vflat_len false _) rfl) ?_; refine o1 ?_
    refine nl ?_; refine rt ?_; have hpe : (putE (rightQ a.s a.x a.t a.y) q y last put) = 2 := by unfold putE; rw [h1]; rfl
    exact enL (lent' := [⟨76, 0, [.t (sR 57 (putL (putE (rightQ a.s a.x a.t a.y) q y last put) q y vs)), tv (.int .i64 (putY (putE (rightQ a.s a.x a.t a.y) q y last put) y last)), tv (.bool (putP (putE (rightQ a.s a.x a.t a.y) q y last put) put))]⟩, ⟨104, 1, (u32T a.x).map .t⟩, ⟨104, 1, (u32T a.y).map .t⟩]) (.inl rfl) rfl (pk1 (pkv _)) (by decide) (fun _ h => by cases h) ⟨⟨rfl, rfl⟩, ⟨rfl, rfl⟩, ⟨rfl, rfl⟩, trivial⟩ ⟨(by rw [hpe]; rfl), rfl, rfl, trivial⟩ ⟨rfl, refC_t _, refC_t _, trivial⟩ (fun h => by cases h) ⟨rfl, by rw [hpe]⟩
end Go.Proofs.YtogaallfhifngaaGreat
namespace Go.Proofs.YtogaallfhifngaaGreat
open Go Go.RowKit
theorem c_cut1 {xs : List Nat} (hx : xs.length ≤ 4398046511104) : Spec false Tryz.prog 125 [] [.one (.t (sI false xs))] (Ret (.one (.t (sI false (trim xs))))) := by
  refine fn0 Tryz.func125 rfl Tryz.ntmps125 rfl ttok rfl fun N w c0 h0 => ?_
  refine sq ?_; refine rl ?_; refine o1 ?_; refine nl ?_; refine sq ?_; refine bl ?_
  refine lp (γ := List Nat) (fun zs => frL [(0, .one (.t (sI false zs)))]) (fun _ => ([] : List Ob).map some) (fun zs => trim zs = trim xs ∧ zs.length ≤ xs.length) (fun zs => zs.length) xs ⟨rfl, Nat.le_refl _⟩ (su0 h0 [] _ _ (by decide) ⟨rfl, trivial⟩ rfl) fun zs hz => ?_
  refine sq ?_; refine sq ?_; refine rl ?_; (iterate 4 refine o1 ?_); refine WL.split (t := 6) rfl (fun h1 => ?_) (fun h1 => ?_)
  ·
    (iterate 4 refine o1 ?_); refine WL.cast (t := 10) (u' := .int .i64 ((zs.length - 1 : Nat) : Int)) rfl (cint (by omega)) ?_
    refine o1 ?_; refine ldf ([.v (.int .i64 ((nth zs (zs.length - 1) : Nat) : Int))]) (i64_at zs (k := zs.length - 1) (by omega)) ?_
    refine o1 ?_; refine o1 ?_; refine nl ?_; refine cdp rfl (fun h2 => ?_) (fun h2 => ?_)
    ·
      refine sk ?_; refine bl ?_; refine rl ?_; (iterate 4 refine o1 ?_); refine WL.cast (t := 18) (u' := .int .i64 ((zs.length - 1 : Nat) : Int)) rfl (cint (by omega)) ?_
      refine o1 ?_; refine o1 ?_; refine nl ?_
      exact ⟨zs.take (zs.length - 1), by rw [List.length_take]; omega, ⟨(by rw [trim_less (xs := zs) (k := zs.length) (by omega) (Nat.le_refl _) (by omega), List.take_length]; exact hz.1), by rw [List.length_take]; omega⟩, su0 h0 [] _ _ (by decide) ⟨congrArg some (sI_cut (by omega)).symm, trivial⟩ rfl⟩
    ·
      refine ex ?_; refine sq ?_; refine rl ?_; refine o1 ?_; refine o1 ?_; refine nl ?_; refine rt ?_; refine en (.inl rfl) rfl (pk1 (.one (.id rfl))) (by decide) (fun h => by cases h) ?_
      have hx : trim xs = zs := by
        rw [← hz.1]; have h9 := trim_stop (xs := zs) (k := zs.length) (by omega) (Nat.le_refl _) (by omega)
        rwa [List.take_length] at h9
      rw [hx]; rfl
  ·
    (iterate 7 refine no_ ?_); refine o1 ?_; refine nl ?_; refine cdf rfl ?_; refine ex ?_; refine sq ?_; refine rl ?_; refine o1 ?_; refine o1 ?_; refine nl ?_; refine rt ?_
    refine en (.inl rfl) rfl (pk1 (.one (.id rfl))) (by decide) (fun h => by cases h) ?_
    have hx : trim xs = zs := by
      have h9 : zs = [] := List.eq_nil_of_length_eq_zero (by omega)
      rw [← hz.1, h9]; rfl
    rw [hx]; rfl
theorem c_halves1 {xs : List Nat} (hx : xs.length ≤ 1099511627776) (hl : Lim 4294967296 xs) : Spec false Tryz.prog 109 [] [.one (.t (sU false xs))] (Ret (.one (.t (sI false (dg 65536 (vl 4294967296 xs)))))) := by
  refine fn0 Tryz.func109 rfl Tryz.ntmps109 rfl ttok rfl fun N w c0 h0 => ?_
  refine sq ?_; refine rl ?_; refine o1 ?_; refine nl ?_; refine sq ?_; refine rl ?_; refine o1 ?_; refine nl ?_; refine sq ?_; refine sq ?_; refine rl ?_; refine o1 ?_; refine nl ?_; refine bl ?_
  refine lp (γ := Nat) (fun k => frL [(0, .one (.t (sU false xs))), (3, .one (.sl 0 0 (2 * k))), (4, .one (tv (.int .i64 ((k : Nat) : Int))))]) (fun k => [(⟨3, 1, (i64T (hv (xs.take k))).map .t⟩ : Ob)].map some) (fun k => k ≤ xs.length) (fun k => xs.length - k) 0 (Nat.zero_le _) ((nr (i := 3) 0 3 1 rfl rfl rfl rfl).trans (su0 h0 [0] _ _ (by decide) ⟨rfl, rfl, rfl, trivial⟩ ⟨oet (l := []) rfl, rfl⟩)) fun k hk => ?_
  have hn := hl.nth (by omega) k
  refine sq ?_; refine sq ?_; refine rl ?_; (iterate 4 refine o1 ?_); refine nl ?_; refine cdp rfl (fun h1 => ?_) (fun h1 => ?_)
  ·
    refine sk ?_; refine sq ?_; refine bl ?_; refine rd [] (fun i => [15].contains i) mixed ?_
    refine dv 0 ?_; refine dv 1 ?_; refine dv 2 ?_; refine dv 3 ?_; refine dlr 4 ([.v (.int .u32 ((nth xs (k) : Nat) : Int))]) (u32_at xs (k := k) (by omega)) ?_
    refine dv 5 ?_; refine WD.cast (t := 16) (u' := .int .u32 ((nth xs k % 65536 : Nat) : Int)) rfl (cint (rem_nat _ 65536)) ?_; refine dv 6 ?_; refine dv 7 ?_; refine dv 8 ?_; refine dv 9 ?_
    refine dlr 10 ([.v (.int .u32 ((nth xs (k) : Nat) : Int))]) (u32_at xs (k := k) (by omega)) ?_
    refine dv 11 ?_ (hC := (quo_in 65536 (by omega) (by simp only [InR]; omega)))
    refine WD.cast (t := 22) (u' := .int .u32 ((nth xs k / 65536 : Nat) : Int)) rfl (cint (quo_nat _ 65536)) ?_; refine dv 12 ?_; refine d_bs (key := 1) 13 (by kernel_rfl) rfl rfl ttok rfl trivial ?_
    refine d_app (j := 2) 14 rfl ttok rfl rfl rfl (.sl rfl (by rw [List.length_map, i64T_len, hv_len, List.length_take]; omega)) (.sl rfl rfl rfl) rfl rfl (by omega) (by omega) rfl rfl (by kernel_rfl) rfl ?_
    refine d_v 15 (by kernel_rfl) rfl rfl ttok rfl (by trivial) ?_ (fun h => by first | rfl | cases h)
    refine dz0 ?_; refine rl ?_; (iterate 3 refine o1 ?_); refine nl ?_
    exact ⟨k + 1, by omega, by omega, su0 h0 [2] _ _ (by decide) ⟨rfl, rfl, rfl, trivial⟩ ⟨oeI rfl (i64T_app _ [nth xs k % 65536, nth xs k / 65536]) (hv_take (by omega)).symm, rfl⟩⟩
  ·
    refine ex ?_; refine sq ?_; refine rl ?_; refine WL.sub (fzI (i := 3) (zs' := hv xs) rfl rfl rfl (by rw [hv_len, List.length_take]; omega) (by rw [List.take_of_length_le (by omega)])) ?_
    refine o1 ?_; refine ca (c_cut1 (by rw [hv_len]; omega)) ok125 ⟨a1 rfl, rfl⟩ (.one (.t (sI false (trim (hv xs))))) ?_
    refine o1 ?_; refine nl ?_; refine rt ?_; exact en (.inl rfl) rfl (pk1 (.one (.id rfl))) (by decide) (fun h => by cases h) (by rw [hv_dg hl]; rfl)
theorem c_limbs1 {xs : List Nat} (hx : xs.length ≤ 4398046511104) (hl : Lim 65536 xs) : Spec true Tryz.prog 108 [] [.one (.t (sI false xs))] (Ret (.one (.t (sU true (dg 4294967296 (vl 65536 xs)))))) := by
  refine fn0 Tryz.func108 rfl Tryz.ntmps108 rfl ttok rfl fun N w c0 h0 => ?_
  refine sq ?_; refine rl ?_; refine o1 ?_; refine nl ?_; refine sq ?_; refine rl ?_; refine o1 ?_; refine nl ?_; refine sq ?_; refine rl ?_; refine o1 ?_
  refine ca (c_cut1 hx) ok125 ⟨a1 rfl, rfl⟩ (.one (.t (sI false (trim xs)))) ?_; refine o1 ?_; refine nl ?_; refine sq ?_; refine sq ?_; have htl := trim_length xs
  have hlt := hl.trim
  generalize hY : trim xs = ys at htl hlt; refine rl ?_; refine o1 ?_; refine nl ?_; refine bl ?_
  refine lp (γ := Nat) (fun k => frL [(0, .one (.t (sI false ys))), (3, .one (.sl 0 0 k)), (4, .one (tv (.int .i64 ((2 * k : Nat) : Int))))]) (fun k => [(⟨104, 1, (u32T (lb (ys.take (2 * k)))).map .t⟩ : Ob)].map some) (fun k => 2 * k ≤ ys.length + 1) (fun k => ys.length + 1 - 2 * k) 0 (Nat.zero_le _) ((nr (i := 3) 0 104 1 rfl rfl rfl rfl).trans (su0 h0 [0] _ _ (by decide) ⟨rfl, rfl, rfl, trivial⟩ ⟨oet (l := []) rfl, rfl⟩)) fun k hk => ?_
  have hn := hlt.nth (by omega) (2 * k)
  have hn2 := hlt.nth (by omega) (2 * k + 1)
  refine sq ?_; refine sq ?_; refine rl ?_; (iterate 4 refine o1 ?_); refine nl ?_; refine cdp rfl (fun h1 => ?_) (fun h1 => ?_)
  ·
    refine sk ?_; refine sq ?_; refine bl ?_; refine sq ?_; refine rl ?_; refine o1 ?_; refine nl ?_; refine sq ?_; refine sq ?_; refine rl ?_; refine o1 ?_; refine o1 ?_
    refine WL.cast (t := 15) (u' := .int .i64 ((2 * k + 1 : Nat) : Int)) rfl (cint (by omega)) ?_
    (iterate 3 refine o1 ?_); refine nl ?_; refine cdp rfl (fun h2 => ?_) (fun h2 => ?_)
    ·
      refine rl ?_; (iterate 3 refine o1 ?_); refine WL.cast (t := 21) (u' := .int .i64 ((2 * k + 1 : Nat) : Int)) rfl (cint (by omega)) ?_
      refine o1 ?_; refine ldf ([.v (.int .i64 ((nth ys (2 * k + 1) : Nat) : Int))]) (i64_at ys (k := 2 * k + 1) (by omega)) ?_
      refine o1 ?_; refine nl ?_; refine rl ?_; (iterate 4 refine o1 ?_); refine ldf ([.v (.int .i64 ((nth ys (2 * k) : Nat) : Int))]) (i64_at ys (k := 2 * k) (by omega)) ?_
      (iterate 5 refine o1 ?_); refine WL.cast (t := 33) (u' := .int .u32 ((nth ys (2 * k) + 65536 * nth ys (2 * k + 1) : Nat) : Int)) rfl (cint (by omega)) ?_
      refine bs 1 ?_; refine w_app (j := 2) ttok rfl rfl rfl rfl (.sl rfl (by rw [List.length_map, u32T_len, lb_len, List.length_take]; omega)) (.sl rfl rfl rfl) rfl rfl rfl (by omega) (by omega) ?_
      refine o1 ?_; refine nl ?_; refine rl ?_; (iterate 3 refine o1 ?_); refine nl ?_
      exact ⟨k + 1, by omega, by omega, su0 h0 [2] _ _ (by decide) ⟨rfl, rfl, rfl, trivial⟩ ⟨oeU rfl (u32T_app _ [nth ys (2 * k) + 65536 * nth ys (2 * k + 1)]) (lb_take (by omega)).symm, rfl⟩⟩
    ·
      have hz := nth_out (l := ys) (k := 2 * k + 1) (by omega)
      refine sk ?_; refine rl ?_; (iterate 4 refine o1 ?_); refine ldf ([.v (.int .i64 ((nth ys (2 * k) : Nat) : Int))]) (i64_at ys (k := 2 * k) (by omega)) ?_
      (iterate 5 refine o1 ?_); refine WL.cast (t := 33) (u' := .int .u32 ((nth ys (2 * k) + 65536 * nth ys (2 * k + 1) : Nat) : Int)) rfl (cint (by omega)) ?_
      refine bs 1 ?_; refine w_app (j := 2) ttok rfl rfl rfl rfl (.sl rfl (by rw [List.length_map, u32T_len, lb_len, List.length_take]; omega)) (.sl rfl rfl rfl) rfl rfl rfl (by omega) (by omega) ?_
      refine o1 ?_; refine nl ?_; refine rl ?_; (iterate 3 refine o1 ?_); refine nl ?_
      exact ⟨k + 1, by omega, by omega, su0 h0 [2] _ _ (by decide) ⟨rfl, rfl, rfl, trivial⟩ ⟨oeU rfl (u32T_app _ [nth ys (2 * k) + 65536 * nth ys (2 * k + 1)]) (lb_take (by omega)).symm, rfl⟩⟩
  ·
    refine ex ?_; refine sq ?_; refine rl ?_; refine o1 ?_; refine o1 ?_; refine nl ?_; refine rt ?_
    exact en (.inl rfl) rfl (pk1 (.one (.sl (trs := u32T (lb ys)) rfl rfl (by rw [List.take_of_length_le (l := ys) (by omega), List.take_of_length_le (by simp [u32T_len, lb_len]; omega)]) (by rw [u32T_len, lb_len]; omega)))) (by decide) (fun _ => .inl ⟨rfl, nofr_u32 _⟩) (by rw [← lb_dg, dg_vl (by omega) hl, hY]; unfold sU; rw [show k = (lb ys).length by rw [lb_len]; omega]; rfl)
theorem c_at1 {xs : List Nat} {k : Nat} : Spec true Tryz.prog 124 [] [.one (.t (sI false xs)), .one (tv (.int .i64 ((k : Nat) : Int)))] (Ret (.one (tv (.int .i64 ((nth xs k : Nat) : Int))))) := by
  refine fn0 Tryz.func124 rfl Tryz.ntmps124 rfl ttok rfl fun N w c0 h0 => ?_
  refine sq ?_; refine rl ?_; refine o1 ?_; refine nl ?_; refine sq ?_; refine sq ?_; refine rl ?_; (iterate 4 refine o1 ?_); refine nl ?_; refine cdp rfl (fun h1 => ?_) (fun h1 => ?_)
  ·
    refine sq ?_; refine rl ?_; (iterate 3 refine o1 ?_); refine ldf ([.v (.int .i64 ((nth xs (k) : Nat) : Int))]) (i64_at xs (k := k) (by omega)) ?_
    refine o1 ?_; refine nl ?_; refine rt ?_; refine en (.inl rfl) rfl (pk1 (pkv _)) (by decide) (fun _ => trivial) ?_
    rfl
  ·
    refine sk ?_; refine sq ?_; refine rl ?_; refine o1 ?_; refine nl ?_; refine rt ?_; refine en (.inl rfl) rfl (pk1 (pkv _)) (by decide) (fun _ => trivial) ?_
    rw [nth_out (by omega)]; rfl
theorem c_Trim1 {xs : List Nat} (hx : xs.length ≤ 1099511627776) (hlx : Lim 4294967296 xs) : Spec true Tryz.prog 83 [] [.one (.t (sU false xs))] (Ret (.one (.t (sU true (dg 4294967296 (vl 4294967296 xs)))))) := by
  refine fn0 Tryz.func83 rfl Tryz.ntmps83 rfl ttok rfl fun N w c0 h0 => ?_
  have hd := dg_half_len (v := vl 4294967296 xs) (L := xs.length) (by rw [dg_vl (by omega) hlx]; exact trim_length _)
  have hl9 := Lim_dg (B := 65536) (by omega) (vl 4294967296 xs)
  refine sq ?_; refine rl ?_; refine o1 ?_; refine nl ?_; refine sq ?_; refine rl ?_; refine o1 ?_
  refine ca (c_halves1 hx hlx) ok109 ⟨a1 rfl, rfl⟩ (.one (.t (sI false (dg 65536 (vl 4294967296 xs))))) ?_; refine cak 0 (c_limbs1 (by omega) (by assumption)) ok108 ⟨a1 rfl, rfl⟩ ?_
  refine o1 ?_; refine nl ?_; refine rt ?_
  exact en (.inl rfl) rfl (pk1 (.one (.sl (trs := u32T (dg 4294967296 (vl 65536 (dg 65536 (vl 4294967296 xs))))) rfl rfl (tk_u32 _) (ln_u32 _)))) (by decide) (fun _ => .inl ⟨rfl, nofr_u32 _⟩) (by rw [vl_dg (by omega)]; rfl)
theorem c_Cmp1 {xs ys : List Nat} (hx : xs.length ≤ 1099511627776) (hlx : Lim 4294967296 xs) (hy : ys.length ≤ 1099511627776) (hly : Lim 4294967296 ys) : Spec true Tryz.prog 115 [] [.one (.t (sU false xs)), .one (.t (sU false ys))] (Ret (.one (tv (.int .i64 (((vl 4294967296 xs : Nat) : Int) - ((vl 4294967296 ys : Nat) : Int)).sign)))) := by
  refine fn0 Tryz.func115 rfl Tryz.ntmps115 rfl ttok rfl fun N w c0 h0 => ?_
  refine sq ?_; refine rl ?_; refine o1 ?_; refine nl ?_; refine sq ?_; refine rl ?_; refine o1 ?_
  refine ca (c_halves1 hx hlx) ok109 ⟨a1 rfl, rfl⟩ (.one (.t (sI false (dg 65536 (vl 4294967296 xs))))) ?_; refine o1 ?_
  refine ca (c_halves1 hy hly) ok109 ⟨a1 rfl, rfl⟩ (.one (.t (sI false (dg 65536 (vl 4294967296 ys))))) ?_; refine o1 ?_; refine o1 ?_; refine nl ?_; refine sq ?_; refine sq ?_
  have hdx := dg_half_len (v := vl 4294967296 xs) (L := xs.length) (by rw [dg_vl (by omega) hlx]; exact trim_length _)
  have hdy := dg_half_len (v := vl 4294967296 ys) (L := ys.length) (by rw [dg_vl (by omega) hly]; exact trim_length _)
  have hX := Lim_dg (B := 65536) (by omega) (vl 4294967296 xs)
  have hY := Lim_dg (B := 65536) (by omega) (vl 4294967296 ys)
  have hvX := vl_dg (B := 65536) (by omega) (vl 4294967296 xs)
  have hvY := vl_dg (B := 65536) (by omega) (vl 4294967296 ys)
  generalize dg 65536 (vl 4294967296 xs) = X at hdx hX hvX ⊢; generalize dg 65536 (vl 4294967296 ys) = Y at hdy hY hvY ⊢; refine rl ?_; (iterate 5 refine o1 ?_)
  refine WL.cast (t := 16) (u' := .int .i64 ((max X.length Y.length : Nat) : Int)) rfl (cint (by omega)) ?_
  refine o1 ?_; refine o1 ?_; refine nl ?_; refine bl ?_
  refine lp (γ := Nat) (fun k => frL [(5, .one (.t (sI false X))), (6, .one (.t (sI false Y))), (7, .one (tv (.int .i64 ((k : Nat) - 1))))]) (fun k => ([] : List Ob).map some) (fun k => (∀ j, k ≤ j → nth X j = nth Y j) ∧ k ≤ max X.length Y.length) (fun k => k) (max X.length Y.length) ⟨fun j hj => by rw [nth_out (by omega), nth_out (by omega)], Nat.le_refl _⟩ (su0 h0 [] _ _ (by decide) ⟨rfl, rfl, rfl, trivial⟩ rfl) fun k hk => ?_
  refine sq ?_; refine sq ?_; refine rl ?_; refine o1 ?_; refine o1 ?_; refine nl ?_; refine cdp rfl (fun h1 => ?_) (fun h1 => ?_)
  ·
    refine sk ?_; refine sq ?_; refine bl ?_; refine sq ?_; refine sq ?_; refine rl ?_; refine o1 ?_; refine o1 ?_
    refine WL.cast (t := 23) (u' := .int .i64 ((k - 1 : Nat) : Int)) rfl (cint (by omega)) ?_
    refine ca (c_at1) ok124 ⟨a1 rfl, a1 rfl, rfl⟩ (.one (tv (.int .i64 ((nth X (k - 1) : Nat) : Int)))) ?_; refine o1 ?_; refine o1 ?_
    refine WL.cast (t := 26) (u' := .int .i64 ((k - 1 : Nat) : Int)) rfl (cint (by omega)) ?_
    refine ca (c_at1) ok124 ⟨a1 rfl, a1 rfl, rfl⟩ (.one (tv (.int .i64 ((nth Y (k - 1) : Nat) : Int)))) ?_; refine o1 ?_; refine nl ?_; refine cdp rfl (fun h2 => ?_) (fun h2 => ?_)
    ·
      refine sq ?_; refine rl ?_; refine o1 ?_; refine nl ?_; refine rt ?_; refine en (.inl rfl) rfl (pk1 (pkv _)) (by decide) (fun _ => trivial) (congrArg (fun z => FV.one (tv (.int .i64 z))) ?_)
      have he := lt_at (X := X) (Y := Y) (k := k - 1) hX (fun j hj => hk.1 j (by omega)) (by omega)
      rw [hvX, hvY] at he; rw [Int.sign_eq_neg_one_of_neg (by omega)]
    ·
      refine sk ?_; refine sq ?_; refine rl ?_; refine o1 ?_; refine o1 ?_; refine WL.cast (t := 30) (u' := .int .i64 ((k - 1 : Nat) : Int)) rfl (cint (by omega)) ?_
      refine ca (c_at1) ok124 ⟨a1 rfl, a1 rfl, rfl⟩ (.one (tv (.int .i64 ((nth X (k - 1) : Nat) : Int)))) ?_; refine o1 ?_; refine o1 ?_
      refine WL.cast (t := 33) (u' := .int .i64 ((k - 1 : Nat) : Int)) rfl (cint (by omega)) ?_
      refine ca (c_at1) ok124 ⟨a1 rfl, a1 rfl, rfl⟩ (.one (tv (.int .i64 ((nth Y (k - 1) : Nat) : Int)))) ?_; refine o1 ?_; refine nl ?_; refine cdp rfl (fun h3 => ?_) (fun h3 => ?_)
      ·
        refine sq ?_; refine rl ?_; refine o1 ?_; refine nl ?_; refine rt ?_; refine en (.inl rfl) rfl (pk1 (pkv _)) (by decide) (fun _ => trivial) (congrArg (fun z => FV.one (tv (.int .i64 z))) ?_)
        have he := lt_at (X := Y) (Y := X) (k := k - 1) hY (fun j hj => (hk.1 j (by omega)).symm) (by omega)
        rw [hvX, hvY] at he; rw [Int.sign_eq_one_of_pos (by omega)]
      ·
        refine sk ?_; refine rl ?_; (iterate 3 refine o1 ?_); refine nl ?_
        exact ⟨k - 1, by omega, ⟨fun j hj => (Nat.eq_or_lt_of_le hj).elim (fun h9 => by rw [← h9]; omega) (fun h9 => hk.1 j (by omega)), by omega⟩, su0 h0 [] _ _ (by decide) ⟨rfl, rfl, congrArg (fun z => some (FV.one (tv (.int .i64 z)))) (by omega), trivial⟩ rfl⟩
  ·
    refine ex ?_; refine sq ?_; refine rl ?_; refine o1 ?_; refine nl ?_; refine rt ?_
    refine en (.inl rfl) rfl (pk1 (pkv _)) (by decide) (fun _ => trivial) (congrArg (fun z => FV.one (tv (.int .i64 z))) ?_)
    have he := eq_all (fun j => hk.1 j (by omega))
    rw [hvX, hvY] at he; rw [he, Int.sub_self]; rfl
theorem c_Add1 {xs ys : List Nat} (hx : xs.length ≤ 1099511627776) (hlx : Lim 4294967296 xs) (hy : ys.length ≤ 1099511627776) (hly : Lim 4294967296 ys) : Spec true Tryz.prog 105 [] [.one (.t (sU false xs)), .one (.t (sU false ys))] (Ret (.one (.t (sU true (dg 4294967296 (vl 4294967296 xs + vl 4294967296 ys)))))) := by
  refine fn0 Tryz.func105 rfl Tryz.ntmps105 rfl ttok rfl fun N w c0 h0 => ?_
  refine sq ?_; refine rl ?_; refine o1 ?_; refine nl ?_; refine sq ?_; refine rl ?_; refine o1 ?_
  refine ca (c_halves1 hx hlx) ok109 ⟨a1 rfl, rfl⟩ (.one (.t (sI false (dg 65536 (vl 4294967296 xs))))) ?_; refine o1 ?_
  refine ca (c_halves1 hy hly) ok109 ⟨a1 rfl, rfl⟩ (.one (.t (sI false (dg 65536 (vl 4294967296 ys))))) ?_; refine o1 ?_; refine o1 ?_; refine nl ?_; refine sq ?_
  have hdx := dg_half_len (v := vl 4294967296 xs) (L := xs.length) (by rw [dg_vl (by omega) hlx]; exact trim_length _)
  have hdy := dg_half_len (v := vl 4294967296 ys) (L := ys.length) (by rw [dg_vl (by omega) hly]; exact trim_length _)
  have hX := Lim_dg (B := 65536) (by omega) (vl 4294967296 xs)
  have hY := Lim_dg (B := 65536) (by omega) (vl 4294967296 ys)
  have hvX := vl_dg (B := 65536) (by omega) (vl 4294967296 xs)
  have hvY := vl_dg (B := 65536) (by omega) (vl 4294967296 ys)
  generalize dg 65536 (vl 4294967296 xs) = X at hdx hX hvX ⊢; generalize dg 65536 (vl 4294967296 ys) = Y at hdy hY hvY ⊢; refine rl ?_; refine o1 ?_; refine nl ?_; refine sq ?_; refine rl ?_
  refine o1 ?_; refine nl ?_; refine sq ?_; refine sq ?_; refine rl ?_; refine o1 ?_; refine nl ?_; refine bl ?_
  refine lp (γ := Nat × Nat × List Nat) (fun s => frL [(5, .one (.t (sI false X))), (6, .one (.t (sI false Y))), (7, .one (.sl 0 0 s.1)), (8, .one (tv (.int .i64 ((s.2.1 : Nat) : Int)))), (9, .one (tv (.int .i64 ((s.1 : Nat) : Int))))]) (fun s => [(⟨3, 1, (i64T s.2.2).map .t⟩ : Ob)].map some) (fun s => s.2.2.length = s.1 ∧ Lim 65536 s.2.2 ∧ vl 65536 s.2.2 + 65536 ^ s.1 * s.2.1 = vl 65536 (X.take s.1) + vl 65536 (Y.take s.1) ∧ s.2.1 ≤ 1 ∧ (s.1 ≤ max X.length Y.length ∨ s.1 = max X.length Y.length + 1 ∧ s.2.1 = 0)) (fun s => max X.length Y.length + 1 - s.1) (0, 0, []) ⟨rfl, Lim.nil, rfl, Nat.zero_le _, .inl (Nat.zero_le _)⟩ ((nr (i := 7) 0 3 1 rfl rfl rfl rfl).trans (su0 h0 [0] _ _ (by decide) ⟨rfl, rfl, rfl, rfl, rfl, trivial⟩ ⟨oet (l := []) rfl, rfl⟩)) ?_
  rintro ⟨k, cr, os⟩ ⟨hos, hol, hv, hc1, hkm⟩; dsimp only at hos hol hv hc1 hkm ⊢; have hn1 := hX.nth (by omega) k
  have hn2 := hY.nth (by omega) k
  refine sq ?_; refine sq ?_; refine rl ?_; (iterate 6 refine o1 ?_); refine WL.cast (t := 20) (u' := .int .i64 ((max X.length Y.length : Nat) : Int)) rfl (cint (by omega)) ?_
  refine o1 ?_; refine o1 ?_; refine WL.split (t := 22) rfl (fun h1 => ?_) (fun h1 => ?_)
  ·
    refine no_ ?_; refine no_ ?_; refine o1 ?_; refine nl ?_; refine cdt rfl ?_; refine sk ?_; refine sq ?_; refine bl ?_; refine sq ?_; refine rl ?_; refine o1 ?_; refine o1 ?_
    refine ca (c_at1) ok124 ⟨a1 rfl, a1 rfl, rfl⟩ (.one (tv (.int .i64 ((nth X (k) : Nat) : Int)))) ?_; refine o1 ?_; refine o1 ?_
    refine ca (c_at1) ok124 ⟨a1 rfl, a1 rfl, rfl⟩ (.one (tv (.int .i64 ((nth Y (k) : Nat) : Int)))) ?_; (iterate 3 refine o1 ?_)
    refine WL.cast (t := 36) (u' := .int .i64 ((nth X k + nth Y k + cr : Nat) : Int)) rfl (cint (by omega)) ?_
    refine o1 ?_; refine nl ?_; refine sq ?_; refine rl ?_; (iterate 3 refine o1 ?_)
    refine WL.cast (t := 39) (u' := .int .i64 (((nth X k + nth Y k + cr) % 65536 : Nat) : Int)) rfl (cint (rem_nat _ 65536)) ?_; refine bs 1 ?_
    refine w_app (j := 2) ttok rfl rfl rfl rfl (.sl rfl (by rw [List.length_map, i64T_len, hos]; omega)) (.sl rfl rfl rfl) rfl rfl rfl (by omega) (by omega) ?_
    refine o1 ?_; refine nl ?_; refine rl ?_; refine o1 ?_; refine o1 ?_ (hC := (quo_in 65536 (by omega) (by simp only [InR]; omega)))
    refine WL.cast (t := 43) (u' := .int .i64 (((nth X k + nth Y k + cr) / 65536 : Nat) : Int)) rfl (cint (quo_nat _ 65536)) ?_; refine o1 ?_; refine nl ?_; refine rl ?_; (iterate 3 refine o1 ?_)
    refine nl ?_; have hst := add_step hos hv
    have hz1 : X.length ≤ k → nth X k = 0 := fun h => nth_out (by omega)
    have hz2 : Y.length ≤ k → nth Y k = 0 := fun h => nth_out (by omega)
    exact ⟨(k + 1, (nth X k + nth Y k + cr) / 65536, os ++ [(nth X k + nth Y k + cr) % 65536]), by dsimp only; omega, ⟨by simp [hos], hol.append (Lim.cons (Nat.mod_lt _ (by omega)) Lim.nil), hst, by dsimp only; omega, by dsimp only; omega⟩, su0 h0 [2] _ _ (by decide) ⟨rfl, rfl, rfl, rfl, rfl, trivial⟩ ⟨oeI rfl (i64T_app _ [(nth X k + nth Y k + cr) % 65536]) rfl, rfl⟩⟩
  ·
    (iterate 3 refine o1 ?_); refine nl ?_; refine cdp rfl (fun h2 => ?_) (fun h2 => ?_)
    ·
      refine sk ?_; refine sq ?_; refine bl ?_; refine sq ?_; refine rl ?_; refine o1 ?_; refine o1 ?_
      refine ca (c_at1) ok124 ⟨a1 rfl, a1 rfl, rfl⟩ (.one (tv (.int .i64 ((nth X (k) : Nat) : Int)))) ?_; refine o1 ?_; refine o1 ?_
      refine ca (c_at1) ok124 ⟨a1 rfl, a1 rfl, rfl⟩ (.one (tv (.int .i64 ((nth Y (k) : Nat) : Int)))) ?_; (iterate 3 refine o1 ?_)
      refine WL.cast (t := 36) (u' := .int .i64 ((nth X k + nth Y k + cr : Nat) : Int)) rfl (cint (by omega)) ?_
      refine o1 ?_; refine nl ?_; refine sq ?_; refine rl ?_; (iterate 3 refine o1 ?_)
      refine WL.cast (t := 39) (u' := .int .i64 (((nth X k + nth Y k + cr) % 65536 : Nat) : Int)) rfl (cint (rem_nat _ 65536)) ?_; refine bs 1 ?_
      refine w_app (j := 2) ttok rfl rfl rfl rfl (.sl rfl (by rw [List.length_map, i64T_len, hos]; omega)) (.sl rfl rfl rfl) rfl rfl rfl (by omega) (by omega) ?_
      refine o1 ?_; refine nl ?_; refine rl ?_; refine o1 ?_; refine o1 ?_ (hC := (quo_in 65536 (by omega) (by simp only [InR]; omega)))
      refine WL.cast (t := 43) (u' := .int .i64 (((nth X k + nth Y k + cr) / 65536 : Nat) : Int)) rfl (cint (quo_nat _ 65536)) ?_; refine o1 ?_; refine nl ?_; refine rl ?_; (iterate 3 refine o1 ?_)
      refine nl ?_; have hst := add_step hos hv
      have hz1 : X.length ≤ k → nth X k = 0 := fun h => nth_out (by omega)
      have hz2 : Y.length ≤ k → nth Y k = 0 := fun h => nth_out (by omega)
      exact ⟨(k + 1, (nth X k + nth Y k + cr) / 65536, os ++ [(nth X k + nth Y k + cr) % 65536]), by dsimp only; omega, ⟨by simp [hos], hol.append (Lim.cons (Nat.mod_lt _ (by omega)) Lim.nil), hst, by dsimp only; omega, by dsimp only; omega⟩, su0 h0 [2] _ _ (by decide) ⟨rfl, rfl, rfl, rfl, rfl, trivial⟩ ⟨oeI rfl (i64T_app _ [(nth X k + nth Y k + cr) % 65536]) rfl, rfl⟩⟩
    ·
      refine ex ?_; refine sq ?_; refine rl ?_; have hc0 : cr = 0 := by omega
      rw [hc0, Nat.mul_zero, Nat.add_zero, vl_take_all 65536 (by omega), vl_take_all 65536 (by omega), hvX, hvY] at hv
      refine WL.sub (fzI (i := 7) (zs' := os) rfl rfl rfl (by omega) rfl) ?_
      refine o1 ?_; refine cak 1 (c_limbs1 (by omega) (by assumption)) ok108 ⟨a1 rfl, rfl⟩ ?_
      refine o1 ?_; refine nl ?_; refine rt ?_
      exact en (.inl rfl) rfl (pk1 (.one (.sl (trs := u32T (dg 4294967296 (vl 65536 os))) rfl rfl (tk_u32 _) (ln_u32 _)))) (by decide) (fun _ => .inl ⟨rfl, nofr_u32 _⟩) (by rw [hv]; rfl)
theorem c_Sub1 {xs ys : List Nat} (hx : xs.length ≤ 1099511627776) (hlx : Lim 4294967296 xs) (hy : ys.length ≤ 1099511627776) (hly : Lim 4294967296 ys) : Spec true Tryz.prog 106 [] [.one (.t (sU false xs)), .one (.t (sU false ys))] (Ret (.tup [.one (.t (sU true (dg 4294967296 (vl 4294967296 xs - vl 4294967296 ys)))), .one (tv (.int .i64 (if vl 4294967296 xs < vl 4294967296 ys then 2 else 0)))])) := by
  refine fn0 Tryz.func106 rfl Tryz.ntmps106 rfl ttok rfl fun N w c0 h0 => ?_
  refine sq ?_; refine rl ?_; refine o1 ?_; refine o1 ?_; refine nl ?_; refine sq ?_; refine sq ?_; refine rl ?_; refine o1 ?_; refine o1 ?_
  refine ca (c_Cmp1 hx hlx hy hly) ok115 ⟨a1 rfl, a1 rfl, rfl⟩ (.one (tv (.int .i64 (((vl 4294967296 xs : Nat) : Int) - ((vl 4294967296 ys : Nat) : Int)).sign))) ?_; refine o1 ?_; refine nl ?_
  refine cdp rfl (fun h1 => ?_) (fun h1 => ?_)
  ·
    refine sq ?_; refine rl ?_; refine o1 ?_; refine o1 ?_; refine nl ?_; refine rt ?_; have hlt := sub_lt h1
    exact en (.inl rfl) rfl (pkt (.cons (.one (.nil (t := 104) (z := 1))) (.cons (pkv _) .nil))) (by decide) (fun _ => ⟨.inl ⟨rfl, trivial⟩, trivial, trivial⟩) (by rw [Nat.sub_eq_zero_of_le (Nat.le_of_lt hlt), if_pos hlt]; rfl)
  ·
    refine sk ?_; refine sq ?_; refine rl ?_; refine o1 ?_; refine ca (c_halves1 hx hlx) ok109 ⟨a1 rfl, rfl⟩ (.one (.t (sI false (dg 65536 (vl 4294967296 xs))))) ?_; refine o1 ?_
    refine ca (c_halves1 hy hly) ok109 ⟨a1 rfl, rfl⟩ (.one (.t (sI false (dg 65536 (vl 4294967296 ys))))) ?_; refine o1 ?_; refine o1 ?_; refine nl ?_; refine sq ?_
    have hge : vl 4294967296 ys ≤ vl 4294967296 xs := sub_ge h1
    have hyx := dg_length_mono (B := 65536) (by omega) hge
    have hdx := dg_half_len (v := vl 4294967296 xs) (L := xs.length) (by rw [dg_vl (by omega) hlx]; exact trim_length _)
    have hdy := dg_half_len (v := vl 4294967296 ys) (L := ys.length) (by rw [dg_vl (by omega) hly]; exact trim_length _)
    have hX := Lim_dg (B := 65536) (by omega) (vl 4294967296 xs)
    have hY := Lim_dg (B := 65536) (by omega) (vl 4294967296 ys)
    have hvX := vl_dg (B := 65536) (by omega) (vl 4294967296 xs)
    have hvY := vl_dg (B := 65536) (by omega) (vl 4294967296 ys)
    generalize dg 65536 (vl 4294967296 xs) = X at hdx hX hvX hyx ⊢; generalize dg 65536 (vl 4294967296 ys) = Y at hdy hY hvY hyx ⊢; refine rl ?_; refine o1 ?_; refine nl ?_; refine sq ?_; refine rl ?_
    refine o1 ?_; refine nl ?_; refine sq ?_; refine sq ?_; refine rl ?_; refine o1 ?_; refine nl ?_; refine bl ?_
    refine lp (γ := Nat × Nat × List Nat) (fun s => frL [(6, .one (.t (sI false X))), (7, .one (.t (sI false Y))), (8, .one (.sl 0 0 s.1)), (9, .one (tv (.int .i64 ((s.2.1 : Nat) : Int)))), (10, .one (tv (.int .i64 ((s.1 : Nat) : Int))))]) (fun s => [(⟨3, 1, (i64T s.2.2).map .t⟩ : Ob)].map some) (fun s => s.2.2.length = s.1 ∧ Lim 65536 s.2.2 ∧ vl 65536 s.2.2 + vl 65536 (Y.take s.1) = vl 65536 (X.take s.1) + 65536 ^ s.1 * s.2.1 ∧ s.2.1 ≤ 1 ∧ s.1 ≤ X.length) (fun s => X.length - s.1) (0, 0, []) ⟨rfl, Lim.nil, rfl, Nat.zero_le _, Nat.zero_le _⟩ ((nr (i := 8) 0 3 1 rfl rfl rfl rfl).trans (su0 h0 [0] _ _ (by decide) ⟨rfl, rfl, rfl, rfl, rfl, trivial⟩ ⟨oet (l := []) rfl, rfl⟩)) ?_
    rintro ⟨k, br, os⟩ ⟨hos, hol, hv, hc1, hkm⟩; dsimp only at hos hol hv hc1 hkm ⊢; have hn1 := hX.nth (by omega) k
    have hn2 := hY.nth (by omega) k
    refine sq ?_; refine sq ?_; refine rl ?_; (iterate 4 refine o1 ?_); refine nl ?_; refine cdp rfl (fun h2 => ?_) (fun h2 => ?_)
    ·
      refine sk ?_; refine sq ?_; refine bl ?_; refine sq ?_; refine rd [] (fun i => [10].contains i) mixed ?_
      refine dv 0 ?_; refine dv 1 ?_; refine dv 2 ?_; refine dlr 3 ([.v (.int .i64 ((nth X (k) : Nat) : Int))]) (i64_at X (k := k) (by omega)) ?_
      refine dv 4 ?_; refine dv 5 ?_; refine dv 8 ?_; refine dca 6 rfl (c_at1) ok124 ⟨a1 rfl, a1 rfl, rfl⟩ (.one (tv (.int .i64 ((nth Y (k) : Nat) : Int)))) ?_; refine df 7 ?_; refine df 9 ?_
      refine d_v 10 (by kernel_rfl) rfl rfl ttok rfl (by trivial) ?_ (fun h => by first | rfl | cases h)
      refine dz0 ?_; refine sq ?_; refine rl ?_; refine o1 ?_; refine nl ?_; refine sq ?_; refine sq ?_; refine rl ?_; refine o1 ?_; refine o1 ?_; refine nl ?_
      refine cdp rfl (fun h3 => ?_) (fun h3 => ?_)
      ·
        refine sq ?_; refine rl ?_; (iterate 3 refine o1 ?_); refine nl ?_; refine rl ?_; refine o1 ?_; refine nl ?_; refine rl ?_
        refine WL.cast (t := 11) (u' := .int .i64 (((nth X k + 65536 - nth Y k - br : Nat)) : Int)) rfl (cint (by omega)) ?_
        refine o1 ?_; refine o1 ?_; refine bs 1 ?_
        refine w_app (j := 2) ttok rfl rfl rfl rfl (.sl rfl (by rw [List.length_map, i64T_len, hos]; omega)) (.sl rfl rfl rfl) rfl rfl rfl (by omega) (by omega) ?_
        refine o1 ?_; refine nl ?_; refine rl ?_; (iterate 3 refine o1 ?_); refine nl ?_; have hst := sub_step (d := nth X k + 65536 - nth Y k - br) (br' := 1) hos hv (by omega)
        exact ⟨(k + 1, 1, os ++ [nth X k + 65536 - nth Y k - br]), by dsimp only; omega, ⟨by simp [hos], hol.append (Lim.cons (by omega) Lim.nil), hst, by dsimp only; omega, by dsimp only; omega⟩, su0 h0 [2] _ _ (by decide) ⟨rfl, rfl, rfl, rfl, rfl, trivial⟩ ⟨oeI rfl (i64T_app _ [nth X k + 65536 - nth Y k - br]) rfl, rfl⟩⟩
      ·
        refine sk ?_; refine rl ?_; refine WL.cast (t := 11) (u' := .int .i64 (((nth X k - nth Y k - br : Nat)) : Int)) rfl (cint (by omega)) ?_
        refine o1 ?_; refine o1 ?_; refine bs 1 ?_
        refine w_app (j := 2) ttok rfl rfl rfl rfl (.sl rfl (by rw [List.length_map, i64T_len, hos]; omega)) (.sl rfl rfl rfl) rfl rfl rfl (by omega) (by omega) ?_
        refine o1 ?_; refine nl ?_; refine rl ?_; (iterate 3 refine o1 ?_); refine nl ?_; have hst := sub_step (d := nth X k - nth Y k - br) (br' := 0) hos hv (by omega)
        exact ⟨(k + 1, 0, os ++ [nth X k - nth Y k - br]), by dsimp only; omega, ⟨by simp [hos], hol.append (Lim.cons (by omega) Lim.nil), hst, by dsimp only; omega, by dsimp only; omega⟩, su0 h0 [2] _ _ (by decide) ⟨rfl, rfl, rfl, rfl, rfl, trivial⟩ ⟨oeI rfl (i64T_app _ [nth X k - nth Y k - br]) rfl, rfl⟩⟩
    ·
      refine ex ?_; refine sq ?_; refine rl ?_; have hoo := vl_lt hol
      rw [hos] at hoo; rw [vl_take_all 65536 (l := X) (by omega), vl_take_all 65536 (l := Y) (by omega), hvX, hvY] at hv
      have hb0 : br = 0 := by
        rcases Nat.eq_zero_or_pos br with h0 | h0
        · exact h0
        · have h1 : br = 1 := by omega
          rw [h1, Nat.mul_one, show k = X.length by omega] at hv
          rw [show k = X.length by omega] at hoo
          omega
      rw [hb0, Nat.mul_zero, Nat.add_zero] at hv; have he : vl 65536 os = vl 4294967296 xs - vl 4294967296 ys := by omega
      refine WL.sub (fzI (i := 8) (zs' := os) rfl rfl rfl (by omega) rfl) ?_
      refine o1 ?_; refine cak 1 (c_limbs1 (by omega) (by assumption)) ok108 ⟨a1 rfl, rfl⟩ ?_
      refine o1 ?_; refine o1 ?_; refine nl ?_; refine rt ?_
      exact en (.inl rfl) rfl (pkt (.cons (.one (.sl (trs := u32T (dg 4294967296 (vl 65536 os))) rfl rfl (tk_u32 _) (ln_u32 _))) (.cons (pkv _) .nil))) (by decide) (fun _ => ⟨.inl ⟨rfl, nofr_u32 _⟩, trivial, trivial⟩) (by rw [he, if_neg (by omega)]; rfl)
end Go.Proofs.YtogaallfhifngaaGreat
namespace Go.Proofs.YtogaallfhifngaaGreat
open Go Go.RowKit
theorem c_Right3 {a : Zi} {k : Int} (ha : Zn a k) : Spec true Tryz.prog 78 [] [gF a] (Ret (.one (tv (.bool (rightI a.s a.x))))) := by
  refine fn0 Tryz.func78 rfl Tryz.ntmps78 rfl ttok rfl fun N w c0 h0 => ?_
  have hal := ha.2.1
  refine sq ?_; refine rl ?_; refine bx 0 ?_; refine o1 ?_; refine nl ?_; refine sq ?_; refine sq ?_; refine rl ?_; refine o1 ?_; refine ld ?_; refine o1 ?_; refine o1 ?_; refine nl ?_
  refine cdp rfl (fun h1 => ?_) (fun h1 => ?_)
  ·
    refine sq ?_; refine rl ?_; refine o1 ?_; refine ld ?_; refine WL.splitb (t := 8) rfl (fun h2 => ?_) (fun h2 => ?_)
    ·
      refine o1 ?_; refine o1 ?_; refine nl ?_; refine rt ?_; refine en (.inl rfl) rfl (pk1 (pkv _)) (by decide) (fun _ => trivial) (congrArg (fun b => FV.one (tv (.bool b))) ?_)
      rw [rightI_nil (by omega)]; simp_all
    ·
      refine o1 ?_; refine o1 ?_; refine nl ?_; refine rt ?_; refine en (.inl rfl) rfl (pk1 (pkv _)) (by decide) (fun _ => trivial) (congrArg (fun b => FV.one (tv (.bool b))) ?_)
      rw [rightI_nil (by omega)]; simp_all
  ·
    refine sk ?_; refine sq ?_; refine rl ?_; refine o1 ?_; refine ld ?_; refine o1 ?_; refine ld ?_; refine o1 ?_; refine o1 ?_
    refine WL.cast (t := 15) (u' := .int .i64 ((a.x.length - 1 : Nat) : Int)) rfl (cint (by omega)) ?_
    refine o1 ?_; refine ldf ([.v (.int .u32 ((nth a.x (a.x.length - 1) : Nat) : Int))]) (u32_at a.x (k := a.x.length - 1) (by omega)) ?_
    refine o1 ?_; refine o1 ?_; refine nl ?_; refine rt ?_; refine en (.inl rfl) rfl (pk1 (pkv _)) (by decide) (fun _ => trivial) (congrArg (fun b => FV.one (tv (.bool b))) ?_)
    exact (rightI_pos rfl (by omega)).symm
theorem c_plain3 {a : Zi} {k : Int} (ha : Zn a k) : Spec false Tryz.prog 102 [] [gF a] (Ret (kF k)) := by
  refine fn0 Tryz.func102 rfl Tryz.ntmps102 rfl ttok rfl fun N w c0 h0 => ?_
  refine sq ?_; refine rl ?_; refine bx 0 ?_; refine al 1 ?_; refine nl ?_; refine sq ?_; refine sq ?_; refine rl ?_; refine ld ?_
  refine ca (c_Right3 ha) ok78 ⟨a1g rfl, rfl⟩ (.one (tv (.bool (rightI a.s a.x)))) ?_; refine WL.splitb (t := 4) rfl (fun h1 => ?_) (fun h1 => ?_)
  ·
    refine o1 ?_; refine nl ?_; refine cdf rfl ?_; refine sk ?_; refine sq ?_; refine rl ?_; refine ld ?_; refine st ?_; refine nl ?_; refine rt ?_
    exact en (.inl rfl) rfl (pk1 (.agg (.read _ (l := [.v (.bool a.s), sU false a.x]) rfl))) (by decide) (fun h => by cases h) (kF_right ha h1)
  ·
    refine o1 ?_; refine nl ?_; refine cdt rfl ?_; refine sq ?_; refine rl ?_; refine o1 ?_; refine st ?_; refine nl ?_; refine rt ?_
    exact en (.inl rfl) rfl (pk1 (.agg (.cons (.id rfl) (.cons .nilf .nil)))) (by decide) (fun h => by cases h) (by rw [ha.wrong h1]; exact kF_zero)
theorem c_made3 {b : Bool} {xs : List Nat} {K : Int} (hx : xs.length ≤ 1099511627776) (hl : Lim 4294967296 xs) (hK : sgn b (vl 4294967296 xs) = K) : Spec true Tryz.prog 63 [] [.one (tv (.bool b)), .one (.t (sU false xs))] (Ret (kO K)) := by
  refine fn0 Tryz.func63 rfl Tryz.ntmps63 rfl ttok rfl fun N w c0 h0 => ?_
  refine sq ?_; refine rl ?_; refine al 0 ?_; refine nl ?_; refine sq ?_; refine rl ?_; refine o1 ?_; refine cak 1 (c_Trim1 hx hl) ok83 ⟨a1 rfl, rfl⟩ ?_; refine o1 ?_; refine nl ?_; refine sq ?_
  refine rl ?_; refine o1 ?_; refine o1 ?_; refine WL.splitb (t := 9) rfl (fun h1 => ?_) (fun h1 => ?_)
  ·
    (iterate 6 refine o1 ?_); refine st ?_; refine nl ?_; refine rt ?_
    exact en (.inl rfl) rfl (pk1 (.agg (.cons (.id rfl) (.cons (.sl (trs := u32T (dg 4294967296 (vl 4294967296 xs))) rfl rfl (tk_u32 _) (ln_u32 _)) .nil)))) (by decide) (fun _ => nofr_zm _ _) (hK ▸ kO_eq (by rw [← sgn_dg rfl, h1, Bool.true_and]; exact decide_eq_decide.2 (by omega)) (sgn_abs _ _).symm)
  ·
    (iterate 3 refine no_ ?_); (iterate 3 refine o1 ?_); refine st ?_; refine nl ?_; refine rt ?_
    exact en (.inl rfl) rfl (pk1 (.agg (.cons (.id rfl) (.cons (.sl (trs := u32T (dg 4294967296 (vl 4294967296 xs))) rfl rfl (tk_u32 _) (ln_u32 _)) .nil)))) (by decide) (fun _ => nofr_zm _ _) (hK ▸ kO_eq (by rw [← sgn_dg rfl, h1]; rfl) (sgn_abs _ _).symm)
theorem c_Of3 {n : Int} (h1 : -9223372036854775808 ≤ n) (h2 : n ≤ 9223372036854775807) : Spec true Tryz.prog 38 [] [.one (tv (.int .i64 n))] (Ret (kO n)) := by
  refine fn0 Tryz.func38 rfl Tryz.ntmps38 rfl ttok rfl fun N w c0 h0 => ?_
  obtain ⟨hr1, hr2, hq1, hq2, hv1, hv2⟩ := of_parts h1 h2
  refine sq ?_; refine rl ?_; refine al 0 ?_; refine nl ?_; refine sq ?_; refine rl ?_; (iterate 3 refine o1 ?_); refine o1 ?_ (hC := (by exact ⟨by omega, by simp only [InR]; omega⟩))
  refine o1 ?_; refine o1 ?_; refine nl ?_; refine sq ?_; refine rl ?_; (iterate 6 refine o1 ?_)
  refine WL.cast (t := 14) (u' := .int .i64 (((Int.tmod n 4294967296).natAbs : Nat) : Int)) rfl (cint (by omega)) ?_
  refine o1 ?_; refine WL.cast (t := 15) (u' := .int .u32 (((Int.tmod n 4294967296).natAbs : Nat) : Int)) rfl (cint (by omega)) ?_
  (iterate 4 refine o1 ?_); refine WL.cast (t := 19) (u' := .int .i64 (((Int.tdiv n 4294967296).natAbs : Nat) : Int)) rfl (cint (by omega)) ?_
  refine o1 ?_; refine WL.cast (t := 20) (u' := .int .u32 (((Int.tdiv n 4294967296).natAbs : Nat) : Int)) rfl (cint (by omega)) ?_
  refine bs 1 ?_
  refine WL.sub (fzU (i := 21) (zs := [(Int.tmod n 4294967296).natAbs, (Int.tdiv n 4294967296).natAbs]) (zs' := [(Int.tmod n 4294967296).natAbs, (Int.tdiv n 4294967296).natAbs]) rfl rfl rfl rfl rfl) ?_
  refine cak 2 (c_made3 (K := n) (by simp) (Lim.cons (by omega) (Lim.cons (by omega) Lim.nil)) (of_val hv1)) ok63 ⟨a1 rfl, a1 rfl, rfl⟩ ?_
  refine st ?_; refine nl ?_; refine rt ?_
  exact en (.inl rfl) rfl (pk1 (.agg (.cons (.id rfl) (.cons (.sl (trs := u32T (dg 4294967296 (n).natAbs)) rfl rfl (tk_u32 _) (ln_u32 _)) .nil)))) (by decide) (fun _ => nofr_z (n)) rfl
theorem c_Cmp3 {a b : Zi} {k k' : Int} (ha : Zn a k) (hb : Zn b k') : Spec true Tryz.prog 95 [] [gF a, gF b] (Ret (.one (tv (.int .i64 (k - k').sign)))) := by
  refine fn0 Tryz.func95 rfl Tryz.ntmps95 rfl ttok rfl fun N w c0 h0 => ?_
  have hkl := ha.len
  have hkl' := hb.len
  refine sq ?_; refine rl ?_; refine bx 0 ?_; refine bx 1 ?_; refine o1 ?_; refine nl ?_; refine sq ?_; refine rl ?_; refine ld ?_; refine ca (c_plain3 ha) ok102 ⟨a1g rfl, rfl⟩ (kF (k)) ?_
  refine st ?_; refine nl ?_; refine sq ?_; refine rl ?_; refine ld ?_; refine ca (c_plain3 hb) ok102 ⟨a1g rfl, rfl⟩ (kF (k')) ?_; refine st ?_; refine nl ?_; refine sq ?_; refine bl ?_; refine sq ?_
  refine rl ?_; refine o1 ?_; refine ld ?_; refine o1 ?_; refine WL.splitb (t := 12) rfl (fun h1 => ?_) (fun h1 => ?_)
  ·
    refine o1 ?_; refine ld ?_; refine WL.splitb (t := 14) rfl (fun h2 => ?_) (fun h2 => ?_)
    ·
      (iterate 3 refine o1 ?_); refine nl ?_; refine cdf rfl ?_; refine sq ?_; refine rl ?_; refine o1 ?_; refine ld ?_; refine o1 ?_; refine WL.cast (t := 20) rfl (congrArg Value.bool h2) ?_
      refine o1 ?_; refine ld ?_; refine WL.cast (t := 22) rfl (congrArg Value.bool h1) ?_; (iterate 3 refine o1 ?_); refine nl ?_; refine cdf rfl ?_; refine sq ?_; refine rl ?_; refine o1 ?_
      refine ld ?_; refine o1 ?_; refine nl ?_; refine cdt (congrArg (fun b => FV.one (tv (.bool b))) h1) ?_
      refine sq ?_; refine rl ?_; refine o1 ?_; refine ld ?_; refine o1 ?_; refine ld ?_
      refine ca (c_Cmp1 (by omega) (Lim_dg (by omega) _) (by omega) (Lim_dg (by omega) _)) ok115 ⟨a1 rfl, a1 rfl, rfl⟩ (.one (tv (.int .i64 (((vl 4294967296 (dg 4294967296 (k').natAbs) : Nat) : Int) - ((vl 4294967296 (dg 4294967296 (k).natAbs) : Nat) : Int)).sign))) ?_
      refine o1 ?_; refine nl ?_; refine rt ?_; refine en (.inl rfl) rfl (pk1 (pkv _)) (by decide) (fun _ => trivial) (congrArg (fun z => FV.one (tv (.int .i64 z))) ?_)
      rw [natAbs_val, natAbs_val]; exact zcmp_nn h1 h2
    ·
      (iterate 3 refine o1 ?_); refine nl ?_; refine cdt rfl ?_; refine sq ?_; refine rl ?_; refine o1 ?_; refine nl ?_; refine rt ?_
      refine en (.inl rfl) rfl (pk1 (pkv _)) (by decide) (fun _ => trivial) (congrArg (fun z => FV.one (tv (.int .i64 z))) ?_)
      exact zcmp_pn h1 h2
  ·
    (iterate 3 refine no_ ?_); refine o1 ?_; refine o1 ?_; refine nl ?_; refine cdf rfl ?_; refine sq ?_; refine rl ?_; refine o1 ?_; refine ld ?_; refine o1 ?_
    refine WL.splitb (t := 20) rfl (fun h3 => ?_) (fun h3 => ?_)
    ·
      refine o1 ?_; refine ld ?_; refine WL.cast (t := 22) rfl (congrArg Value.bool h1) ?_; (iterate 3 refine o1 ?_); refine nl ?_; refine cdt rfl ?_; refine sq ?_; refine rl ?_; refine o1 ?_
      refine nl ?_; refine rt ?_; refine en (.inl rfl) rfl (pk1 (pkv _)) (by decide) (fun _ => trivial) (congrArg (fun z => FV.one (tv (.int .i64 z))) ?_)
      exact zcmp_np h1 h3
    ·
      (iterate 3 refine no_ ?_); refine o1 ?_; refine o1 ?_; refine nl ?_; refine cdf rfl ?_; refine sq ?_; refine rl ?_; refine o1 ?_; refine ld ?_; refine o1 ?_; refine nl ?_
      refine cdf (congrArg (fun b => FV.one (tv (.bool b))) h1) ?_
      refine sk ?_; refine sq ?_; refine rl ?_; refine o1 ?_; refine ld ?_; refine o1 ?_; refine ld ?_
      refine ca (c_Cmp1 (by omega) (Lim_dg (by omega) _) (by omega) (Lim_dg (by omega) _)) ok115 ⟨a1 rfl, a1 rfl, rfl⟩ (.one (tv (.int .i64 (((vl 4294967296 (dg 4294967296 (k).natAbs) : Nat) : Int) - ((vl 4294967296 (dg 4294967296 (k').natAbs) : Nat) : Int)).sign))) ?_
      refine o1 ?_; refine nl ?_; refine rt ?_; refine en (.inl rfl) rfl (pk1 (pkv _)) (by decide) (fun _ => trivial) (congrArg (fun z => FV.one (tv (.int .i64 z))) ?_)
      rw [natAbs_val, natAbs_val]; exact zcmp_pp h1 h3
theorem c_Sign3 {a : Zi} {k : Int} (ha : Zn a k) : Spec true Tryz.prog 70 [] [gF a] (Ret (.one (tv (.int .i64 k.sign)))) := by
  refine fn0 Tryz.func70 rfl Tryz.ntmps70 rfl ttok rfl fun N w c0 h0 => ?_
  have hkl := ha.len
  refine sq ?_; refine rl ?_; refine bx 0 ?_; refine o1 ?_; refine nl ?_; refine sq ?_; refine rl ?_; refine ld ?_; refine o1 ?_
  refine ca (c_Cmp3 ha zn0) ok95 ⟨a1g rfl, a1a rfl (.cons .t (.cons .nil .nil)), rfl⟩ (.one (tv (.int .i64 ((k) - (0)).sign))) ?_; refine o1 ?_; refine nl ?_; refine rt ?_
  exact en (.inl rfl) rfl (pk1 (pkv _)) (by decide) (fun _ => trivial) (congrArg (fun z => FV.one (tv (.int .i64 z))) (by rw [Int.sub_zero]))
theorem c_Neg3 {a : Zi} {k : Int} (ha : Zn a k) : Spec true Tryz.prog 96 [] [gF a] (Ret (kO (-k))) := by
  refine fn0 Tryz.func96 rfl Tryz.ntmps96 rfl ttok rfl fun N w c0 h0 => ?_
  have hkl := ha.len
  refine sq ?_; refine rl ?_; refine bx 0 ?_; refine al 1 ?_; refine nl ?_; refine sq ?_; refine rd [0, 1] (fun i => [8].contains i) mixed ?_
  refine dld 0 ?_; refine dld 4 ?_; refine dca 1 rfl (c_plain3 ha) ok102 ⟨a1g rfl, rfl⟩ (kF (k)) ?_; refine df 2 ?_; refine df 3 ?_; refine dca 5 rfl (c_plain3 ha) ok102 ⟨a1g rfl, rfl⟩ (kF (k)) ?_
  refine df 6 ?_; refine dck 2 7 rfl (c_made3 (K := -k) (by omega) (Lim_dg (by omega) _) (by rw [natAbs_val]; exact sgn_not k)) ok63 ⟨a1 rfl, a1 rfl, rfl⟩ ?_
  refine dst 8 ?_; refine dz0 ?_; refine rt ?_
  exact en (.inl rfl) rfl (pk1 (.agg (.cons (.id rfl) (.cons (.sl (trs := u32T (dg 4294967296 (-k).natAbs)) rfl rfl (tk_u32 _) (ln_u32 _)) .nil)))) (by decide) (fun _ => nofr_z (-k)) rfl
theorem c_Add3 {a b : Zi} {k k' : Int} (ha : Zn a k) (hb : Zn b k') : Spec true Tryz.prog 81 [] [gF a, gF b] (Ret (kO (k + k'))) := by
  refine fn0 Tryz.func81 rfl Tryz.ntmps81 rfl ttok rfl fun N w c0 h0 => ?_
  have hkl := ha.len
  have hkl' := hb.len
  refine sq ?_; refine rl ?_; refine bx 0 ?_; refine bx 1 ?_; refine al 2 ?_; refine nl ?_; refine sq ?_; refine rl ?_; refine ld ?_; refine ca (c_plain3 ha) ok102 ⟨a1g rfl, rfl⟩ (kF (k)) ?_
  refine st ?_; refine nl ?_; refine sq ?_; refine rl ?_; refine ld ?_; refine ca (c_plain3 hb) ok102 ⟨a1g rfl, rfl⟩ (kF (k')) ?_; refine st ?_; refine nl ?_; refine sq ?_; refine sq ?_; refine rl ?_
  refine o1 ?_; refine ld ?_; refine o1 ?_; refine ld ?_; refine o1 ?_; refine nl ?_; refine cdq rfl (fun h1 => ?_) (fun h1 => ?_)
  ·
    refine sq ?_; refine rd [0, 1, 2] (fun i => [8].contains i) mixed ?_
    refine dv 0 ?_; refine dld 1 ?_; refine dv 2 ?_; refine dld 3 ?_; refine dv 4 ?_; refine dld 5 ?_
    have hn2 := add_len (xs := (dg 4294967296 (k).natAbs)) (ys := (dg 4294967296 (k').natAbs)) (Lim_dg (by omega) _) (Lim_dg (by omega) _)
    refine dca 6 rfl (c_Add1 (by omega) (Lim_dg (by omega) _) (by omega) (Lim_dg (by omega) _)) ok105 ⟨a1 rfl, a1 rfl, rfl⟩ (.one (.t (sU false (dg 4294967296 (vl 4294967296 (dg 4294967296 (k).natAbs) + vl 4294967296 (dg 4294967296 (k').natAbs)))))) ?_
    refine dck 3 7 rfl (c_made3 (K := k + k') (by omega) (Lim_dg (by omega) _) (by simp only [vl_dg (B := 4294967296) (by omega)]; exact zadd_same rfl (eq_of_beq h1))) ok63 ⟨a1 rfl, a1 rfl, rfl⟩ ?_
    refine dst 8 ?_; refine dz0 ?_; refine rt ?_
    exact en (.inl rfl) rfl (pk1 (.agg (.cons (.id rfl) (.cons (.sl (trs := u32T (dg 4294967296 (k + k').natAbs)) rfl rfl (tk_u32 _) (ln_u32 _)) .nil)))) (by decide) (fun _ => nofr_z (k + k')) rfl
  ·
    refine sk ?_; refine sq ?_; refine rl ?_; refine o1 ?_; refine ld ?_; refine o1 ?_; refine ld ?_
    have hn3 := sub_len (xs := (dg 4294967296 (k).natAbs)) (ys := (dg 4294967296 (k').natAbs)) (Lim_dg (by omega) _)
    refine ca (c_Sub1 (by omega) (Lim_dg (by omega) _) (by omega) (Lim_dg (by omega) _)) ok106 ⟨a1 rfl, a1 rfl, rfl⟩ (.tup [.one (.t (sU false (dg 4294967296 (vl 4294967296 (dg 4294967296 (k).natAbs) - vl 4294967296 (dg 4294967296 (k').natAbs))))), .one (tv (.int .i64 (if vl 4294967296 (dg 4294967296 (k).natAbs) < vl 4294967296 (dg 4294967296 (k').natAbs) then 2 else 0)))]) ?_
    (iterate 5 refine o1 ?_); refine nl ?_; refine sq ?_; refine sq ?_; refine rl ?_; refine o1 ?_; refine o1 ?_; refine nl ?_; refine cdp rfl (fun h4 => ?_) (fun h4 => ?_)
    ·
      refine sq ?_; refine rl ?_; refine o1 ?_; refine ld ?_; refine o1 ?_
      refine cak 3 (c_made3 (K := k + k') (by omega) (Lim_dg (by omega) _) (by simp only [vl_dg (B := 4294967296) (by omega)]; exact zadd_ge rfl (ne_of_beq_false h1) (fun h8 => by rw [natAbs_val, natAbs_val, if_pos h8] at h4; omega))) ok63 ⟨a1 rfl, a1 rfl, rfl⟩ ?_
      refine st ?_; refine nl ?_; refine rt ?_
      exact en (.inl rfl) rfl (pk1 (.agg (.cons (.id rfl) (.cons (.sl (trs := u32T (dg 4294967296 (k + k').natAbs)) rfl rfl (tk_u32 _) (ln_u32 _)) .nil)))) (by decide) (fun _ => nofr_z (k + k')) rfl
    ·
      refine sk ?_; refine sq ?_; refine rl ?_; refine o1 ?_; refine ld ?_; refine o1 ?_; refine ld ?_
      have hn5 := sub_len (xs := (dg 4294967296 (k').natAbs)) (ys := (dg 4294967296 (k).natAbs)) (Lim_dg (by omega) _)
      refine ca (c_Sub1 (by omega) (Lim_dg (by omega) _) (by omega) (Lim_dg (by omega) _)) ok106 ⟨a1 rfl, a1 rfl, rfl⟩ (.tup [.one (.t (sU false (dg 4294967296 (vl 4294967296 (dg 4294967296 (k').natAbs) - vl 4294967296 (dg 4294967296 (k).natAbs))))), .one (tv (.int .i64 (if vl 4294967296 (dg 4294967296 (k').natAbs) < vl 4294967296 (dg 4294967296 (k).natAbs) then 2 else 0)))]) ?_
      (iterate 4 refine o1 ?_); refine nl ?_; refine sq ?_; refine rl ?_; refine o1 ?_; refine ld ?_; refine o1 ?_
      refine cak 3 (c_made3 (K := k + k') (by omega) (Lim_dg (by omega) _) (by simp only [vl_dg (B := 4294967296) (by omega)]; exact zadd_lt rfl (ne_of_beq_false h1) (Decidable.byContradiction fun h8 => h4 (by rw [natAbs_val, natAbs_val, if_neg h8])))) ok63 ⟨a1 rfl, a1 rfl, rfl⟩ ?_
      refine st ?_; refine nl ?_; refine rt ?_
      exact en (.inl rfl) rfl (pk1 (.agg (.cons (.id rfl) (.cons (.sl (trs := u32T (dg 4294967296 (k + k').natAbs)) rfl rfl (tk_u32 _) (ln_u32 _)) .nil)))) (by decide) (fun _ => nofr_z (k + k')) rfl
theorem c_Sub3 {a b : Zi} {k k' : Int} (ha : Zn a k) (hb : Zn b k') : Spec true Tryz.prog 117 [] [gF a, gF b] (Ret (kO (k - k'))) := by
  refine fn0 Tryz.func117 rfl Tryz.ntmps117 rfl ttok rfl fun N w c0 h0 => ?_
  have hkl := ha.len
  have hkl' := hb.len
  refine sq ?_; refine rl ?_; refine bx 0 ?_; refine bx 1 ?_; refine al 2 ?_; refine nl ?_; refine sq ?_; refine rd [0, 1, 2] (fun i => [4].contains i) mixed ?_
  refine dld 0 ?_; refine dld 1 ?_; have hn1 := negz_len (k')
  refine dca 2 rfl (c_Neg3 hb) ok96 ⟨a1g rfl, rfl⟩ (kF (-k')) ?_; refine dck 3 3 rfl (c_Add3 ha (Zn.of (k := -k') (by omega))) ok81 ⟨a1g rfl, a1g rfl, rfl⟩ ?_
  refine dst 4 ?_; refine dz0 ?_; refine rt ?_
  exact en (.inl rfl) rfl (pk1 (.agg (.cons (.id rfl) (.cons (.sl (trs := u32T (dg 4294967296 (k + -k').natAbs)) rfl rfl (tk_u32 _) (ln_u32 _)) .nil)))) (by decide) (fun _ => nofr_z (k + -k')) rfl
end Go.Proofs.YtogaallfhifngaaGreat
