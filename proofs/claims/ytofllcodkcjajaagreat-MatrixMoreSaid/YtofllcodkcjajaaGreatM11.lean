/- Part 11 of a proof: B4 to C7. -/
import Derived.Test.YtofllcodkcjajaaGreatM10
set_option maxRecDepth 100000
set_option linter.unusedVariables false
set_option linter.unusedSimpArgs false
namespace Go.Proofs.YtofllcodkcjajaaGreat
open Go Go.RowKit
theorem p_Min2 {a : Fr4} {p v : Rat} (ha : Qn a p) (hv : Sz 68719476736 v) : Spec false Tryz.prog 123 [] [qF (.of v), .one (.t (sQ false [a]))] (Ret (qF (.of (qmin v [p])))) := by
 have h := p_Min (a := .of v) (xs := [a]) (Qn.of hv) (fun x hx => by rw [List.mem_singleton] at hx; rw [hx]; exact ha.1) (by simp)
 have e : [a].map Fr4.q = [p] := by rw [← ha.2]; rfl
 rwa [e] at h
theorem p_take {t0 i : Nat} {rest : List Tr} {vs : List (Int × Rat)} {a : Fr4} {p : Rat} (ha : Qn a p) (hi : i < vs.length) (hv : Sz 68719476736 (nthV vs (i)).2) (hl : vs.length ≤ 1073741823) : Spec false Tryz.prog 163 [⟨t0, 0, .sl 1 0 vs.length :: rest.map .t⟩, ⟨97, 5, vcl vs⟩] [.one (.pt 0 0), .one (tv (.int .i64 ((i : Nat) : Int))), qF a] (Rt [⟨t0, 0, .sl 1 0 vs.length :: rest.map .t⟩, ⟨97, 5, vcl (vs.set (i) ((nthV vs (i)).1, ((nthV vs (i)).2 - (qmin (nthV vs (i)).2 [p]))))⟩] (.agg ((vtr false ((nthV vs (i)).1, (qmin (nthV vs (i)).2 [p]))).map .t))) := by
 refine fnL Tryz.func163 rfl Tryz.ntmps163 rfl ttok rfl fun N M w c0 h0 => ?_
 have hn : Sz 68719476736 (qmin (nthV vs (i)).2 [p]) := qmin_sz hv fun q hq => by rw [List.mem_singleton] at hq; rw [hq]; exact ha.sz
 have hix : i < vs.length := hi
 refine sq ?_; refine rl ?_; refine bx 2 ?_; refine al 3 ?_; refine nl ?_; refine sq ?_; refine rl ?_; (iterate 3 refine o1 ?_); refine ld ?_; (iterate 3 refine o1 ?_); refine nl ?_
 refine md (γ := Unit) (fun _ => frL [(6, .one (.pt 2 0)), (7, .one (.pt 1 (0 + i * 5))), (8, .one (.pt 3 0))]) (fun _ => ([⟨t0, 0, .sl 1 0 vs.length :: rest.map .t⟩, ⟨97, 5, vcl vs⟩, ⟨97, 0, [tv (.int .i64 0), tv (.bool false), tv (.slice none 0 0), tv (.bool false), tv (.slice none 0 0)]⟩, ⟨26, 0, ((Fr4.of (qmin (nthV vs (i)).2 [p])).tr false).map .t⟩] : List Ob).map some) (fun _ => True) ?_ fun _ _ => ?_
 ·refine rd [0, 1, 2, 3] (fun i => [8].contains i) mixed ?_
  refine dv 0 ?_; refine dv 1 ?_; refine dv 2 ?_; refine dlda 3 (row_q (us := vs) (k := i) (by omega)) ?_
  refine dld 4 ?_; refine WO.two (i := 5) (j := 7) (by kernel_rfl) ?_ ?_
  ·refine o_bs (key := 4) 5 rfl rfl ⟨rfl, rfl, rfl, rfl, trivial⟩ ?_
   refine dfz (i := 20) (k := 4) (t := 26) (t' := 49) (z := 4) (n := 1) (l := [a].flatMap (Fr4.tr false)) rfl rfl rfl rfl (.one .sl) (by rfl) (by rfl) ?_
   refine WO.two (i := 6) (j := 7) (by kernel_rfl) ?_ ?_
   ·refine oca 6 rfl (p_Min2 ha hv) ok123 ⟨a1g rfl, a1 rfl, rfl⟩ (qF (.of (qmin (nthV vs (i)).2 [p]))) ?_; refine d_al (key := 5) 7 (by kernel_rfl) rfl rfl ttok rfl ⟨rfl, rfl, rfl, rfl, trivial⟩ ?_
    refine dst 8 ?_; refine dz0 ?_; exact ⟨(), trivial, suL h0 [0, 1, 3, 5] _ _ (by decide) rfl ⟨rfl, rfl, rfl, trivial⟩ ⟨oel rfl rfl, oet rfl, oe rfl rfl, oet rfl, rfl⟩⟩
   refine o_al (key := 5) 7 rfl rfl ttok rfl ⟨rfl, rfl, rfl, rfl, trivial⟩ ?_; refine dca 6 rfl (p_Min2 ha hv) ok123 ⟨a1g rfl, a1 rfl, rfl⟩ (qF (.of (qmin (nthV vs (i)).2 [p]))) ?_
   refine dst 8 ?_; refine dz0 ?_; exact ⟨(), trivial, suL h0 [0, 1, 3, 5] _ _ (by decide) rfl ⟨rfl, rfl, rfl, trivial⟩ ⟨oel rfl rfl, oet rfl, oe rfl rfl, oet rfl, rfl⟩⟩
  refine o_al (key := 4) 7 rfl rfl ttok rfl ⟨rfl, rfl, rfl, rfl, trivial⟩ ?_; refine d_bs (key := 5) 5 (by kernel_rfl) rfl rfl ttok rfl ⟨rfl, rfl, rfl, rfl, trivial⟩ ?_
  refine dfz (i := 20) (k := 5) (t := 26) (t' := 49) (z := 4) (n := 1) (l := [a].flatMap (Fr4.tr false)) rfl rfl rfl rfl (.one .sl) (by rfl) (by rfl) ?_
  refine dca 6 rfl (p_Min2 ha hv) ok123 ⟨a1g rfl, a1 rfl, rfl⟩ (qF (.of (qmin (nthV vs (i)).2 [p]))) ?_; refine dst 8 ?_; refine dz0 ?_
  exact ⟨(), trivial, suL h0 [0, 1, 3, 4] _ _ (by decide) rfl ⟨rfl, rfl, rfl, trivial⟩ ⟨oel rfl rfl, oet rfl, oe rfl rfl, oet rfl, rfl⟩⟩
 refine sq ?_; refine rd [0, 1, 2, 3] (fun i => [7, 8, 9].contains i) mixed ?_
 refine dv 0 ?_; refine dv 1 ?_; refine dv 2 ?_; refine dv 3 ?_; refine dlda 4 (row_q (us := vs) (k := i) (by omega)) ?_
 refine dld 5 ?_
 refine dca 6 rfl (p_Sub (Qn.of (p := (nthV vs (i)).2) hv) (Qn.of (p := (qmin (nthV vs (i)).2 [p])) hn)) ok71 ⟨a1g rfl, a1g rfl, rfl⟩ (qF (.of ((nthV vs (i)).2 - (qmin (nthV vs (i)).2 [p])))) ?_
 refine d_v 7 (by kernel_rfl) rfl rfl ttok rfl (by trivial) ?_ (fun h => by first | rfl | cases h)
 refine d_v 8 (by kernel_rfl) rfl rfl ttok rfl (by trivial) ?_ (fun h => by first | rfl | cases h)
 refine dsto 9 (put_q (us := vs) (k := i) (q := ((nthV vs (i)).2 - (qmin (nthV vs (i)).2 [p]))) (by omega)) (row_le4 (us := vs) (k := i) (by omega)) ?_
 refine dz0 ?_; refine sq ?_; refine rd [0, 1, 2, 3] (fun i => [6].contains i) mixed ?_
 refine dv 0 ?_; refine dv 1 ?_; refine dv 2 ?_
 refine dldo 3 (row_y (us := (vs.set (i) ((nthV vs (i)).1, ((nthV vs (i)).2 - (qmin (nthV vs (i)).2 [p]))))) (k := i) (by rw [List.length_set]; omega)) ?_
 refine dld 4 ?_; refine dv 5 ?_; refine dst 6 ?_; refine dz0 ?_; refine rt ?_
 exact enL (lent' := [⟨t0, 0, .sl 1 0 vs.length :: rest.map .t⟩, ⟨97, 5, vcl (vs.set (i) ((nthV vs (i)).1, ((nthV vs (i)).2 - (qmin (nthV vs (i)).2 [p]))))⟩]) (.inl rfl) rfl (pk1 (.agg (.cons (.id rfl) (.cons (.id rfl) (.cons (.id rfl) (.cons (.id rfl) (.cons (.id rfl) .nil))))))) (by decide) (fun _ h => by cases h) ⟨⟨rfl, rfl⟩, ⟨rfl, rfl⟩, trivial⟩ ⟨rfl, rfl, trivial⟩ ⟨refC_t rest, refC_t _, trivial⟩ (fun h => by cases h) ⟨rfl, by rw [nthV_set hi]; rfl⟩
def zeroQ (x : Int × Rat) : Bool := dl0 x.1 x.2
theorem p_Use1 {y : Int} {q : Rat} (hs : Sz 68719476736 q) : Spec true Tryz.prog 164 [] [.agg ((vtr false (y, q)).map .t)] (Ret (.one (tv (.bool (zeroQ (y, q)))))) := by
 refine fn0 Tryz.func164 rfl Tryz.ntmps164 rfl ttok rfl fun N w c0 h0 => ?_
 refine sq ?_; refine rl ?_; refine bx 0 ?_; refine o1 ?_; refine nl ?_; refine sq ?_; refine rl ?_; refine o1 ?_; refine ld ?_
 refine ca (p_Sign (Qn.of (p := q) hs)) ok80 ⟨a1g rfl, rfl⟩ (.one (tv (.int .i64 q.num.sign))) ?_; refine o1 ?_; refine o1 ?_; refine nl ?_; refine rt ?_
 exact en (.inl rfl) rfl (pk1 (pkv _)) (by decide) (fun _ => trivial) rfl
theorem p_take_U {t0 i : Nat} {rest : List Tr} {us vs : List (Int × Rat)} {x : Int × Rat} {a : Fr4} {p : Rat} (ha : Qn a p) (hnx : nthV us i = x) (hi : i < us.length) (hul : us.length = vs.length) (hv : Sz 68719476736 x.2) (hl : vs.length ≤ 1073741823) : Spec false Tryz.prog 163 [⟨t0, 0, .sl 1 0 vs.length :: rest.map .t⟩, ⟨97, 5, vcl us⟩] [.one (.pt 0 0), .one (tv (.int .i64 ((i : Nat) : Int))), qF a] (Rt [⟨t0, 0, .sl 1 0 vs.length :: rest.map .t⟩, ⟨97, 5, vcl (us.set i (x.1, x.2 - qmin x.2 [p]))⟩] (.agg ((vtr false (x.1, qmin x.2 [p])).map .t))) := by
 subst hnx
 rw [← hul]
 exact p_take ha hi hv (by omega)
theorem p_Use {vs : List (Int × Rat)} {last fr : Int} {put : Bool} {a : Fr4} {p : Rat} (ha : Qn a p) (hl : vs.length ≤ 1073741823) (hw : wts (vs.map Prod.snd) + wt p + 2 * vs.length ≤ 17179869184) (hzU : ∀ x ∈ (useL fr vs p).1, Sz 68719476736 x.2) : Spec false Tryz.prog 127 [⟨136, 0, [.t (sR 97 vs), tv (.int .i64 last), tv (.bool put)]⟩] [.one (.pt 0 0), .one (tv (.int .i64 fr)), qF a] (Rt [⟨136, 0, [.t (sR 97 (keepV zeroQ (useL fr vs p).1)), tv (.int .i64 last), tv (.bool put)]⟩] (.one (.t (sO 97 (useL fr vs p).2.1)))) := by
 refine fnL Tryz.func127 rfl Tryz.ntmps127 rfl ttok rfl fun N M w c0 h0 => ?_
 refine WP.sub (opn (j := 0) (key := 1) (p := 0) (e := 97) (z := 5) (n := vs.length) (trs := vs.flatMap (vtr false)) rfl rfl rfl rfl rfl) ?_; refine sq ?_; refine rl ?_; refine bx 2 ?_; refine o1 ?_
 refine nl ?_; refine sq ?_; refine sq ?_; refine rl ?_; refine o1 ?_; refine o1 ?_; refine nl ?_; refine cdf rfl ?_; refine sk ?_; refine sq ?_; refine rl ?_; refine o1 ?_; refine nl ?_; refine sq ?_
 refine sq ?_; refine rl ?_; (iterate 4 refine o1 ?_); refine ld ?_; refine o1 ?_; refine o1 ?_; refine nl ?_; refine bl ?_
 refine lp (γ := Nat × Fr4) (fun s => frL [(0, .one (.pt 0 0)), (1, .one (tv (.int .i64 fr))), (5, .one (.pt 2 0)), (7, .one (.sl 3 0 ((useL fr (vs.take s.1) p).2.1.length))), (17, .one (.sl 1 0 (vs.length))), (18, .one (tv (.int .i64 ((vs.length : Nat) : Int)))), (19, .one (tv (.int .i64 ((s.1 : Nat) : Int))))]) (fun s => [(⟨136, 0, [.sl 1 0 vs.length, tv (.int .i64 last), tv (.bool put)]⟩ : Ob), ⟨97, 5, vcl ((useL fr (vs.take s.1) p).1 ++ vs.drop s.1)⟩, ⟨26, 0, ((s.2).tr false).map .t⟩, ⟨97, 5, vco (useL fr (vs.take s.1) p).2.1⟩].map some) (fun s => s.1 ≤ vs.length ∧ Qn s.2 (useL fr (vs.take s.1) p).2.2 ∧ wt (useL fr (vs.take s.1) p).2.2 ≤ wts ((vs.take s.1).map Prod.snd) + wt p + 2 * s.1 ∧ (useL fr (vs.take s.1) p).2.1.length ≤ s.1) (fun s => vs.length - s.1) (0, a) ⟨Nat.zero_le _, ha, by simp [useL, wts], Nat.le_refl _⟩ ((nr (i := 7) 3 97 5 rfl rfl rfl rfl).trans (suL h0 [0, 1, 2, 3] _ _ (by decide) rfl ⟨rfl, rfl, rfl, rfl, rfl, rfl, rfl, trivial⟩ ⟨oe rfl rfl, oet rfl, oet rfl, oe rfl rfl, rfl⟩)) ?_
 rintro ⟨k, m⟩ ⟨hk, hm, hb, hgl⟩; dsimp only at hk hm hb hgl ⊢; refine sq ?_; refine rl ?_; refine o1 ?_; refine nl ?_; refine sq ?_; refine cdp rfl (fun h1 => ?_) (fun h1 => ?_)
 ·refine sk ?_; refine sq ?_; refine bl ?_; refine sq ?_; have hal : (useL fr (vs.take k) p).1.length = k := by rw [useL_len, List.length_take, Nat.min_eq_left hk]
  have hul : ((useL fr (vs.take k) p).1 ++ vs.drop k).length = vs.length := by rw [List.length_append, hal, List.length_drop]; omega
  have hnx : nthV ((useL fr (vs.take k) p).1 ++ vs.drop k) k = (nthV vs k) := nth_mid2 (by rw [← drop_v (by omega)]) hal
  have hvw : wt (nthV vs k).2 ≤ wts (vs.map Prod.snd) := wts_mem (List.mem_map.2 ⟨_, nthV_mem (by omega), rfl⟩)
  have hwk : wts ((vs.take (k + 1)).map Prod.snd) = wts ((vs.take k).map Prod.snd) + wt (nthV vs k).2 := by rw [take_v (by omega), List.map_append, wts_append]; simp [wts]
  have hwl : wts ((vs.take (k + 1)).map Prod.snd) ≤ wts (vs.map Prod.snd) := wts_sub ((List.take_sublist _ _).map _)
  have hszv : Sz 17179869184 (nthV vs k).2 := sz_iff.2 (by have h9 : wt (nthV vs k).2 = szq (nthV vs k).2 + 1 := rfl; omega)
  have hszr : Sz 17179869184 (useL fr (vs.take k) p).2.2 := sz_iff.2 (by have h9 : wt (useL fr (vs.take k) p).2.2 = szq (useL fr (vs.take k) p).2.2 + 1 := rfl; omega)
  have hszn : Sz 17179869184 (qmin (nthV vs k).2 [(useL fr (vs.take k) p).2.2]) := qmin_sz hszv (fun q hq => by rw [List.mem_singleton] at hq; rw [hq]; exact hszr)
  have hszm : Sz 68719476736 ((useL fr (vs.take k) p).2.2 - (qmin (nthV vs k).2 [(useL fr (vs.take k) p).2.2])) := (sub_sz hszr hszn).mono (by omega)
  refine rl ?_; refine o1 ?_; refine o1 ?_
  refine lda (us := (vtr false (nthV vs k)).map .t) (by have h9 := row_at (us := ((useL fr (vs.take k) p).1 ++ vs.drop k)) (k := k) (by rw [hul]; omega); rwa [hnx] at h9) ?_
  refine al 4 ?_; refine o1 ?_; refine st ?_; refine nl ?_; refine sq ?_; refine rl ?_; refine o1 ?_; refine ld ?_; (iterate 3 refine o1 ?_)
  refine WL.split (t := 28) rfl (fun h2 => ?_) (fun h2 => ?_)
  ·refine ld ?_; refine ca (p_Sign hm) ok80 ⟨a1g rfl, rfl⟩ (.one (tv (.int .i64 (useL fr (vs.take k) p).2.2.num.sign))) ?_; refine o1 ?_; refine o1 ?_; refine nl ?_
   refine cdp rfl (fun h3 => ?_) (fun h3 => ?_)
   ·refine md (γ := Unit) (fun _ => frL [(0, .one (.pt 0 0)), (1, .one (tv (.int .i64 fr))), (5, .one (.pt 2 0)), (7, .one (.sl 3 0 ((useL fr (vs.take k) p).2.1.length))), (17, .one (.sl 1 0 (vs.length))), (18, .one (tv (.int .i64 ((vs.length : Nat) : Int)))), (19, .one (tv (.int .i64 ((k : Nat) : Int)))), (10, .one (.pt 4 0))]) (fun _ => ([⟨136, 0, [.sl 1 0 vs.length, tv (.int .i64 last), tv (.bool put)]⟩, ⟨97, 5, vcl (((useL fr (vs.take k) p).1 ++ vs.drop k).set (k) ((nthV vs k).1, ((nthV vs k).2 - (qmin (nthV vs k).2 [(useL fr (vs.take k) p).2.2]))))⟩, ⟨26, 0, (m.tr false).map .t⟩, ⟨97, 5, vco (useL fr (vs.take k) p).2.1⟩, ⟨97, 0, (vtr false ((nthV vs k).1, (qmin (nthV vs k).2 [(useL fr (vs.take k) p).2.2]))).map .t⟩] : List Ob).map some) (fun _ => True) ?_ fun _ _ => ?_
    ·refine rd [2, 4] (fun i => [7].contains i) mixed ?_
     refine dv 0 ?_; refine dv 1 ?_; refine dv 2 ?_; refine dv 3 ?_; refine dld 4 ?_; refine WO.two (i := 5) (j := 6) (by kernel_rfl) ?_ ?_
     ·have htk := p_take_U (t0 := 136) (rest := [.v (.int .i64 last), .v (.bool put)]) (x := (nthV vs k)) hm (us := ((useL fr (vs.take k) p).1 ++ vs.drop k)) (i := k) hnx (by rw [hul]; omega) hul (hszv.mono (by omega)) hl
      refine ocl 5 5 [0, 1] rfl htk ok163 ⟨oe rfl rfl, oet rfl, rfl⟩ ⟨rfl, rfl, rfl, rfl⟩ (ok := [some ⟨136, 0, [.sl 1 0 vs.length, tv (.int .i64 last), tv (.bool put)]⟩, some ⟨97, 5, vcl (((useL fr (vs.take k) p).1 ++ vs.drop k).set (k) ((nthV vs k).1, ((nthV vs k).2 - (qmin (nthV vs k).2 [(useL fr (vs.take k) p).2.2]))))⟩]) ⟨oe rfl rfl, oet rfl, rfl⟩ ⟨rfl, rfl, trivial⟩ ?_
      refine d_al (key := 5) 6 (by kernel_rfl) rfl rfl ttok rfl ⟨rfl, rfl, trivial⟩ ?_
      refine dst 7 ?_; refine dz0 ?_
      exact ⟨(), trivial, suL h0 [0, 1, 2, 3, 5] _ _ (by decide) rfl ⟨rfl, rfl, rfl, rfl, rfl, rfl, rfl, rfl, trivial⟩ ⟨oe rfl rfl, oet rfl, oet rfl, oet rfl, oet rfl, rfl⟩⟩
     refine o_al (key := 5) 6 rfl rfl ttok rfl ⟨rfl, rfl, trivial⟩ ?_
     have htk := p_take_U (t0 := 136) (rest := [.v (.int .i64 last), .v (.bool put)]) (x := (nthV vs k)) hm (us := ((useL fr (vs.take k) p).1 ++ vs.drop k)) (i := k) hnx (by rw [hul]; omega) hul (hszv.mono (by omega)) hl
     refine dcl 5 6 [0, 1] rfl htk ok163 ⟨oe rfl rfl, oet rfl, rfl⟩ ⟨rfl, rfl, rfl, rfl⟩ (ok := [some ⟨136, 0, [.sl 1 0 vs.length, tv (.int .i64 last), tv (.bool put)]⟩, some ⟨97, 5, vcl (((useL fr (vs.take k) p).1 ++ vs.drop k).set (k) ((nthV vs k).1, ((nthV vs k).2 - (qmin (nthV vs k).2 [(useL fr (vs.take k) p).2.2]))))⟩]) ⟨oe rfl rfl, oet rfl, rfl⟩ ⟨rfl, rfl, trivial⟩ ?_
     refine dst 7 ?_; refine dz0 ?_
     exact ⟨(), trivial, suL h0 [0, 1, 2, 3, 5] _ _ (by decide) rfl ⟨rfl, rfl, rfl, rfl, rfl, rfl, rfl, rfl, trivial⟩ ⟨oe rfl rfl, oet rfl, oet rfl, oet rfl, oet rfl, rfl⟩⟩
    refine rd [0, 2, 4] (fun i => [10].contains i) mixed ?_
    refine dv 0 ?_; refine dld 1 ?_; refine dld 5 ?_; refine dv 6 ?_; refine dld 7 ?_
    refine dck 5 2 rfl (p_clone (y := (nthV vs k).1) (Qn.of (p := (qmin (nthV vs k).2 [(useL fr (vs.take k) p).2.2])) hszn)) ok132 ⟨a1g rfl, rfl⟩ ?_
    refine d_bs (key := 7) 3 (by kernel_rfl) rfl rfl ttok rfl ⟨rfl, rfl, rfl, trivial⟩ ?_
    refine d_appK (j := 8) 4 rfl ttok rfl rfl rfl (.sl rfl (vco_len _)) (.sl rfl rfl rfl) rfl rfl (by omega) (by omega) rfl ⟨rfl, rfl, rfl, trivial⟩ rfl (by kernel_rfl) rfl ?_
    refine dca 8 rfl (p_Sub hm (Qn.of (p := (qmin (nthV vs k).2 [(useL fr (vs.take k) p).2.2])) hszn)) ok71 ⟨a1g rfl, a1g rfl, rfl⟩ (qF (.of ((useL fr (vs.take k) p).2.2 - (qmin (nthV vs k).2 [(useL fr (vs.take k) p).2.2])))) ?_
    refine d_v 9 (by kernel_rfl) rfl rfl ttok rfl (by trivial) ?_ (fun h => by first | rfl | cases h)
    refine dst 10 ?_; refine dz0 ?_; refine rl ?_; refine o1 ?_; refine WL.cast (t := 48) (u' := .int .i64 ((k + 1 : Nat) : Int)) rfl (cint (by omega)) ?_
    refine o1 ?_; refine nl ?_; have hst := (useL_snoc (fr := fr) p (by omega : k < vs.length)).trans (useS_yes (s := (useL fr (vs.take k) p)) (y := (nthV vs k).1) (q := (nthV vs k).2) h2 h3)
    refine ⟨(k + 1, Fr4.of ((useL fr (vs.take k) p).2.2 - (qmin (nthV vs k).2 [(useL fr (vs.take k) p).2.2]))), by dsimp only; omega, ?_, ?_⟩
    ·dsimp only
     rw [hst]
     exact ⟨by omega, Qn.of hszm, by dsimp only; have h9 := wt_min2 (nthV vs k).2 (useL fr (vs.take k) p).2.2; omega, by dsimp only; rw [List.length_append, List.length_singleton]; omega⟩
    dsimp only
    rw [hst]; dsimp only
    exact (pkV (j := 8) (k1 := 5) (k2 := 6) (us := (useL fr (vs.take k) p).2.1) (y := (nthV vs k).1) (q := (qmin (nthV vs k).2 [(useL fr (vs.take k) p).2.2])) rfl rfl rfl rfl rfl rfl).trans (suL h0 [0, 1, 2, 8] _ _ (by decide) rfl ⟨rfl, rfl, rfl, congrArg (fun n => some (FV.one (.sl 8 0 n))) (show ((useL fr (vs.take k) p).2.1 ++ [((nthV vs k).1, (qmin (nthV vs k).2 [(useL fr (vs.take k) p).2.2]))]).length = (useL fr (vs.take k) p).2.1.length + 1 by simp), rfl, rfl, rfl, trivial⟩ ⟨oe rfl rfl, oet (congrArg (fun l => some (⟨97, 5, vcl l⟩ : Ob)) (by rw [set_mid2 (x := (nthV vs k)) (by rw [← drop_v (by omega)]) hal, List.append_assoc])), oet rfl, oet rfl, rfl⟩)
   refine sk ?_; refine rl ?_; refine o1 ?_; refine WL.cast (t := 48) (u' := .int .i64 ((k + 1 : Nat) : Int)) rfl (cint (by omega)) ?_
   refine o1 ?_; refine nl ?_; have hst := (useL_snoc (fr := fr) p (by omega : k < vs.length)).trans (useS_no (s := (useL fr (vs.take k) p)) (x := (nthV vs k)) (fun hc => h3 hc.2))
   refine ⟨(k + 1, m), by dsimp only; omega, ?_, ?_⟩
   ·dsimp only
    rw [hst]; exact ⟨by omega, hm, by dsimp only; omega, by dsimp only; omega⟩
   dsimp only
   rw [hst]; dsimp only
   exact (suL h0 [0, 1, 2, 3] _ _ (by decide) rfl ⟨rfl, rfl, rfl, rfl, rfl, rfl, rfl, trivial⟩ ⟨oe rfl rfl, oet (congrArg (fun l => some (⟨97, 5, vcl l⟩ : Ob)) (by rw [drop_v (k := k) (by omega), List.append_assoc]; rfl)), oet rfl, oet rfl, rfl⟩)
  (iterate 3 refine no_ ?_); refine o1 ?_; refine nl ?_; refine cdf rfl ?_; refine sk ?_; refine rl ?_; refine o1 ?_
  refine WL.cast (t := 48) (u' := .int .i64 ((k + 1 : Nat) : Int)) rfl (cint (by omega)) ?_
  refine o1 ?_; refine nl ?_; have hst := (useL_snoc (fr := fr) p (by omega : k < vs.length)).trans (useS_no (s := (useL fr (vs.take k) p)) (x := (nthV vs k)) (fun hc => h2 hc.1))
  refine ⟨(k + 1, m), by dsimp only; omega, ?_, ?_⟩
  ·dsimp only
   rw [hst]; exact ⟨by omega, hm, by dsimp only; omega, by dsimp only; omega⟩
  dsimp only
  rw [hst]; dsimp only
  exact (suL h0 [0, 1, 2, 3] _ _ (by decide) rfl ⟨rfl, rfl, rfl, rfl, rfl, rfl, rfl, trivial⟩ ⟨oe rfl rfl, oet (congrArg (fun l => some (⟨97, 5, vcl l⟩ : Ob)) (by rw [drop_v (k := k) (by omega), List.append_assoc]; rfl)), oet rfl, oet rfl, rfl⟩)
 refine ex ?_; refine sq ?_; refine rl ?_; (iterate 3 refine o1 ?_); have hkk : vs.take k = vs := List.take_of_length_le (by omega)
 have hU9 : ((useL fr (vs.take k) p).1 ++ vs.drop k) = (useL fr vs p).1 := by rw [hkk, List.drop_of_length_le (by omega), List.append_nil]
 have hG9 : (useL fr (vs.take k) p).2.1 = (useL fr vs p).2.1 := by rw [hkk]
 have hul9 : (useL fr vs p).1.length = vs.length := useL_len fr vs p
 refine WL.sub (cls (j := 0) (k := 1) (p := 0) (n := vs.length) (trs := (useL fr vs p).1.flatMap (vtr false)) rfl rfl rfl (congrArg (fun l => some (⟨97, 5, vcl l⟩ : Ob)) hU9) rfl (take_self _ _ (by rw [vflat_len, hul9])) (by rw [vflat_len, hul9]) rfl) ?_
 have hsw := p_sweep (t0 := 136) (rest := [.v (.int .i64 last), .v (.bool put)]) (vs := (useL fr vs p).1) (dl := zeroQ) (fst := []) (caps := []) ok164 (fun x hx => p_Use1 (y := x.1) (q := x.2) (hzU x hx)) (by rw [hul9]; exact hl)
 rw [show sR 97 (useL fr vs p).1 = .s true 97 5 vs.length ((useL fr vs p).1.flatMap (vtr false)) by rw [← hul9]; rfl] at hsw
 refine cl 4 [0] hsw ok130 ⟨oe rfl rfl, rfl⟩ ⟨rfl, rfl, rfl⟩ (ok := [some ⟨136, 0, [.t (sR 97 (keepV zeroQ (useL fr vs p).1)), tv (.int .i64 last), tv (.bool put)]⟩]) ⟨oe rfl rfl, rfl⟩ ?_
 refine nl ?_; refine sq ?_; refine rl ?_; refine o1 ?_; refine o1 ?_; refine nl ?_; refine rt ?_
 exact enL (lent' := [⟨136, 0, [.t (sR 97 (keepV zeroQ (useL fr vs p).1)), tv (.int .i64 last), tv (.bool put)]⟩]) (.inl rfl) rfl (pk1 (.one (.sl (trs := (useL fr (vs.take k) p).2.1.flatMap (vtr true)) rfl rfl (take_self _ _ (vflat_len true _)) (vflat_len true _)))) (by decide) (by simp) ⟨⟨rfl, rfl⟩, trivial⟩ ⟨rfl, trivial⟩ ⟨rfl, trivial⟩ (fun h => by cases h) ⟨rfl, by rw [hG9]; rfl⟩
theorem p_Exp1 {y b : Int} {q : Rat} : Spec true Tryz.prog 128 [] [.agg ((vtr false (y, q)).map .t), .one (.t (.p false 3 [.v (.int .i64 b)]))] (Ret (.one (tv (.bool (decide (y < b)))))) := by
 refine fn0 Tryz.func128 rfl Tryz.ntmps128 rfl ttok rfl fun N w c0 h0 => ?_
 refine WP.sub (pef (i := 1) rfl rfl) ?_; refine sq ?_; refine rl ?_; refine bx 0 ?_; refine o1 ?_; refine nl ?_; refine sq ?_; refine rl ?_; refine o1 ?_; refine ld ?_
 refine ldf ([.v (.int .i64 b)]) rfl ?_; refine o1 ?_; refine o1 ?_; refine nl ?_; refine rt ?_; exact en (.inl rfl) rfl (pk1 (pkv _)) (by decide) (fun _ => trivial) rfl
theorem p_Exp2 {y b : Int} {q : Rat} : Spec true Tryz.prog 131 [] [.agg ((vtr false (y, q)).map .t), .one (.t (.p false 169 [.f 128 [] [.p false 3 [.v (.int .i64 b)]]]))] (Ret (.one (tv (.bool (!decide (y < b)))))) := by
 refine fn0 Tryz.func131 rfl Tryz.ntmps131 rfl ttok rfl fun N w c0 h0 => ?_
 refine WP.sub (pef (i := 1) rfl rfl) ?_; refine sq ?_; refine rl ?_; refine bx 0 ?_; refine o1 ?_; refine nl ?_; refine sq ?_; refine rl ?_
 refine ldf ([.f 128 [] [.p false 3 [.v (.int .i64 b)]]]) rfl ?_; refine ld ?_
 refine ce 1 [.agg [tv (.int .i64 y), tv (.bool (sgz q.num)), .t (sU false (dg 4294967296 q.num.natAbs)), tv (.bool false), .t (sU false (dg 4294967296 q.den))]] rfl (p_Exp1 (y := y) (q := q) (b := b)) ok128 ⟨rfl, rfl⟩ ?_
 refine o1 ?_; refine o1 ?_; refine nl ?_; refine rt ?_; exact en (.inl rfl) rfl (pk1 (pkv _)) (by decide) (fun _ => trivial) rfl
theorem p_Expire {vs : List (Int × Rat)} {last b : Int} {put : Bool} (hl : vs.length ≤ 1073741823) (hz : ∀ x ∈ vs, Sz 68719476736 x.2) : Spec false Tryz.prog 87 [⟨136, 0, [.t (sR 97 vs), tv (.int .i64 last), tv (.bool put)]⟩] [.one (.pt 0 0), .one (tv (.int .i64 b))] (Rt [⟨136, 0, [.t (sR 97 (keepV (fun x : Int × Rat => decide (x.1 < b)) vs)), tv (.int .i64 last), tv (.bool put)]⟩] (.one (.t (sO 97 (keepV (fun x : Int × Rat => !decide (x.1 < b)) vs))))) := by
 refine fnL Tryz.func87 rfl Tryz.ntmps87 rfl ttok rfl fun N M w c0 h0 => ?_
 refine WP.sub (opn (j := 0) (key := 1) (p := 0) (e := 97) (z := 5) (n := vs.length) (trs := vs.flatMap (vtr false)) rfl rfl rfl rfl rfl) ?_; refine sq ?_; refine rl ?_; refine bx 2 ?_
 refine WL.sub (fzp (i := 3) (k := 2) (t := 3) (l := [.v (.int .i64 b)]) rfl rfl rfl (.one .sl)) ?_; refine o1 ?_; refine nl ?_; refine sq ?_; refine sq ?_; refine rl ?_; refine o1 ?_; refine o1 ?_
 refine nl ?_; refine cdf rfl ?_; refine sk ?_; refine sq ?_; refine rl ?_; refine o1 ?_; refine al 3 ?_; refine st ?_
 refine WL.sub (fzp (i := 5) (k := 3) (t := 169) (l := [.f 128 [] [.p false 3 [.v (.int .i64 b)]]]) rfl rfl rfl (.one .sl)) ?_; refine nl ?_; refine sq ?_; refine rl ?_; (iterate 4 refine o1 ?_)
 refine ld ?_; refine cl 4 [1] (p_CloneS hl) ok129 ⟨oet rfl, rfl⟩ ⟨rfl, rfl⟩ (ok := [some ⟨97, 5, vcl vs⟩]) ⟨oet rfl, rfl⟩ ?_; refine o1 ?_; refine bx 5 ?_; refine o1 ?_; refine nl ?_; refine sq ?_
 refine rl ?_; refine o1 ?_; refine o1 ?_
 refine WL.sub (cls (j := 5) (k := 4) (p := 0) (n := vs.length) (trs := vs.flatMap (vtr false)) rfl rfl rfl rfl rfl (take_self _ _ (vflat_len false _)) (vflat_len false _) rfl) ?_
 refine cl 6 [5] (p_sweep (t0 := 134) (rest := []) (dl := (fun x : Int × Rat => !decide (x.1 < b))) (fst := []) (caps := [.p false 169 [.f 128 [] [.p false 3 [.v (.int .i64 b)]]]]) ok131 (fun x _ => p_Exp2 (y := x.1) (q := x.2)) hl) ok130 ⟨oe rfl rfl, rfl⟩ ⟨rfl, rfl, rfl⟩ (ok := [some ⟨134, 0, [.t (sR 97 (keepV (fun x : Int × Rat => !decide (x.1 < b)) vs))]⟩]) ⟨oe rfl rfl, rfl⟩ ?_
 refine nl ?_; refine sq ?_
 refine WP.sub (cls (j := 0) (k := 1) (p := 0) (n := vs.length) (trs := vs.flatMap (vtr false)) rfl rfl rfl rfl rfl (take_self _ _ (vflat_len false _)) (vflat_len false _) rfl) ?_
 refine WP.sub (pef (i := 5) rfl rfl) ?_; refine rd [5] (fun i => [].contains i) mixed ?_
 refine dv 0 ?_; refine dv 1 ?_; refine dv 2 ?_; refine dlr 3 ([.f 128 [] [.p false 3 [.v (.int .i64 b)]]]) rfl ?_
 refine dcl 4 6 [0] rfl (p_sweep (t0 := 136) (rest := [.v (.int .i64 last), .v (.bool put)]) (dl := (fun x : Int × Rat => decide (x.1 < b))) (fst := []) (caps := [.p false 3 [.v (.int .i64 b)]]) ok128 (fun x _ => p_Exp1 (y := x.1) (q := x.2)) hl) ok130 ⟨oe rfl rfl, rfl⟩ ⟨rfl, rfl, rfl⟩ (ok := [some ⟨136, 0, [.t (sR 97 (keepV (fun x : Int × Rat => decide (x.1 < b)) vs)), tv (.int .i64 last), tv (.bool put)]⟩]) ⟨oe rfl rfl, rfl⟩ ⟨rfl, trivial⟩ ?_
 refine dz0 ?_; refine sq ?_; refine rl ?_; refine o1 ?_
 refine cak 6 (p_rows (vs := (keepV (fun x : Int × Rat => !decide (x.1 < b)) vs)) (rest := []) (fun x hx => hz x (List.mem_filter.1 hx).1) (Nat.le_trans (List.length_filter_le _ _) hl)) ok88 ⟨a1o rfl (.pe (trs := [sR 97 (keepV (fun x : Int × Rat => !decide (x.1 < b)) vs)]) rfl rfl rfl (by simp [rdTL, rdT, sR, sV, rd_vo])), rfl⟩ ?_
 refine o1 ?_; refine nl ?_; refine rt ?_
 exact enL (lent' := [⟨136, 0, [.t (sR 97 (keepV (fun x : Int × Rat => decide (x.1 < b)) vs)), tv (.int .i64 last), tv (.bool put)]⟩]) (.inl rfl) rfl (pk1 (.one (.sl (trs := (keepV (fun x : Int × Rat => !decide (x.1 < b)) vs).flatMap (vtr true)) rfl rfl (take_self _ _ (vflat_len true _)) (vflat_len true _)))) (by decide) (by simp) ⟨⟨rfl, rfl⟩, trivial⟩ ⟨rfl, trivial⟩ ⟨rfl, trivial⟩ (fun h => by cases h) ⟨rfl, rfl⟩
theorem p_Put {vs : List (Int × Rat)} {last y : Int} {put : Bool} {a : Fr4} {q : Rat} (ha : Qn a q) (hl : vs.length ≤ 1073741822) : Spec false Tryz.prog 126 [⟨136, 0, [.t (sR 97 vs), tv (.int .i64 last), tv (.bool put)]⟩] [.one (.pt 0 0), .one (tv (.int .i64 y)), qF a] (Rt [⟨136, 0, [.t (sR 97 (putL (putE (rightQ a.s a.x a.t a.y) q y last put) q y vs)), tv (.int .i64 (putY (putE (rightQ a.s a.x a.t a.y) q y last put) y last)), tv (.bool (putP (putE (rightQ a.s a.x a.t a.y) q y last put) put))]⟩] (.one (tv (.int .i64 (putE (rightQ a.s a.x a.t a.y) q y last put))))) := by
 refine fnL Tryz.func126 rfl Tryz.ntmps126 rfl ttok rfl fun N M w c0 h0 => ?_
 refine WP.sub (opn (j := 0) (key := 1) (p := 0) (e := 97) (z := 5) (n := vs.length) (trs := vs.flatMap (vtr false)) rfl rfl rfl rfl rfl) ?_; refine sq ?_; refine rl ?_; refine bx 2 ?_; refine o1 ?_
 refine nl ?_; refine sq ?_; refine bl ?_; refine sq ?_; refine rl ?_; (iterate 3 refine o1 ?_); refine nl ?_; refine cdf rfl ?_; refine sq ?_; refine rl ?_; refine ld ?_
 refine ca (c_rRight ha.1) ok79 ⟨a1g rfl, rfl⟩ (.one (tv (.bool (rightQ a.s a.x a.t a.y)))) ?_; refine WL.splitb (t := 12) rfl (fun h1 => ?_) (fun h1 => ?_)
 ·refine o1 ?_; refine o1 ?_; refine ld ?_; refine ca (p_Sign ha) ok80 ⟨a1g rfl, rfl⟩ (.one (tv (.int .i64 q.num.sign))) ?_; (iterate 3 refine o1 ?_); refine nl ?_
  refine cdp rfl (fun h2 => ?_) (fun h2 => ?_)
  ·refine sq ?_; refine rl ?_
   refine WL.sub (cls (j := 0) (k := 1) (p := 0) (n := vs.length) (trs := vs.flatMap (vtr false)) rfl rfl rfl rfl rfl (take_self _ _ (vflat_len false _)) (vflat_len false _) rfl) ?_; refine o1 ?_
   refine nl ?_; refine rt ?_; have hpe : (putE (rightQ a.s a.x a.t a.y) q y last put) = 2 := by unfold putE; rw [h1, decide_eq_true h2]; rfl
   exact enL (lent' := [⟨136, 0, [.t (sR 97 (putL (putE (rightQ a.s a.x a.t a.y) q y last put) q y vs)), tv (.int .i64 (putY (putE (rightQ a.s a.x a.t a.y) q y last put) y last)), tv (.bool (putP (putE (rightQ a.s a.x a.t a.y) q y last put) put))]⟩]) (.inl rfl) rfl (pk1 (pkv _)) (by decide) (fun _ h => by cases h) ⟨⟨rfl, rfl⟩, trivial⟩ ⟨(by rw [hpe]; rfl), trivial⟩ ⟨rfl, trivial⟩ (fun h => by cases h) ⟨rfl, by rw [hpe]⟩
  refine sq ?_; refine rl ?_; (iterate 3 refine o1 ?_); refine ld ?_; refine o1 ?_; refine WL.splitb (t := 24) rfl (fun h3 => ?_) (fun h3 => ?_)
  ·(iterate 4 refine o1 ?_); refine ld ?_; (iterate 3 refine o1 ?_); refine nl ?_; refine cdp rfl (fun h4 => ?_) (fun h4 => ?_)
   ·refine sq ?_; refine rl ?_
    refine WL.sub (cls (j := 0) (k := 1) (p := 0) (n := vs.length) (trs := vs.flatMap (vtr false)) rfl rfl rfl rfl rfl (take_self _ _ (vflat_len false _)) (vflat_len false _) rfl) ?_
    refine o1 ?_; refine nl ?_; refine rt ?_; have hpe : (putE (rightQ a.s a.x a.t a.y) q y last put) = 4 := by unfold putE; rw [h1, decide_eq_false h2, h3, decide_eq_true h4]; rfl
    exact enL (lent' := [⟨136, 0, [.t (sR 97 (putL (putE (rightQ a.s a.x a.t a.y) q y last put) q y vs)), tv (.int .i64 (putY (putE (rightQ a.s a.x a.t a.y) q y last put) y last)), tv (.bool (putP (putE (rightQ a.s a.x a.t a.y) q y last put) put))]⟩]) (.inl rfl) rfl (pk1 (pkv _)) (by decide) (fun _ h => by cases h) ⟨⟨rfl, rfl⟩, trivial⟩ ⟨(by rw [hpe]; rfl), trivial⟩ ⟨rfl, trivial⟩ (fun h => by cases h) ⟨rfl, by rw [hpe]⟩
   refine sk ?_; refine sq ?_; refine rl ?_; (iterate 5 refine o1 ?_); refine st ?_; refine o1 ?_; refine o1 ?_; refine st ?_; refine nl ?_; refine sq ?_; refine sq ?_
   obtain rfl := (ha.right h1).symm
   refine rl ?_; refine ld ?_; refine ca (p_Sign ha) ok80 ⟨a1g rfl, rfl⟩ (.one (tv (.int .i64 q.num.sign))) ?_; refine o1 ?_; refine nl ?_; refine cdp rfl (fun h5 => ?_) (fun h5 => ?_)
   ·refine rd [0, 2] (fun i => [12, 13, 14, 15].contains i) mixed ?_
    refine dv 0 ?_; refine dv 1 ?_; refine dv 2 ?_; refine dv 3 ?_; refine dv 4 ?_; refine dld 5 ?_; refine dv 6 ?_; refine dld 7 ?_; refine dv 8 ?_
    refine dca 9 rfl (p_clone (y := y) ha) ok132 ⟨a1g rfl, rfl⟩ (.agg ((vtr false (y, q)).map .t)) ?_; refine d_bs (key := 3) 10 (by kernel_rfl) rfl rfl ttok rfl ⟨rfl, rfl, trivial⟩ ?_
    refine d_appK (j := 4) (n := vs.length) (l := vcl vs) 11 rfl ttok rfl rfl rfl (.sl rfl (vcl_len _)) (.sl rfl rfl rfl) rfl rfl (by omega) (by omega) rfl ⟨rfl, rfl, trivial⟩ rfl (by kernel_rfl) rfl ?_
    refine d_v 12 (by kernel_rfl) rfl rfl ttok rfl (by trivial) ?_ (fun h => by first | rfl | cases h)
    refine d_v 13 (by kernel_rfl) rfl rfl ttok rfl (by trivial) ?_ (fun h => by first | rfl | cases h)
    refine d_v 14 (by kernel_rfl) rfl rfl ttok rfl (by trivial) ?_ (fun h => by first | rfl | cases h)
    refine dst 15 ?_; refine dz0 ?_; refine sq ?_; refine rl ?_
    refine WL.sub (cls (j := 0) (k := 4) (p := 0) (n := vs.length + 1) (trs := (vs ++ [(y, q)]).flatMap (vtr false)) rfl rfl rfl (congrArg (fun l => some (⟨97, 5, l⟩ : Ob)) (vcl_snoc vs (y, q))) rfl (take_self _ _ (by rw [vflat_len, List.length_append]; rfl)) (by rw [vflat_len, List.length_append]; rfl) rfl) ?_
    refine o1 ?_; refine nl ?_; refine rt ?_
    have hpe : (putE (rightQ (Fr4.of q).s (Fr4.of q).x (Fr4.of q).t (Fr4.of q).y) q y last put) = 0 := by unfold putE; rw [h1, decide_eq_false h2, h3, decide_eq_false h4]; rfl
    have hpl : putL 0 q y vs = (vs ++ [(y, q)]) := by unfold putL; rw [decide_eq_true h5]; rfl
    exact enL (lent' := [⟨136, 0, [.t (sR 97 (putL (putE (rightQ (Fr4.of q).s (Fr4.of q).x (Fr4.of q).t (Fr4.of q).y) q y last put) q y vs)), tv (.int .i64 (putY (putE (rightQ (Fr4.of q).s (Fr4.of q).x (Fr4.of q).t (Fr4.of q).y) q y last put) y last)), tv (.bool (putP (putE (rightQ (Fr4.of q).s (Fr4.of q).x (Fr4.of q).t (Fr4.of q).y) q y last put) put))]⟩]) (.inl rfl) rfl (pk1 (pkv _)) (by decide) (fun _ h => by cases h) ⟨⟨rfl, rfl⟩, trivial⟩ ⟨(by rw [hpe, hpl]; rw [show sR 97 (vs ++ [(y, q)]) = .s true 97 5 (vs.length + 1) ((vs ++ [(y, q)]).flatMap (vtr false)) by rw [sR, List.length_append]; rfl]; rfl), trivial⟩ ⟨rfl, trivial⟩ (fun h => by cases h) ⟨rfl, by rw [hpe]⟩
   refine sk ?_; refine sq ?_; refine rl ?_
   refine WL.sub (cls (j := 0) (k := 1) (p := 0) (n := vs.length) (trs := vs.flatMap (vtr false)) rfl rfl rfl rfl rfl (take_self _ _ (vflat_len false _)) (vflat_len false _) rfl) ?_
   refine o1 ?_; refine nl ?_; refine rt ?_
   have hpe : (putE (rightQ (Fr4.of q).s (Fr4.of q).x (Fr4.of q).t (Fr4.of q).y) q y last put) = 0 := by unfold putE; rw [h1, decide_eq_false h2, h3, decide_eq_false h4]; rfl
   have hpl : putL 0 q y vs = vs := by unfold putL; rw [decide_eq_false h5]; rfl
   exact enL (lent' := [⟨136, 0, [.t (sR 97 (putL (putE (rightQ (Fr4.of q).s (Fr4.of q).x (Fr4.of q).t (Fr4.of q).y) q y last put) q y vs)), tv (.int .i64 (putY (putE (rightQ (Fr4.of q).s (Fr4.of q).x (Fr4.of q).t (Fr4.of q).y) q y last put) y last)), tv (.bool (putP (putE (rightQ (Fr4.of q).s (Fr4.of q).x (Fr4.of q).t (Fr4.of q).y) q y last put) put))]⟩]) (.inl rfl) rfl (pk1 (pkv _)) (by decide) (fun _ h => by cases h) ⟨⟨rfl, rfl⟩, trivial⟩ ⟨(by rw [hpe, hpl]; rfl), trivial⟩ ⟨rfl, trivial⟩ (fun h => by cases h) ⟨rfl, by rw [hpe]⟩
  (iterate 6 refine no_ ?_); refine o1 ?_; refine o1 ?_; refine nl ?_; refine cdf rfl ?_; refine sk ?_; refine sq ?_; refine rl ?_; (iterate 5 refine o1 ?_); refine st ?_; refine o1 ?_
  refine o1 ?_; refine st ?_; refine nl ?_; refine sq ?_; refine sq ?_; obtain rfl := (ha.right h1).symm
  refine rl ?_; refine ld ?_; refine ca (p_Sign ha) ok80 ⟨a1g rfl, rfl⟩ (.one (tv (.int .i64 q.num.sign))) ?_; refine o1 ?_; refine nl ?_; refine cdp rfl (fun h6 => ?_) (fun h6 => ?_)
  ·refine rd [0, 2] (fun i => [12, 13, 14, 15].contains i) mixed ?_
   refine dv 0 ?_; refine dv 1 ?_; refine dv 2 ?_; refine dv 3 ?_; refine dv 4 ?_; refine dld 5 ?_; refine dv 6 ?_; refine dld 7 ?_; refine dv 8 ?_
   refine dca 9 rfl (p_clone (y := y) ha) ok132 ⟨a1g rfl, rfl⟩ (.agg ((vtr false (y, q)).map .t)) ?_; refine d_bs (key := 3) 10 (by kernel_rfl) rfl rfl ttok rfl ⟨rfl, rfl, trivial⟩ ?_
   refine d_appK (j := 4) (n := vs.length) (l := vcl vs) 11 rfl ttok rfl rfl rfl (.sl rfl (vcl_len _)) (.sl rfl rfl rfl) rfl rfl (by omega) (by omega) rfl ⟨rfl, rfl, trivial⟩ rfl (by kernel_rfl) rfl ?_
   refine d_v 12 (by kernel_rfl) rfl rfl ttok rfl (by trivial) ?_ (fun h => by first | rfl | cases h)
   refine d_v 13 (by kernel_rfl) rfl rfl ttok rfl (by trivial) ?_ (fun h => by first | rfl | cases h)
   refine d_v 14 (by kernel_rfl) rfl rfl ttok rfl (by trivial) ?_ (fun h => by first | rfl | cases h)
   refine dst 15 ?_; refine dz0 ?_; refine sq ?_; refine rl ?_
   refine WL.sub (cls (j := 0) (k := 4) (p := 0) (n := vs.length + 1) (trs := (vs ++ [(y, q)]).flatMap (vtr false)) rfl rfl rfl (congrArg (fun l => some (⟨97, 5, l⟩ : Ob)) (vcl_snoc vs (y, q))) rfl (take_self _ _ (by rw [vflat_len, List.length_append]; rfl)) (by rw [vflat_len, List.length_append]; rfl) rfl) ?_
   refine o1 ?_; refine nl ?_; refine rt ?_
   have hpe : (putE (rightQ (Fr4.of q).s (Fr4.of q).x (Fr4.of q).t (Fr4.of q).y) q y last put) = 0 := by unfold putE; rw [h1, decide_eq_false h2, h3]; rfl
   have hpl : putL 0 q y vs = (vs ++ [(y, q)]) := by unfold putL; rw [decide_eq_true h6]; rfl
   exact enL (lent' := [⟨136, 0, [.t (sR 97 (putL (putE (rightQ (Fr4.of q).s (Fr4.of q).x (Fr4.of q).t (Fr4.of q).y) q y last put) q y vs)), tv (.int .i64 (putY (putE (rightQ (Fr4.of q).s (Fr4.of q).x (Fr4.of q).t (Fr4.of q).y) q y last put) y last)), tv (.bool (putP (putE (rightQ (Fr4.of q).s (Fr4.of q).x (Fr4.of q).t (Fr4.of q).y) q y last put) put))]⟩]) (.inl rfl) rfl (pk1 (pkv _)) (by decide) (fun _ h => by cases h) ⟨⟨rfl, rfl⟩, trivial⟩ ⟨(by rw [hpe, hpl]; rw [show sR 97 (vs ++ [(y, q)]) = .s true 97 5 (vs.length + 1) ((vs ++ [(y, q)]).flatMap (vtr false)) by rw [sR, List.length_append]; rfl]; rfl), trivial⟩ ⟨rfl, trivial⟩ (fun h => by cases h) ⟨rfl, by rw [hpe]⟩
  refine sk ?_; refine sq ?_; refine rl ?_
  refine WL.sub (cls (j := 0) (k := 1) (p := 0) (n := vs.length) (trs := vs.flatMap (vtr false)) rfl rfl rfl rfl rfl (take_self _ _ (vflat_len false _)) (vflat_len false _) rfl) ?_
  refine o1 ?_; refine nl ?_; refine rt ?_
  have hpe : (putE (rightQ (Fr4.of q).s (Fr4.of q).x (Fr4.of q).t (Fr4.of q).y) q y last put) = 0 := by unfold putE; rw [h1, decide_eq_false h2, h3]; rfl
  have hpl : putL 0 q y vs = vs := by unfold putL; rw [decide_eq_false h6]; rfl
  exact enL (lent' := [⟨136, 0, [.t (sR 97 (putL (putE (rightQ (Fr4.of q).s (Fr4.of q).x (Fr4.of q).t (Fr4.of q).y) q y last put) q y vs)), tv (.int .i64 (putY (putE (rightQ (Fr4.of q).s (Fr4.of q).x (Fr4.of q).t (Fr4.of q).y) q y last put) y last)), tv (.bool (putP (putE (rightQ (Fr4.of q).s (Fr4.of q).x (Fr4.of q).t (Fr4.of q).y) q y last put) put))]⟩]) (.inl rfl) rfl (pk1 (pkv _)) (by decide) (fun _ h => by cases h) ⟨⟨rfl, rfl⟩, trivial⟩ ⟨(by rw [hpe, hpl]; rfl), trivial⟩ ⟨rfl, trivial⟩ (fun h => by cases h) ⟨rfl, by rw [hpe]⟩
 refine o1 ?_; refine o1 ?_; (iterate 3 refine no_ ?_); refine o1 ?_; refine o1 ?_; refine nl ?_; refine cdt rfl ?_; refine sq ?_; refine rl ?_
 refine WL.sub (cls (j := 0) (k := 1) (p := 0) (n := vs.length) (trs := vs.flatMap (vtr false)) rfl rfl rfl rfl rfl (take_self _ _ (vflat_len false _)) (vflat_len false _) rfl) ?_; refine o1 ?_
 refine nl ?_; refine rt ?_; have hpe : (putE (rightQ a.s a.x a.t a.y) q y last put) = 2 := by unfold putE; rw [h1]; rfl
 exact enL (lent' := [⟨136, 0, [.t (sR 97 (putL (putE (rightQ a.s a.x a.t a.y) q y last put) q y vs)), tv (.int .i64 (putY (putE (rightQ a.s a.x a.t a.y) q y last put) y last)), tv (.bool (putP (putE (rightQ a.s a.x a.t a.y) q y last put) put))]⟩]) (.inl rfl) rfl (pk1 (pkv _)) (by decide) (fun _ h => by cases h) ⟨⟨rfl, rfl⟩, trivial⟩ ⟨(by rw [hpe]; rfl), trivial⟩ ⟨rfl, trivial⟩ (fun h => by cases h) ⟨rfl, by rw [hpe]⟩
theorem p_PutM {vs : List (Int × Rat)} {last y : Int} {put : Bool} {q : Rat} (hs : Sz 68719476736 q) (h0 : 0 ≤ q) (hp : put = true → last < y) (hl : vs.length ≤ 1073741822) : Spec false Tryz.prog 126 [⟨136, 0, [.t (sR 97 vs), tv (.int .i64 last), tv (.bool put)]⟩] [.one (.pt 0 0), .one (tv (.int .i64 y)), qF (.of q)] (Rt [⟨136, 0, [.t (sR 97 (vs ++ if 0 < q then [(y, q)] else [])), tv (.int .i64 y), tv (.bool true)]⟩] (.one (tv (.int .i64 0)))) := by
 have h := p_Put (last := last) (y := y) (put := put) (Qn.of hs) hl
 rw [putE_okM h0 hp, putL_ok] at h
 exact h
theorem p_UseM {vs : List (Int × Rat)} {last fr : Int} {put : Bool} {p : Rat} {n B : Nat} (hok : StOk vs n B) (hs : Sz 330 p) (hn : n ≤ 50) (hB : B ≤ 20000) : Spec false Tryz.prog 127 [⟨136, 0, [.t (sR 97 vs), tv (.int .i64 last), tv (.bool put)]⟩] [.one (.pt 0 0), .one (tv (.int .i64 fr)), qF (.of p)] (Rt [⟨136, 0, [.t (sR 97 ((useL fr vs p).1.filter (fun x => !dl0 x.1 x.2))), tv (.int .i64 last), tv (.bool put)]⟩] (.one (.t (sO 97 (useL fr vs p).2.1)))) := by
 have h1 := sz_iff.1 hs
 have h2 : wt p = szq p + 1 := rfl
 have h3 := hok.len
 have h4 := hok.size
 exact p_Use (fr := fr) (Qn.of (p := p) (hs.mono (M := 68719476736) (by omega))) (by omega) (by omega) (hok.zU (by omega))
theorem m_back {M : Mx} {N y : Nat} {U : List Us} {e c : Nat → Rat} {vs : List (Int × Rat)} {last : Int} {put : Bool} (hOk : M.Ok N) (hI : M.Iv N U) (hy : y < N) (hU : U.length ≤ 1900) (hleft : M.los y = M.left U y) (hlast : put = true → last < (y : Int)) (hvl : vs.length ≤ 1073741822) : Spec false Tryz.prog 85 [flO M N (M.rows U e c (y + 1)) U (ldP vs last put)] [.one (.pt 0 0), .one (tv (.int .i64 ((y : Nat) : Int)))] (Rt [flO M N (M.rows (M.back U y (y - (y - M.b))) e c (y + 1)) (M.back U y (y - (y - M.b))) (ldP (vs ++ wl M (M.back U y (y - (y - M.b))) [y]) (y : Int) true)] (.tup [])) := by
 refine fnLs Tryz.func85 rfl Tryz.ntmps85 rfl ttok rfl fun N9 M9 w9 c0 h0 => ?_
 have hbs := hOk.b; have hws := hOk.w; have hNs := hOk.n
 have hrl : (M.rows U e c (y + 1)).length = y + 1 := rows_len
 have hnr : (M.rows U e c (y + 1))[y]? = some (M.row U e c y) := rows_get (by omega)
 refine WP.sub (opn (j := 0) (key := 1) (p := 0) (e := 66) (z := 24) (n := (M.rows U e c (y + 1)).length) (trs := (M.rows U e c (y + 1)).flatMap (rtr false)) (l' := flC M N (.sl 1 0 (M.rows U e c (y + 1)).length) (.t (sUs true false U)) (.t (ldP vs last put))) rfl rfl rfl rfl rfl) ?_
 refine sq ?_; refine rl ?_; (iterate 4 refine o1 ?_); refine ld ?_; (iterate 3 refine o1 ?_)
 refine lda (flat_subM (f := (rtr false)) (z := 24) (o := 0) (us := (Fr4.of (M.row U e c y).l).tr false) (rtr_len false) (hnr) (Nat.le_of_ble_eq_true rfl) rfl) ?_; refine al 2 ?_; refine st ?_
 refine nl ?_; refine sq ?_; refine sq ?_
 refine WP.sub (cls (j := 0) (k := 1) (p := 0) (e := 66) (z := 24) (n := (M.rows U e c (y + 1)).length) (trs := (M.rows U e c (y + 1)).flatMap (rtr false)) (l' := flC M N (.t (.s true 66 24 ((M.rows U e c (y + 1)).length) ((M.rows U e c (y + 1)).flatMap (rtr false)))) (.t (sUs true false U)) (.t (ldP vs last put))) rfl rfl rfl (rfl) rfl (take_self _ _ (rflat_len _ _)) (rflat_len _ _) rfl) ?_
 refine rl ?_; (iterate 5 refine o1 ?_); refine ld ?_; refine o1 ?_; refine o1 ?_; refine WL.cast (t := 23) (u' := .int .i64 (((y - M.b) : Nat) : Int)) rfl (cint (by omega)) ?_
 refine o1 ?_; refine nl ?_; refine bl ?_
 refine lp (γ := Nat) (fun j => frL [(0, .one (.pt 0 0)), (1, .one (tv (.int .i64 ((y : Nat) : Int)))), (4, .one (.pt 1 0)), (5, .one (tv (.int .i64 (((y - M.b + j) : Nat) : Int))))]) (fun j => [(⟨92, 0, flC M N (.t (sRw true false (M.rows (M.back U y j) e c (y + 1)))) (.t (sUs true false (M.back U y j))) (.t (ldP vs last put))⟩ : Ob), ⟨26, 0, ((Fr4.of (M.left (M.back U y j) y)).tr false).map .t⟩].map some) (fun j => j ≤ y - (y - M.b)) (fun j => y - (y - M.b) - j) 0 (Nat.zero_le _) (suL h0 [0, 2] _ _ (by decide) rfl ⟨rfl, rfl, rfl, rfl, trivial⟩ ⟨oe rfl rfl, oet (congrArg (fun q => some (⟨26, 0, ((Fr4.of q).tr false).map .t⟩ : Ob)) hleft), rfl⟩) fun j hj => ?_
 have hIj := hI.back (k := j) hy hj
 have hlj := back_len (M := M) (U := U) (y := y) (k := j)
 have hszl : Sz 68719476736 (M.left (M.back U y j) y) := (hIj.sz_left hOk hy).mono (by omega)
 refine sq ?_; refine sq ?_; refine rl ?_; (iterate 3 refine o1 ?_); refine nl ?_; refine cdp rfl (fun h1 => ?_) (fun h1 => ?_)
 ·refine sk ?_; refine sq ?_; refine bl ?_; refine sq ?_; have hXN : (y - M.b + j) < N := by omega
  have hszr : Sz 68719476736 (M.room (M.back U y j) (y - M.b + j)) := (hIj.sz_room hOk hXN).mono (by omega)
  have hszm : Sz 330 (qmin (M.left (M.back U y j) y) [M.room (M.back U y j) (y - M.b + j)]) := qmin_sz (hIj.sz_left hOk hy) (fun q hq => by rw [List.mem_singleton] at hq; rw [hq]; exact hIj.sz_room hOk hXN)
  have hszm1 : Sz 68719476736 (qmin (M.left (M.back U y j) y) [M.room (M.back U y j) (y - M.b + j)]) := hszm.mono (by omega)
  have hlu := left_use (M := M) (y := (y - M.b + j)) (hIj.v y hy).1.1
  have hnl : (M.left (M.back U y j) y) - (qmin (M.left (M.back U y j) y) [M.room (M.back U y j) (y - M.b + j)]) = M.left (M.back U y (j + 1)) y := by rw [back_succ]; exact hlu.1.symm
  refine rd [1] (fun i => [7].contains i) mixed ?_
  refine dld 0 ?_; refine dv 1 ?_; refine dv 2 ?_; refine WO.two (i := 3) (j := 6) (by kernel_rfl) ?_ ?_
  ·refine ocl 3 2 [0] rfl (m_roomM (M := M) (N := N) (n := y + 1) (y := (y - M.b + j)) (U := (M.back U y j)) (e := e) (c := c) (L := ldP vs last put) hOk hIj (by omega) (by omega)) ok124 ⟨oe rfl rfl, rfl⟩ ⟨rfl, rfl, rfl⟩ (ok := [some ⟨92, 0, flC M N (.t (sRw true false (M.rows (M.back U y j) e c (y + 1)))) (.t (sUs true false (M.back U y j))) (.t (ldP vs last put))⟩]) ⟨oe rfl rfl, rfl⟩ ⟨rfl, trivial⟩ ?_
   refine WO.two (i := 4) (j := 6) (by kernel_rfl) ?_ ?_
   ·refine o_bs (key := 2) 4 rfl rfl ⟨rfl, trivial⟩ ?_
    refine dfz (i := 33) (k := 2) (t := 26) (t' := 49) (z := 4) (n := 1) (l := ([Fr4.of (M.room (M.back U y j) (y - M.b + j))]).flatMap (Fr4.tr false)) rfl rfl rfl rfl (.one .sl) (by rfl) (by rfl) ?_
    refine WO.two (i := 5) (j := 6) (by kernel_rfl) ?_ ?_
    ·refine oca 5 rfl (p_Min2 (a := .of (M.room (M.back U y j) (y - M.b + j))) (Qn.of (hszr)) hszl) ok123 ⟨a1g rfl, a1 rfl, rfl⟩ (qF (.of (qmin (M.left (M.back U y j) y) [M.room (M.back U y j) (y - M.b + j)]))) ?_
     refine d_al (key := 3) 6 (by kernel_rfl) rfl rfl ttok rfl ⟨rfl, trivial⟩ ?_
     refine dst 7 ?_; refine dz0 ?_; refine sq ?_; refine rl ?_; (iterate 3 refine o1 ?_); refine ld ?_
     refine cl 4 [0] (m_useM (M := M) (N := N) (n := y + 1) (y := (y - M.b + j)) (U := (M.back U y j)) (e := e) (c := c) (v := (y : Int)) (L := ldP vs last put) hOk hIj (by omega) (by omega) hszm (by omega)) ok125 ⟨oe rfl rfl, rfl⟩ ⟨rfl, rfl, rfl, rfl, rfl⟩ (ok := [some ⟨92, 0, flC M N (.t (sRw true false (M.rows (M.us (M.back U y j) y (y - M.b + j) (qmin (M.left (M.back U y j) y) [M.room (M.back U y j) (y - M.b + j)])) e c (y + 1)))) (.t (sUs true false (M.us (M.back U y j) y (y - M.b + j) (qmin (M.left (M.back U y j) y) [M.room (M.back U y j) (y - M.b + j)])))) (.t (ldP vs last put))⟩]) ⟨oe rfl rfl, rfl⟩ ?_
     refine nl ?_; refine rl ?_; refine ld ?_; refine ld ?_
     refine ca (p_Sub (Qn.of (p := (M.left (M.back U y j) y)) (by assumption)) (Qn.of (p := (qmin (M.left (M.back U y j) y) [M.room (M.back U y j) (y - M.b + j)])) (by assumption))) ok71 ⟨a1g rfl, a1g rfl, rfl⟩ (qF (.of ((M.left (M.back U y j) y) - (qmin (M.left (M.back U y j) y) [M.room (M.back U y j) (y - M.b + j)])))) ?_
     refine st ?_; refine nl ?_; refine rl ?_; refine o1 ?_; refine o1 ?_; refine WL.cast (t := 28) (u' := .int .i64 (((y - M.b + (j + 1)) : Nat) : Int)) rfl (cint (by omega)) ?_
     refine o1 ?_; refine nl ?_
     exact ⟨j + 1, by omega, by omega, suL h0 [0, 1] _ _ (by decide) rfl ⟨rfl, rfl, rfl, rfl, trivial⟩ ⟨oe rfl (congrArg (fun V => some (⟨92, 0, flC M N (.t (sRw true false (M.rows V e c (y + 1)))) (.t (sUs true false V)) (.t (ldP vs last put))⟩ : Ob)) back_succ.symm), oet (congrArg (fun q => some (⟨26, 0, ((Fr4.of q).tr false).map .t⟩ : Ob)) hnl), rfl⟩⟩
    refine o_al (key := 3) 6 rfl rfl ttok rfl ⟨rfl, trivial⟩ ?_
    refine dca 5 rfl (p_Min2 (a := .of (M.room (M.back U y j) (y - M.b + j))) (Qn.of (hszr)) hszl) ok123 ⟨a1g rfl, a1 rfl, rfl⟩ (qF (.of (qmin (M.left (M.back U y j) y) [M.room (M.back U y j) (y - M.b + j)]))) ?_
    refine dst 7 ?_; refine dz0 ?_; refine sq ?_; refine rl ?_; (iterate 3 refine o1 ?_); refine ld ?_
    refine cl 4 [0] (m_useM (M := M) (N := N) (n := y + 1) (y := (y - M.b + j)) (U := (M.back U y j)) (e := e) (c := c) (v := (y : Int)) (L := ldP vs last put) hOk hIj (by omega) (by omega) hszm (by omega)) ok125 ⟨oe rfl rfl, rfl⟩ ⟨rfl, rfl, rfl, rfl, rfl⟩ (ok := [some ⟨92, 0, flC M N (.t (sRw true false (M.rows (M.us (M.back U y j) y (y - M.b + j) (qmin (M.left (M.back U y j) y) [M.room (M.back U y j) (y - M.b + j)])) e c (y + 1)))) (.t (sUs true false (M.us (M.back U y j) y (y - M.b + j) (qmin (M.left (M.back U y j) y) [M.room (M.back U y j) (y - M.b + j)])))) (.t (ldP vs last put))⟩]) ⟨oe rfl rfl, rfl⟩ ?_
    refine nl ?_; refine rl ?_; refine ld ?_; refine ld ?_
    refine ca (p_Sub (Qn.of (p := (M.left (M.back U y j) y)) (by assumption)) (Qn.of (p := (qmin (M.left (M.back U y j) y) [M.room (M.back U y j) (y - M.b + j)])) (by assumption))) ok71 ⟨a1g rfl, a1g rfl, rfl⟩ (qF (.of ((M.left (M.back U y j) y) - (qmin (M.left (M.back U y j) y) [M.room (M.back U y j) (y - M.b + j)])))) ?_
    refine st ?_; refine nl ?_; refine rl ?_; refine o1 ?_; refine o1 ?_; refine WL.cast (t := 28) (u' := .int .i64 (((y - M.b + (j + 1)) : Nat) : Int)) rfl (cint (by omega)) ?_
    refine o1 ?_; refine nl ?_
    exact ⟨j + 1, by omega, by omega, suL h0 [0, 1] _ _ (by decide) rfl ⟨rfl, rfl, rfl, rfl, trivial⟩ ⟨oe rfl (congrArg (fun V => some (⟨92, 0, flC M N (.t (sRw true false (M.rows V e c (y + 1)))) (.t (sUs true false V)) (.t (ldP vs last put))⟩ : Ob)) back_succ.symm), oet (congrArg (fun q => some (⟨26, 0, ((Fr4.of q).tr false).map .t⟩ : Ob)) hnl), rfl⟩⟩
   refine o_al (key := 2) 6 rfl rfl ttok rfl ⟨rfl, trivial⟩ ?_; refine d_bs (key := 3) 4 (by kernel_rfl) rfl rfl ttok rfl ⟨rfl, trivial⟩ ?_
   refine dfz (i := 33) (k := 3) (t := 26) (t' := 49) (z := 4) (n := 1) (l := ([Fr4.of (M.room (M.back U y j) (y - M.b + j))]).flatMap (Fr4.tr false)) rfl rfl rfl rfl (.one .sl) (by rfl) (by rfl) ?_
   refine dca 5 rfl (p_Min2 (a := .of (M.room (M.back U y j) (y - M.b + j))) (Qn.of (hszr)) hszl) ok123 ⟨a1g rfl, a1 rfl, rfl⟩ (qF (.of (qmin (M.left (M.back U y j) y) [M.room (M.back U y j) (y - M.b + j)]))) ?_
   refine dst 7 ?_; refine dz0 ?_; refine sq ?_; refine rl ?_; (iterate 3 refine o1 ?_); refine ld ?_
   refine cl 4 [0] (m_useM (M := M) (N := N) (n := y + 1) (y := (y - M.b + j)) (U := (M.back U y j)) (e := e) (c := c) (v := (y : Int)) (L := ldP vs last put) hOk hIj (by omega) (by omega) hszm (by omega)) ok125 ⟨oe rfl rfl, rfl⟩ ⟨rfl, rfl, rfl, rfl, rfl⟩ (ok := [some ⟨92, 0, flC M N (.t (sRw true false (M.rows (M.us (M.back U y j) y (y - M.b + j) (qmin (M.left (M.back U y j) y) [M.room (M.back U y j) (y - M.b + j)])) e c (y + 1)))) (.t (sUs true false (M.us (M.back U y j) y (y - M.b + j) (qmin (M.left (M.back U y j) y) [M.room (M.back U y j) (y - M.b + j)])))) (.t (ldP vs last put))⟩]) ⟨oe rfl rfl, rfl⟩ ?_
   refine nl ?_; refine rl ?_; refine ld ?_; refine ld ?_
   refine ca (p_Sub (Qn.of (p := (M.left (M.back U y j) y)) (by assumption)) (Qn.of (p := (qmin (M.left (M.back U y j) y) [M.room (M.back U y j) (y - M.b + j)])) (by assumption))) ok71 ⟨a1g rfl, a1g rfl, rfl⟩ (qF (.of ((M.left (M.back U y j) y) - (qmin (M.left (M.back U y j) y) [M.room (M.back U y j) (y - M.b + j)])))) ?_
   refine st ?_; refine nl ?_; refine rl ?_; refine o1 ?_; refine o1 ?_; refine WL.cast (t := 28) (u' := .int .i64 (((y - M.b + (j + 1)) : Nat) : Int)) rfl (cint (by omega)) ?_
   refine o1 ?_; refine nl ?_
   exact ⟨j + 1, by omega, by omega, suL h0 [0, 1] _ _ (by decide) rfl ⟨rfl, rfl, rfl, rfl, trivial⟩ ⟨oe rfl (congrArg (fun V => some (⟨92, 0, flC M N (.t (sRw true false (M.rows V e c (y + 1)))) (.t (sUs true false V)) (.t (ldP vs last put))⟩ : Ob)) back_succ.symm), oet (congrArg (fun q => some (⟨26, 0, ((Fr4.of q).tr false).map .t⟩ : Ob)) hnl), rfl⟩⟩
  refine o_al (key := 2) 6 rfl rfl ttok rfl ⟨rfl, trivial⟩ ?_
  refine dcl 3 3 [0] rfl (m_roomM (M := M) (N := N) (n := y + 1) (y := (y - M.b + j)) (U := (M.back U y j)) (e := e) (c := c) (L := ldP vs last put) hOk hIj (by omega) (by omega)) ok124 ⟨oe rfl rfl, rfl⟩ ⟨rfl, rfl, rfl⟩ (ok := [some ⟨92, 0, flC M N (.t (sRw true false (M.rows (M.back U y j) e c (y + 1)))) (.t (sUs true false (M.back U y j))) (.t (ldP vs last put))⟩]) ⟨oe rfl rfl, rfl⟩ ⟨rfl, trivial⟩ ?_
  refine d_bs (key := 3) 4 (by kernel_rfl) rfl rfl ttok rfl ⟨rfl, trivial⟩ ?_
  refine dfz (i := 33) (k := 3) (t := 26) (t' := 49) (z := 4) (n := 1) (l := ([Fr4.of (M.room (M.back U y j) (y - M.b + j))]).flatMap (Fr4.tr false)) rfl rfl rfl rfl (.one .sl) (by rfl) (by rfl) ?_
  refine dca 5 rfl (p_Min2 (a := .of (M.room (M.back U y j) (y - M.b + j))) (Qn.of (hszr)) hszl) ok123 ⟨a1g rfl, a1 rfl, rfl⟩ (qF (.of (qmin (M.left (M.back U y j) y) [M.room (M.back U y j) (y - M.b + j)]))) ?_
  refine dst 7 ?_; refine dz0 ?_; refine sq ?_; refine rl ?_; (iterate 3 refine o1 ?_); refine ld ?_
  refine cl 4 [0] (m_useM (M := M) (N := N) (n := y + 1) (y := (y - M.b + j)) (U := (M.back U y j)) (e := e) (c := c) (v := (y : Int)) (L := ldP vs last put) hOk hIj (by omega) (by omega) hszm (by omega)) ok125 ⟨oe rfl rfl, rfl⟩ ⟨rfl, rfl, rfl, rfl, rfl⟩ (ok := [some ⟨92, 0, flC M N (.t (sRw true false (M.rows (M.us (M.back U y j) y (y - M.b + j) (qmin (M.left (M.back U y j) y) [M.room (M.back U y j) (y - M.b + j)])) e c (y + 1)))) (.t (sUs true false (M.us (M.back U y j) y (y - M.b + j) (qmin (M.left (M.back U y j) y) [M.room (M.back U y j) (y - M.b + j)])))) (.t (ldP vs last put))⟩]) ⟨oe rfl rfl, rfl⟩ ?_
  refine nl ?_; refine rl ?_; refine ld ?_; refine ld ?_
  refine ca (p_Sub (Qn.of (p := (M.left (M.back U y j) y)) (by assumption)) (Qn.of (p := (qmin (M.left (M.back U y j) y) [M.room (M.back U y j) (y - M.b + j)])) (by assumption))) ok71 ⟨a1g rfl, a1g rfl, rfl⟩ (qF (.of ((M.left (M.back U y j) y) - (qmin (M.left (M.back U y j) y) [M.room (M.back U y j) (y - M.b + j)])))) ?_
  refine st ?_; refine nl ?_; refine rl ?_; refine o1 ?_; refine o1 ?_; refine WL.cast (t := 28) (u' := .int .i64 (((y - M.b + (j + 1)) : Nat) : Int)) rfl (cint (by omega)) ?_
  refine o1 ?_; refine nl ?_
  exact ⟨j + 1, by omega, by omega, suL h0 [0, 1] _ _ (by decide) rfl ⟨rfl, rfl, rfl, rfl, trivial⟩ ⟨oe rfl (congrArg (fun V => some (⟨92, 0, flC M N (.t (sRw true false (M.rows V e c (y + 1)))) (.t (sUs true false V)) (.t (ldP vs last put))⟩ : Ob)) back_succ.symm), oet (congrArg (fun q => some (⟨26, 0, ((Fr4.of q).tr false).map .t⟩ : Ob)) hnl), rfl⟩⟩
 refine ex ?_; have hjj : j = y - (y - M.b) := by omega
 subst hjj
 refine WP.sub (opnP (j := 0) (key := 2) (p := 9) (e := 136) (trs := [sR 97 vs, .v (.int .i64 (last)), .v (.bool put)]) (l' := flC M N (.t (sRw true false (M.rows (M.back U y (y - (y - M.b))) e c (y + 1)))) (.t (sUs true false (M.back U y (y - (y - M.b))))) (.pt 2 0)) rfl rfl rfl rfl) ?_
 refine rd [0, 1] (fun i => [].contains i) mixed ?_
 refine dv 0 ?_; refine dv 1 ?_; refine dv 2 ?_; refine dld 3 ?_; refine dv 4 ?_; refine dld 5 ?_
 refine dcl 6 3 [2] rfl (p_PutM (vs := vs) (last := last) (y := (y : Int)) (put := put) (q := (M.left (M.back U y (y - (y - M.b))) y)) hszl (hIj.v y hy).1.1 hlast hvl) ok126 ⟨oe rfl rfl, rfl⟩ ⟨rfl, rfl, rfl, rfl⟩ (ok := [some ⟨136, 0, [.t (sR 97 (vs ++ if 0 < (M.left (M.back U y (y - (y - M.b))) y) then [((y : Int), (M.left (M.back U y (y - (y - M.b))) y))] else [])), tv (.int .i64 (y : Int)), tv (.bool true)]⟩]) ⟨oe rfl rfl, rfl⟩ ⟨rfl, rfl, trivial⟩ ?_
 refine dz0 ?_
 refine enS (clsP (j := 0) (k := 2) (p := 9) (e := 136) (trs := [sR 97 (vs ++ if 0 < (M.left (M.back U y (y - (y - M.b))) y) then [((y : Int), (M.left (M.back U y (y - (y - M.b))) y))] else []), .v (.int .i64 ((y : Int))), .v (.bool true)]) (l' := flC M N (.t (sRw true false (M.rows (M.back U y (y - (y - M.b))) e c (y + 1)))) (.t (sUs true false (M.back U y (y - (y - M.b))))) (.t (ldP (vs ++ if 0 < (M.left (M.back U y (y - (y - M.b))) y) then [((y : Int), (M.left (M.back U y (y - (y - M.b))) y))] else []) ((y : Int)) true))) rfl rfl rfl rfl rfl) ?_
 exact enS0 <| enL (lent' := [flO M N (M.rows (M.back U y (y - (y - M.b))) e c (y + 1)) (M.back U y (y - (y - M.b))) (ldP (vs ++ wl M (M.back U y (y - (y - M.b))) [y]) (y : Int) true)]) (.inr rfl) rfl (pk0) (by decide) (fun _ h => by cases h) ⟨⟨rfl, rfl⟩, trivial⟩ ⟨by rw [wl_one]; rfl, trivial⟩ ⟨rfl, trivial⟩ (fun h => by cases h) ⟨rfl, rfl⟩
theorem m_forward {M : Mx} {N y : Nat} {U : List Us} {e c : Nat → Rat} {last : Int} {put : Bool} (hOk : M.Ok N) (hI : M.Iv N U) (hy : y < N) (hU : U.length ≤ 1900) : Spec false Tryz.prog 86 [flO M N (M.rows U e c (y + 1)) U (ldP (wl M U (M.I y)) last put)] [.one (.pt 0 0), .one (tv (.int .i64 ((y : Nat) : Int)))] (Rt [flO M N (M.rows (M.fwd U y (y - (y - M.w))) e c (y + 1)) (M.fwd U y (y - (y - M.w))) (ldP (wl M (M.fwd U y (y - (y - M.w))) (M.I y)) last put)] (.tup [])) := by
 refine fnLs Tryz.func86 rfl Tryz.ntmps86 rfl ttok rfl fun N9 M9 w9 c0 h0 => ?_
 have hbs := hOk.b; have hws := hOk.w; have hNs := hOk.n
 have hInd : (M.I y).Nodup := I_nodup
 have hIf : ∀ i ∈ M.I y, ((y : Int) - (M.w : Int)) ≤ (i : Int) ∧ i < N := fun i hi => by have := I_mem.1 hi; omega
 obtain ⟨hu1, hu2⟩ := fwd_use (M := M) (y := y) (fr := ((y : Int) - (M.w : Int))) (M.I y) U hInd (fun i hi => (hIf i hi).1) (fun i hi => (hI.v i (hIf i hi).2).1.1)
 obtain ⟨hv1, hv2⟩ := fwd_iv (M := M) (fr := ((y : Int) - (M.w : Int))) hy (M.I y) U hI hOk hInd hIf
 have hIl : (M.I y).length ≤ 40 := I_len hOk.w
 have hok := wl_ok (M := M) (U := U) (I := M.I y) fun i hi => hI.sz_left hOk (hIf i hi).2
 have hGl : (useL ((y : Int) - (M.w : Int)) (wl M U (M.I y)) (M.room U y)).2.1.length ≤ (wl M U (M.I y)).length := useL_len2 _ _ _
 have hvl9 := hok.len
 refine WP.sub (opnP (j := 0) (key := 1) (p := 9) (e := 136) (trs := [sR 97 (wl M U (M.I y)), .v (.int .i64 (last)), .v (.bool put)]) (l' := flC M N (.t (sRw true false (M.rows U e c (y + 1)))) (.t (sUs true false U)) (.pt 1 0)) rfl rfl rfl rfl) ?_
 refine md (γ := Unit) (fun _ => frL [(0, .one (.pt 0 0)), (1, .one (tv (.int .i64 ((y : Nat) : Int)))), (20, .one (.sl 2 0 ((useL ((y : Int) - (M.w : Int)) (wl M U (M.I y)) (M.room U y)).2.1.length))), (21, .one (tv (.int .i64 (((useL ((y : Int) - (M.w : Int)) (wl M U (M.I y)) (M.room U y)).2.1.length : Nat) : Int)))), (22, .one (tv (.int .i64 ((0 : Nat) : Int))))]) (fun _ => ([⟨92, 0, flC M N (.t (sRw true false (M.rows U e c (y + 1)))) (.t (sUs true false U)) (.pt 1 0)⟩, ⟨136, 0, [.t (sR 97 ((useL ((y : Int) - (M.w : Int)) (wl M U (M.I y)) (M.room U y)).1.filter (fun x => !dl0 x.1 x.2))), tv (.int .i64 last), tv (.bool put)]⟩, ⟨97, 5, vco (useL ((y : Int) - (M.w : Int)) (wl M U (M.I y)) (M.room U y)).2.1⟩] : List Ob).map some) (fun _ => True) ?_ fun _ _ => ?_
 ·refine rd [] (fun i => [].contains i) mixed ?_
  refine dv 0 ?_; refine dv 1 ?_; refine dv 2 ?_; refine dv 4 ?_; refine dv 5 ?_; refine dv 6 ?_; refine dv 7 ?_; refine dv 8 ?_; refine dv 11 ?_; refine dv 12 ?_; refine dv 16 ?_
  refine WO.three (i := 3) (j := 9) (m := 13) (by kernel_rfl) ?_ ?_ ?_
  ·refine old 3 ?_; refine WO.two (i := 9) (j := 13) (by kernel_rfl) ?_ ?_
   ·refine old 9 ?_; refine df 10 ?_
    refine dcl 13 2 [0, 1] rfl (m_room2M (M := M) (N := N) (n := y + 1) (y := y) (U := U) (e := e) (c := c) (o1 := ⟨136, 0, [.t (sR 97 (wl M U (M.I y))), tv (.int .i64 last), tv (.bool put)]⟩) hOk hI (by omega) (by omega) rfl) ok124 ⟨oe rfl rfl, oe rfl rfl, rfl⟩ ⟨rfl, rfl, rfl⟩ (ok := [some ⟨92, 0, flC M N (.t (sRw true false (M.rows U e c (y + 1)))) (.t (sUs true false U)) (.pt 1 0)⟩, some ⟨136, 0, [.t (sR 97 (wl M U (M.I y))), tv (.int .i64 last), tv (.bool put)]⟩]) ⟨oe rfl rfl, oe rfl rfl, rfl⟩ trivial ?_
    refine dcl 14 2 [1] rfl (p_UseM (fr := ((y : Int) - (M.w : Int))) (p := M.room U y) hok (hI.sz_room hOk hy) (by omega) (by omega)) ok127 ⟨oe rfl rfl, rfl⟩ ⟨rfl, rfl, rfl, rfl⟩ (ok := [some ⟨136, 0, [.t (sR 97 ((useL ((y : Int) - (M.w : Int)) (wl M U (M.I y)) (M.room U y)).1.filter (fun x => !dl0 x.1 x.2))), tv (.int .i64 last), tv (.bool put)]⟩]) ⟨oe rfl rfl, rfl⟩ trivial ?_
    refine df 15 ?_; refine dz0 ?_; exact ⟨(), trivial, suL h0 [0, 1, 2] _ _ (by decide) rfl ⟨rfl, rfl, rfl, rfl, rfl, trivial⟩ ⟨oe rfl rfl, oe rfl rfl, oet rfl, rfl⟩⟩
   refine ocl 13 2 [0, 1] rfl (m_room2M (M := M) (N := N) (n := y + 1) (y := y) (U := U) (e := e) (c := c) (o1 := ⟨136, 0, [.t (sR 97 (wl M U (M.I y))), tv (.int .i64 last), tv (.bool put)]⟩) hOk hI (by omega) (by omega) rfl) ok124 ⟨oe rfl rfl, oe rfl rfl, rfl⟩ ⟨rfl, rfl, rfl⟩ (ok := [some ⟨92, 0, flC M N (.t (sRw true false (M.rows U e c (y + 1)))) (.t (sUs true false U)) (.pt 1 0)⟩, some ⟨136, 0, [.t (sR 97 (wl M U (M.I y))), tv (.int .i64 last), tv (.bool put)]⟩]) ⟨oe rfl rfl, oe rfl rfl, rfl⟩ trivial ?_
   refine WO.one (by kernel_rfl) (old 9 ?_)
   refine df 10 ?_
   refine dcl 14 2 [1] rfl (p_UseM (fr := ((y : Int) - (M.w : Int))) (p := M.room U y) hok (hI.sz_room hOk hy) (by omega) (by omega)) ok127 ⟨oe rfl rfl, rfl⟩ ⟨rfl, rfl, rfl, rfl⟩ (ok := [some ⟨136, 0, [.t (sR 97 ((useL ((y : Int) - (M.w : Int)) (wl M U (M.I y)) (M.room U y)).1.filter (fun x => !dl0 x.1 x.2))), tv (.int .i64 last), tv (.bool put)]⟩]) ⟨oe rfl rfl, rfl⟩ trivial ?_
   refine df 15 ?_; refine dz0 ?_; exact ⟨(), trivial, suL h0 [0, 1, 2] _ _ (by decide) rfl ⟨rfl, rfl, rfl, rfl, rfl, trivial⟩ ⟨oe rfl rfl, oe rfl rfl, oet rfl, rfl⟩⟩
  ·refine old 9 ?_; refine df 10 ?_; refine WO.two (i := 3) (j := 13) (by kernel_rfl) ?_ ?_
   ·refine old 3 ?_
    refine dcl 13 2 [0, 1] rfl (m_room2M (M := M) (N := N) (n := y + 1) (y := y) (U := U) (e := e) (c := c) (o1 := ⟨136, 0, [.t (sR 97 (wl M U (M.I y))), tv (.int .i64 last), tv (.bool put)]⟩) hOk hI (by omega) (by omega) rfl) ok124 ⟨oe rfl rfl, oe rfl rfl, rfl⟩ ⟨rfl, rfl, rfl⟩ (ok := [some ⟨92, 0, flC M N (.t (sRw true false (M.rows U e c (y + 1)))) (.t (sUs true false U)) (.pt 1 0)⟩, some ⟨136, 0, [.t (sR 97 (wl M U (M.I y))), tv (.int .i64 last), tv (.bool put)]⟩]) ⟨oe rfl rfl, oe rfl rfl, rfl⟩ trivial ?_
    refine dcl 14 2 [1] rfl (p_UseM (fr := ((y : Int) - (M.w : Int))) (p := M.room U y) hok (hI.sz_room hOk hy) (by omega) (by omega)) ok127 ⟨oe rfl rfl, rfl⟩ ⟨rfl, rfl, rfl, rfl⟩ (ok := [some ⟨136, 0, [.t (sR 97 ((useL ((y : Int) - (M.w : Int)) (wl M U (M.I y)) (M.room U y)).1.filter (fun x => !dl0 x.1 x.2))), tv (.int .i64 last), tv (.bool put)]⟩]) ⟨oe rfl rfl, rfl⟩ trivial ?_
    refine df 15 ?_; refine dz0 ?_; exact ⟨(), trivial, suL h0 [0, 1, 2] _ _ (by decide) rfl ⟨rfl, rfl, rfl, rfl, rfl, trivial⟩ ⟨oe rfl rfl, oe rfl rfl, oet rfl, rfl⟩⟩
   refine ocl 13 2 [0, 1] rfl (m_room2M (M := M) (N := N) (n := y + 1) (y := y) (U := U) (e := e) (c := c) (o1 := ⟨136, 0, [.t (sR 97 (wl M U (M.I y))), tv (.int .i64 last), tv (.bool put)]⟩) hOk hI (by omega) (by omega) rfl) ok124 ⟨oe rfl rfl, oe rfl rfl, rfl⟩ ⟨rfl, rfl, rfl⟩ (ok := [some ⟨92, 0, flC M N (.t (sRw true false (M.rows U e c (y + 1)))) (.t (sUs true false U)) (.pt 1 0)⟩, some ⟨136, 0, [.t (sR 97 (wl M U (M.I y))), tv (.int .i64 last), tv (.bool put)]⟩]) ⟨oe rfl rfl, oe rfl rfl, rfl⟩ trivial ?_
   refine WO.one (by kernel_rfl) (old 3 ?_)
   refine dcl 14 2 [1] rfl (p_UseM (fr := ((y : Int) - (M.w : Int))) (p := M.room U y) hok (hI.sz_room hOk hy) (by omega) (by omega)) ok127 ⟨oe rfl rfl, rfl⟩ ⟨rfl, rfl, rfl, rfl⟩ (ok := [some ⟨136, 0, [.t (sR 97 ((useL ((y : Int) - (M.w : Int)) (wl M U (M.I y)) (M.room U y)).1.filter (fun x => !dl0 x.1 x.2))), tv (.int .i64 last), tv (.bool put)]⟩]) ⟨oe rfl rfl, rfl⟩ trivial ?_
   refine df 15 ?_; refine dz0 ?_; exact ⟨(), trivial, suL h0 [0, 1, 2] _ _ (by decide) rfl ⟨rfl, rfl, rfl, rfl, rfl, trivial⟩ ⟨oe rfl rfl, oe rfl rfl, oet rfl, rfl⟩⟩
  refine ocl 13 2 [0, 1] rfl (m_room2M (M := M) (N := N) (n := y + 1) (y := y) (U := U) (e := e) (c := c) (o1 := ⟨136, 0, [.t (sR 97 (wl M U (M.I y))), tv (.int .i64 last), tv (.bool put)]⟩) hOk hI (by omega) (by omega) rfl) ok124 ⟨oe rfl rfl, oe rfl rfl, rfl⟩ ⟨rfl, rfl, rfl⟩ (ok := [some ⟨92, 0, flC M N (.t (sRw true false (M.rows U e c (y + 1)))) (.t (sUs true false U)) (.pt 1 0)⟩, some ⟨136, 0, [.t (sR 97 (wl M U (M.I y))), tv (.int .i64 last), tv (.bool put)]⟩]) ⟨oe rfl rfl, oe rfl rfl, rfl⟩ trivial ?_
  refine WO.two (i := 3) (j := 9) (by kernel_rfl) ?_ ?_
  ·refine old 3 ?_; refine WO.one (by kernel_rfl) (old 9 ?_)
   refine df 10 ?_
   refine dcl 14 2 [1] rfl (p_UseM (fr := ((y : Int) - (M.w : Int))) (p := M.room U y) hok (hI.sz_room hOk hy) (by omega) (by omega)) ok127 ⟨oe rfl rfl, rfl⟩ ⟨rfl, rfl, rfl, rfl⟩ (ok := [some ⟨136, 0, [.t (sR 97 ((useL ((y : Int) - (M.w : Int)) (wl M U (M.I y)) (M.room U y)).1.filter (fun x => !dl0 x.1 x.2))), tv (.int .i64 last), tv (.bool put)]⟩]) ⟨oe rfl rfl, rfl⟩ trivial ?_
   refine df 15 ?_; refine dz0 ?_; exact ⟨(), trivial, suL h0 [0, 1, 2] _ _ (by decide) rfl ⟨rfl, rfl, rfl, rfl, rfl, trivial⟩ ⟨oe rfl rfl, oe rfl rfl, oet rfl, rfl⟩⟩
  refine old 9 ?_; refine df 10 ?_; refine WO.one (by kernel_rfl) (old 3 ?_)
  refine dcl 14 2 [1] rfl (p_UseM (fr := ((y : Int) - (M.w : Int))) (p := M.room U y) hok (hI.sz_room hOk hy) (by omega) (by omega)) ok127 ⟨oe rfl rfl, rfl⟩ ⟨rfl, rfl, rfl, rfl⟩ (ok := [some ⟨136, 0, [.t (sR 97 ((useL ((y : Int) - (M.w : Int)) (wl M U (M.I y)) (M.room U y)).1.filter (fun x => !dl0 x.1 x.2))), tv (.int .i64 last), tv (.bool put)]⟩]) ⟨oe rfl rfl, rfl⟩ trivial ?_
  refine df 15 ?_; refine dz0 ?_; exact ⟨(), trivial, suL h0 [0, 1, 2] _ _ (by decide) rfl ⟨rfl, rfl, rfl, rfl, rfl, trivial⟩ ⟨oe rfl rfl, oe rfl rfl, oet rfl, rfl⟩⟩
 refine bl ?_; refine WP.sub (fzR (i := 20) (k := 2) (n := (useL ((y : Int) - (M.w : Int)) (wl M U (M.I y)) (M.room U y)).2.1.length) 97 rfl rfl rfl (vflat_len true _) (rd_vo true _) (.one .sl)) ?_
 refine WP.sub (clsP (j := 0) (k := 1) (p := 9) (e := 136) (trs := [sR 97 ((useL ((y : Int) - (M.w : Int)) (wl M U (M.I y)) (M.room U y)).1.filter (fun x => !dl0 x.1 x.2)), .v (.int .i64 (last)), .v (.bool put)]) (l' := flC M N (.t (sRw true false (M.rows U e c (y + 1)))) (.t (sUs true false U)) (.t (ldP ((useL ((y : Int) - (M.w : Int)) (wl M U (M.I y)) (M.room U y)).1.filter (fun x => !dl0 x.1 x.2)) (last) put))) rfl rfl rfl rfl rfl) ?_
 refine lp (γ := Nat) (fun k => frL [(0, .one (.pt 0 0)), (1, .one (tv (.int .i64 ((y : Nat) : Int)))), (20, .one (.t (sV 97 false (useL ((y : Int) - (M.w : Int)) (wl M U (M.I y)) (M.room U y)).2.1))), (21, .one (tv (.int .i64 (((useL ((y : Int) - (M.w : Int)) (wl M U (M.I y)) (M.room U y)).2.1.length : Nat) : Int)))), (22, .one (tv (.int .i64 ((k : Nat) : Int))))]) (fun k => [(⟨92, 0, flC M N (.t (sRw true false (M.rows (((useL ((y : Int) - (M.w : Int)) (wl M U (M.I y)) (M.room U y)).2.1.take k).foldl (fun U x => M.us U x.1 y x.2) U) e c (y + 1)))) (.t (sUs true false (((useL ((y : Int) - (M.w : Int)) (wl M U (M.I y)) (M.room U y)).2.1.take k).foldl (fun U x => M.us U x.1 y x.2) U))) (.t (ldP ((useL ((y : Int) - (M.w : Int)) (wl M U (M.I y)) (M.room U y)).1.filter (fun x => !dl0 x.1 x.2)) last put))⟩ : Ob)].map some) (fun k => k ≤ (useL ((y : Int) - (M.w : Int)) (wl M U (M.I y)) (M.room U y)).2.1.length) (fun k => (useL ((y : Int) - (M.w : Int)) (wl M U (M.I y)) (M.room U y)).2.1.length - k) 0 (Nat.zero_le _) (suL h0 [0] _ _ (by decide) rfl ⟨rfl, rfl, rfl, rfl, rfl, trivial⟩ ⟨oe rfl rfl, rfl⟩) fun k hk => ?_
 have hkl := fold_len (f := fun U (x : Int × Rat) => M.us U x.1 y x.2) ((useL ((y : Int) - (M.w : Int)) (wl M U (M.I y)) (M.room U y)).2.1.take k) U fun _ _ => us_len
 rw [List.length_take] at hkl; refine sq ?_; refine rl ?_; refine o1 ?_; refine nl ?_; refine sq ?_; refine cdp rfl (fun h1 => ?_) (fun h1 => ?_)
 ·refine sk ?_; refine sq ?_; refine bl ?_; refine sq ?_; refine rl ?_; refine o1 ?_
  refine ldf (vtr false (nthV (useL ((y : Int) - (M.w : Int)) (wl M U (M.I y)) (M.room U y)).2.1 (k))) (vin_at false (by omega)) ?_
  refine al 1 ?_; refine st ?_; refine nl ?_; refine rl ?_; refine o1 ?_; refine o1 ?_; refine ld ?_; refine o1 ?_; refine o1 ?_; refine ld ?_
  refine cl 2 [0] (m_useM (M := M) (N := N) (n := y + 1) (y := y) (U := (((useL ((y : Int) - (M.w : Int)) (wl M U (M.I y)) (M.room U y)).2.1.take k).foldl (fun U x => M.us U x.1 y x.2) U)) (e := e) (c := c) (v := (nthV (useL ((y : Int) - (M.w : Int)) (wl M U (M.I y)) (M.room U y)).2.1 k).1) (m := (nthV (useL ((y : Int) - (M.w : Int)) (wl M U (M.I y)) (M.room U y)).2.1 k).2) (L := ldP ((useL ((y : Int) - (M.w : Int)) (wl M U (M.I y)) (M.room U y)).1.filter (fun x => !dl0 x.1 x.2)) last put) hOk (hv2 k) (by omega) (by omega) (hv1 _ (nthV_mem (by omega))).1 (by omega)) ok125 ⟨oe rfl rfl, rfl⟩ ⟨rfl, rfl, rfl, rfl, rfl⟩ (ok := [some ⟨92, 0, flC M N (.t (sRw true false (M.rows (M.us (((useL ((y : Int) - (M.w : Int)) (wl M U (M.I y)) (M.room U y)).2.1.take k).foldl (fun U x => M.us U x.1 y x.2) U) (nthV (useL ((y : Int) - (M.w : Int)) (wl M U (M.I y)) (M.room U y)).2.1 k).1 y (nthV (useL ((y : Int) - (M.w : Int)) (wl M U (M.I y)) (M.room U y)).2.1 k).2) e c (y + 1)))) (.t (sUs true false (M.us (((useL ((y : Int) - (M.w : Int)) (wl M U (M.I y)) (M.room U y)).2.1.take k).foldl (fun U x => M.us U x.1 y x.2) U) (nthV (useL ((y : Int) - (M.w : Int)) (wl M U (M.I y)) (M.room U y)).2.1 k).1 y (nthV (useL ((y : Int) - (M.w : Int)) (wl M U (M.I y)) (M.room U y)).2.1 k).2))) (.t (ldP ((useL ((y : Int) - (M.w : Int)) (wl M U (M.I y)) (M.room U y)).1.filter (fun x => !dl0 x.1 x.2)) last put))⟩]) ⟨oe rfl rfl, rfl⟩ ?_
  refine nl ?_; refine rl ?_; refine o1 ?_; refine WL.cast (t := 33) (u' := .int .i64 ((k + 1 : Nat) : Int)) rfl (cint (by omega)) ?_
  refine o1 ?_; refine nl ?_
  exact ⟨k + 1, by omega, by omega, suL h0 [0] _ _ (by decide) rfl ⟨rfl, rfl, rfl, rfl, rfl, trivial⟩ ⟨oe rfl (congrArg (fun V => some (⟨92, 0, flC M N (.t (sRw true false (M.rows V e c (y + 1)))) (.t (sUs true false V)) (.t (ldP ((useL ((y : Int) - (M.w : Int)) (wl M U (M.I y)) (M.room U y)).1.filter (fun x => !dl0 x.1 x.2)) last put))⟩ : Ob)) (by rw [take_v (by omega), List.foldl_append]; rfl)), rfl⟩⟩
 refine ex ?_
 exact enS0 <| enL (lent' := [flO M N (M.rows (M.fwd U y (y - (y - M.w))) e c (y + 1)) (M.fwd U y (y - (y - M.w))) (ldP (wl M (M.fwd U y (y - (y - M.w))) (M.I y)) last put)]) (.inr rfl) rfl (pk0) (by decide) (fun _ h => by cases h) ⟨⟨rfl, rfl⟩, trivial⟩ ⟨by rw [show (M.fwd U y (y - (y - M.w))) = (((useL ((y : Int) - (M.w : Int)) (wl M U (M.I y)) (M.room U y)).2.1.take k).foldl (fun U x => M.us U x.1 y x.2) U) by rw [List.take_of_length_le (by omega)]; exact hu1, show wl M (((useL ((y : Int) - (M.w : Int)) (wl M U (M.I y)) (M.room U y)).2.1.take k).foldl (fun U x => M.us U x.1 y x.2) U) (M.I y) = ((useL ((y : Int) - (M.w : Int)) (wl M U (M.I y)) (M.room U y)).1.filter (fun x => !dl0 x.1 x.2)) by rw [List.take_of_length_le (by omega), ← hu1]; exact hu2]; rfl, trivial⟩ ⟨rfl, trivial⟩ (fun h => by cases h) ⟨rfl, rfl⟩
theorem m_year0 {M : Mx} {N y : Nat} {U : List Us} {e c : Nat → Rat} {last : Int} {put : Bool} (hOk : M.Ok N) (hI : M.Iv N U) (hy : y < N) (hU : U.length ≤ 1900) (hof : ofV U y = 0) (hof0 : inY U y = 0) (he : e y = 0) (hc : c y = 0) (hlast : put = true → last < (y : Int)) : Spec false Tryz.prog 37 [flO M N (M.rows U e c y) U (ldP (wl M U (M.I y)) last put)] [.one (.pt 0 0), .one (tv (.int .i64 ((y : Nat) : Int)))] (Rt [flO M N (M.rows (M.step U y) (noteE (wl M (M.step U y) (M.J y)) e) c (y + 1)) (M.step U y) (ldP (wl M (M.step U y) (M.I (y + 1))) (if M.inc y < 0 then (y : Int) else last) (if M.inc y < 0 then true else put))] (.tup [])) := by
 refine fnLs Tryz.func37 rfl Tryz.ntmps37 rfl ttok rfl fun N9 M9 w9 c0 h0 => ?_
 have hbs := hOk.b; have hws := hOk.w; have hNs := hOk.n
 have hyl : (yrs M N).length = N := yrs_len M N
 have hrl : (M.rows U e c y).length = y := rows_len
 have hszi : Sz 68719476736 (M.inc y) := (hOk.sz_inc hy).mono (by omega)
 have hszr : Sz 68719476736 (M.ring y) := (hOk.sz_ring hy).mono (by omega)
 have hszn : Sz 68719476736 (-(M.inc y)) := neg_sz hszi
 have hsza : Sz 68719476736 (abv (M.inc y)) := abv_szm hszi (by omega)
 have hIs := hI.step (y := y) hy
 have hlu : M.left U y = M.los y := by unfold Mx.left; rw [hof]; grind
 refine WP.sub (opn (j := 0) (key := 1) (p := 0) (e := 66) (z := 24) (n := (M.rows U e c y).length) (trs := (M.rows U e c y).flatMap (rtr false)) (l' := flC M N (.sl 1 0 (M.rows U e c y).length) (.t (sUs true false U)) (.t (ldP (wl M U (M.I y)) last put))) rfl rfl rfl rfl rfl) ?_
 refine sq ?_; refine rl ?_; (iterate 3 refine o1 ?_); refine ld ?_; (iterate 3 refine o1 ?_)
 refine ldf ((Fr4.of (M.inc (y))).tr false) (flat_sub' (f := ytr) (z := 8) (o := 0) ytr_len (yrs_get (by omega)) (Nat.le_of_ble_eq_true rfl) rfl) ?_
 refine al 2 ?_; refine st ?_; refine nl ?_; refine sq ?_; refine rd [0, 2] (fun i => [41].contains i) mixed ?_
 refine dv 0 ?_; refine dv 1 ?_; refine dv 2 ?_; refine dv 3 ?_; refine dv 4 ?_; refine dld 5 ?_; refine dld 6 ?_; refine dv 9 ?_; refine dv 10 ?_; refine dv 11 ?_; refine dld 12 ?_; refine dv 13 ?_
 refine dv 14 ?_; refine dv 15 ?_; refine dld 16 ?_; refine dv 17 ?_; refine dv 18 ?_
 refine dlr 19 (ytr (Fr4.of (M.inc (y)), Fr4.of (M.ring (y)))) (flat_sub' (f := ytr) (z := 8) (o := 0) ytr_len (yrs_get (by omega)) (Nat.le_of_ble_eq_true rfl) rfl) ?_
 refine dld 22 ?_; refine dv 24 ?_; refine dv 25 ?_; refine dv 26 ?_; refine dld 27 ?_; refine dv 28 ?_; refine dv 29 ?_; refine dv 30 ?_
 refine dlr 31 ((Fr4.of (M.ring (y))).tr false) (flat_sub' (f := ytr) (z := 8) (o := 4) ytr_len (yrs_get (by omega)) (Nat.le_of_ble_eq_true rfl) rfl) ?_
 refine dca 7 rfl (p_Neg (Qn.of (p := (M.inc (y))) (by assumption))) ok72 ⟨a1g rfl, rfl⟩ (qF (.of (-(M.inc (y))))) ?_
 refine dca 8 rfl (m_above (Qn.of (p := (-(M.inc (y)))) (by assumption))) ok83 ⟨a1g rfl, rfl⟩ (qF (.of (abv (-(M.inc (y)))))) ?_
 refine dca 20 rfl (m_limit (c := .of M.cap) (a := .of (M.inc y)) (b := .of (M.ring y)) (q := M.cap) (p := M.inc y) (Qn.of (hOk.cap.mono (M := 68719476736) (by omega))) (Qn.of hszi)) ok82 ⟨a1g rfl, a1g rfl, rfl⟩ (qF (.of (M.cap * abv (M.inc y)))) ?_
 refine dca 21 rfl (m_zero) ok84 rfl (qF (.of ((0 : Int) : Rat))) ?_; refine dca 23 rfl (m_above (Qn.of (p := (M.inc (y))) (by assumption))) ok83 ⟨a1g rfl, rfl⟩ (qF (.of (abv (M.inc (y))))) ?_
 refine dca 32 rfl (p_Sub (Qn.of (p := (abv (M.inc (y)))) (by assumption)) (Qn.of (p := (M.ring (y))) (by assumption))) ok71 ⟨a1g rfl, a1g rfl, rfl⟩ (qF (.of ((abv (M.inc (y))) - (M.ring (y))))) ?_
 refine dca 33 rfl (m_zero) ok84 rfl (qF (.of ((0 : Int) : Rat))) ?_; refine dca 34 rfl (m_zero) ok84 rfl (qF (.of ((0 : Int) : Rat))) ?_; refine df 35 ?_
 refine d_bs (key := 3) 36 (by kernel_rfl) rfl rfl ttok rfl ⟨rfl, rfl, trivial⟩ ?_
 refine d_appK (j := 4) (n := (M.rows U e c y).length) (l := rcl (M.rows U e c y)) 37 rfl ttok rfl rfl rfl (.sl rfl (rcl_len _)) (.sl rfl rfl rfl) rfl rfl (by omega) (by omega) rfl ⟨rfl, rfl, trivial⟩ rfl (by kernel_rfl) rfl ?_
 refine d_v 38 (by kernel_rfl) rfl rfl ttok rfl (by trivial) ?_ (fun h => by first | rfl | cases h)
 refine d_v 39 (by kernel_rfl) rfl rfl ttok rfl (by trivial) ?_ (fun h => by first | rfl | cases h)
 refine df 40 ?_; refine dst 41 ?_; refine dz0 ?_
 refine md (γ := Unit) (fun _ => frL [(0, .one (.pt 0 0)), (1, .one (tv (.int .i64 ((y : Nat) : Int))))]) (fun _ => ([⟨92, 0, flC M N (.t (sRw true false (M.rows (M.step U y) e c (y + 1)))) (.t (sUs true false (M.step U y))) (.t (ldP (wl M (M.step U y) (M.I y ++ [y])) (if M.inc y < 0 then (y : Int) else last) (if M.inc y < 0 then true else put)))⟩] : List Ob).map some) (fun _ => True) ?_ fun _ _ => ?_
 ·refine sq ?_
  refine WP.sub (cls (j := 0) (k := 4) (p := 0) (e := 66) (z := 24) (n := (M.rows U e c y).length + 1) (trs := (M.rows U e c (y + 1)).flatMap (rtr false)) (l' := flC M N (.t (.s true 66 24 ((M.rows U e c y).length + 1) ((M.rows U e c (y + 1)).flatMap (rtr false)))) (.t (sUs true false U)) (.t (ldP (wl M U (M.I y)) last put))) rfl rfl rfl (congrArg (fun l : List AV => some (⟨66, 24, l⟩ : Ob)) ((rcl_snoc (M.rows U e c y) (⟨abv (-(M.inc y)), M.cap * abv (M.inc y), ((0 : Int) : Rat), abv (M.inc y) - M.ring y, ((0 : Int) : Rat), ((0 : Int) : Rat)⟩ : Rw)).trans (congrArg rcl (by rw [row_new hof0 he hc]; exact rows_snoc)))) rfl (take_self _ _ (by rw [rflat_len, rows_len, rows_len])) (by rw [rflat_len, rows_len, rows_len]) rfl) ?_
  refine WP.sub (suL h0 [0, 2] [(0, .one (.pt 0 0)), (1, .one (tv (.int .i64 ((y : Nat) : Int)))), (4, .one (.pt 1 0))] [⟨92, 0, flC M N (.t (sRw true false (M.rows U e c (y + 1)))) (.t (sUs true false U)) (.t (ldP (wl M U (M.I y)) last put))⟩, ⟨26, 0, ((Fr4.of (M.inc y)).tr false).map .t⟩] (by decide) rfl ⟨rfl, rfl, rfl, trivial⟩ ⟨oe rfl (congrArg (fun n => some (⟨92, 0, flC M N (.t (.s true 66 24 n ((M.rows U e c (y + 1)).flatMap (rtr false)))) (.t (sUs true false U)) (.t (ldP (wl M U (M.I y)) last put))⟩ : Ob)) (show (M.rows U e c y).length + 1 = (M.rows U e c (y + 1)).length by rw [rows_len, rows_len])), oe rfl rfl, rfl⟩) ?_
  refine rl ?_; refine ld ?_; refine ca (p_Sign (Qn.of (p := (M.inc y)) (by assumption))) ok80 ⟨a1g rfl, rfl⟩ (.one (tv (.int .i64 (M.inc y).num.sign))) ?_
  refine o1 ?_; refine nl ?_; refine cdp rfl (fun h1 => ?_) (fun h1 => ?_)
  ·refine rl ?_; refine o1 ?_; refine o1 ?_; have hneg : M.inc y < 0 := (sgn_neg _).1 h1
   refine cl 2 [0] (m_back (M := M) (N := N) (U := U) (e := e) (c := c) (vs := (wl M U (M.I y))) (last := last) (put := put) hOk hI hy hU hlu.symm hlast (Nat.le_trans wl_len (Nat.le_trans (I_len hOk.w) (by omega)))) ok85 ⟨oe rfl rfl, rfl⟩ ⟨rfl, rfl, rfl⟩ (ok := [some ⟨92, 0, flC M N (.t (sRw true false (M.rows (M.back U y (y - (y - M.b))) e c (y + 1)))) (.t (sUs true false (M.back U y (y - (y - M.b))))) (.t (ldP ((wl M U (M.I y)) ++ wl M (M.back U y (y - (y - M.b))) [y]) (y : Int) true))⟩]) ⟨oe rfl rfl, rfl⟩ ?_
   refine nl ?_; have e1 : (M.step U y) = (M.back U y (y - (y - M.b))) := if_pos hneg
   have e2 : (wl M U (M.I y)) ++ wl M (M.back U y (y - (y - M.b))) [y] = wl M (M.back U y (y - (y - M.b))) (M.I y ++ [y]) := led_back hneg
   exact ⟨(), trivial, suL h0 [0] _ _ (by decide) rfl ⟨rfl, rfl, trivial⟩ ⟨oe rfl (by rw [e1, if_pos hneg, if_pos hneg, ← e2]; rfl), rfl⟩⟩
  refine rl ?_; refine o1 ?_; refine o1 ?_; have hneg : ¬ M.inc y < 0 := fun h9 => h1 ((sgn_neg _).2 h9)
  refine cl 2 [0] (m_forward (M := M) (N := N) (U := U) (e := e) (c := c) (last := last) (put := put) hOk hI hy hU) ok86 ⟨oe rfl rfl, rfl⟩ ⟨rfl, rfl, rfl⟩ (ok := [some ⟨92, 0, flC M N (.t (sRw true false (M.rows (M.fwd U y (y - (y - M.w))) e c (y + 1)))) (.t (sUs true false (M.fwd U y (y - (y - M.w))))) (.t (ldP (wl M (M.fwd U y (y - (y - M.w))) (M.I y)) last put))⟩]) ⟨oe rfl rfl, rfl⟩ ?_
  refine nl ?_; have e1 : (M.step U y) = (M.fwd U y (y - (y - M.w))) := if_neg hneg
  have e2 : wl M (M.fwd U y (y - (y - M.w))) (M.I y) = wl M (M.fwd U y (y - (y - M.w))) (M.I y ++ [y]) := led_fwd hneg hlu (Nat.le_refl _)
  exact ⟨(), trivial, suL h0 [0] _ _ (by decide) rfl ⟨rfl, rfl, trivial⟩ ⟨oe rfl (by rw [e1, if_neg hneg, if_neg hneg, ← e2]; rfl), rfl⟩⟩
 refine sq ?_
 refine WP.sub (opnP (j := 0) (key := 1) (p := 9) (e := 136) (trs := [sR 97 (wl M (M.step U y) (M.I y ++ [y])), .v (.int .i64 ((if M.inc y < 0 then (y : Int) else last))), .v (.bool (if M.inc y < 0 then true else put))]) (l' := flC M N (.t (sRw true false (M.rows (M.step U y) e c (y + 1)))) (.t (sUs true false (M.step U y))) (.pt 1 0)) rfl rfl rfl rfl) ?_
 have hzJ : ∀ x ∈ (wl M (M.step U y) (M.I y ++ [y])), Sz 68719476736 x.2 := fun x hx => by obtain ⟨i, hi, rfl, _⟩ := wl_mem hx; refine (hIs.sz_left hOk ?_).mono (by omega); rcases List.mem_append.1 hi with h9 | h9; (have := I_mem.1 h9; omega); (rw [List.mem_singleton] at h9; omega)
 have hlV : (wl M (M.step U y) (M.I y ++ [y])).length ≤ 1073741823 := by have h9 := wl_len (M := M) (U := (M.step U y)) (I := M.I y ++ [y]); have h8 := I_len (k := y) hOk.w; rw [List.length_append, List.length_singleton] at h9; omega
 have hEl : (wl M (M.step U y) (M.J y)).length ≤ 1073741823 := by have h9 := wl_len (M := M) (U := (M.step U y)) (I := M.J y); have h8 := I_len (k := y) hOk.w; have h7 : (M.J y).length ≤ (M.I y ++ [y]).length := List.length_filter_le _ _; rw [List.length_append, List.length_singleton] at h7; omega
 have hexp := p_Expire (vs := (wl M (M.step U y) (M.I y ++ [y]))) (last := (if M.inc y < 0 then (y : Int) else last)) (put := (if M.inc y < 0 then true else put)) (b := ((y : Int) - (M.w : Int) + 1)) hlV hzJ
 rw [keep1, keep2] at hexp; refine rd [0] (fun i => [].contains i) mixed ?_
 refine dv 0 ?_; refine dv 1 ?_; refine dv 2 ?_; refine dld 3 ?_; refine dv 4 ?_; refine dv 5 ?_; refine dv 6 ?_; refine dv 7 ?_; refine dv 8 ?_; refine dld 9 ?_; refine dv 10 ?_; refine dv 11 ?_
 refine dv 14 ?_
 refine dcl 12 2 [1] rfl hexp ok87 ⟨oe rfl rfl, rfl⟩ ⟨rfl, rfl, rfl⟩ (ok := [some ⟨136, 0, [.t (sR 97 (wl M (M.step U y) (M.I (y + 1)))), tv (.int .i64 (if M.inc y < 0 then (y : Int) else last)), tv (.bool (if M.inc y < 0 then true else put))]⟩]) ⟨oe rfl rfl, rfl⟩ ⟨rfl, trivial⟩ ?_
 refine df 13 ?_; refine dz0 ?_; refine bl ?_; refine WP.sub (fzR (i := 77) (k := 2) (n := (wl M (M.step U y) (M.J y)).length) 97 rfl rfl rfl (vflat_len true _) (rd_vo true _) (.one .sl)) ?_
 refine WP.sub (clsP (j := 0) (k := 1) (p := 9) (e := 136) (trs := [sR 97 (wl M (M.step U y) (M.I (y + 1))), .v (.int .i64 ((if M.inc y < 0 then (y : Int) else last))), .v (.bool (if M.inc y < 0 then true else put))]) (l' := flC M N (.t (sRw true false (M.rows (M.step U y) e c (y + 1)))) (.t (sUs true false (M.step U y))) (.t (ldP (wl M (M.step U y) (M.I (y + 1))) ((if M.inc y < 0 then (y : Int) else last)) (if M.inc y < 0 then true else put)))) rfl rfl rfl rfl rfl) ?_
 refine WP.sub (opn (j := 0) (key := 3) (p := 0) (e := 66) (z := 24) (n := (M.rows (M.step U y) e c (y + 1)).length) (trs := (M.rows (M.step U y) e c (y + 1)).flatMap (rtr false)) (l' := flC M N (.sl 3 0 (M.rows (M.step U y) e c (y + 1)).length) (.t (sUs true false (M.step U y))) (.t (ldP (wl M (M.step U y) (M.I (y + 1))) (if M.inc y < 0 then (y : Int) else last) (if M.inc y < 0 then true else put)))) rfl rfl rfl rfl rfl) ?_
 refine lp (γ := Nat) (fun k => frL [(0, .one (.pt 0 0)), (1, .one (tv (.int .i64 ((y : Nat) : Int)))), (77, .one (.t (sV 97 false (wl M (M.step U y) (M.J y))))), (78, .one (tv (.int .i64 (((wl M (M.step U y) (M.J y)).length : Nat) : Int)))), (79, .one (tv (.int .i64 ((k : Nat) : Int))))]) (fun k => [(⟨92, 0, flC M N (.sl 1 0 (y + 1)) (.t (sUs true false (M.step U y))) (.t (ldP (wl M (M.step U y) (M.I (y + 1))) (if M.inc y < 0 then (y : Int) else last) (if M.inc y < 0 then true else put)))⟩ : Ob), ⟨66, 24, rcl (M.rows (M.step U y) (noteE ((wl M (M.step U y) (M.J y)).take k) e) c (y + 1))⟩].map some) (fun k => k ≤ (wl M (M.step U y) (M.J y)).length) (fun k => (wl M (M.step U y) (M.J y)).length - k) 0 (Nat.zero_le _) (suL h0 [0, 3] _ _ (by decide) rfl ⟨rfl, rfl, rfl, rfl, rfl, trivial⟩ ⟨oe rfl (congrArg (fun n => some (⟨92, 0, flC M N (.sl 3 0 n) (.t (sUs true false (M.step U y))) (.t (ldP (wl M (M.step U y) (M.I (y + 1))) (if M.inc y < 0 then (y : Int) else last) (if M.inc y < 0 then true else put)))⟩ : Ob)) rows_len), oet rfl, rfl⟩) fun k hk => ?_
 refine sq ?_; refine rl ?_; refine o1 ?_; refine nl ?_; refine sq ?_; refine cdp rfl (fun h2 => ?_) (fun h2 => ?_)
 ·refine sk ?_; refine sq ?_; refine bl ?_; refine sq ?_; obtain ⟨i, hi, hx, hpos⟩ := wl_mem (nthV_mem (vs := (wl M (M.step U y) (M.J y))) (k := k) (by omega))
  have hiJ := J_mem.1 hi
  have hx1 : (nthV (wl M (M.step U y) (M.J y)) k).1 = (i : Int) := by rw [hx]
  have hrk : (M.rows (M.step U y) (noteE ((wl M (M.step U y) (M.J y)).take k) e) c (y + 1)).length = y + 1 := rows_len
  have hst : (M.rows (M.step U y) (noteE ((wl M (M.step U y) (M.J y)).take k) e) c (y + 1)).set i (⟨M.los i, M.lim i, inY (M.step U y) i, M.tax (M.step U y) i, (nthV (wl M (M.step U y) (M.J y)) k).2, c i⟩ : Rw) = (M.rows (M.step U y) (noteE ((wl M (M.step U y) (M.J y)).take (k + 1)) e) c (y + 1)) := rows_exp (by omega) (fun j hj hne => by rw [take_v (by omega), note_snoc (nodup_take (wl_fst J_nodup) (by omega)), if_neg (by rw [hx1]; omega)]) (by rw [take_v (by omega), note_snoc (nodup_take (wl_fst J_nodup) (by omega)), if_pos hx1])
  refine rl ?_; refine o1 ?_; refine ldf (vtr false (nthV (wl M (M.step U y) (M.J y)) (k))) (vin_at false (by omega)) ?_
  refine al 2 ?_; refine st ?_; refine nl ?_; refine rd [0, 2] (fun i => [].contains i) mixed ?_
  refine dv 0 ?_; refine dv 1 ?_; refine dv 2 ?_; refine dv 3 ?_; refine dld 4 ?_; refine dv 5 ?_; refine dld 6 ?_; refine WD.cast (t := 89) (u' := .int .i64 ((i : Nat) : Int)) rfl (cint hx1) ?_
  refine dv 7 ?_; refine dld 8 ?_; refine dv 9 ?_; refine dv 10 ?_
  refine dston 11 (flat_putM (xs := (M.rows (M.step U y) (noteE ((wl M (M.step U y) (M.J y)).take k) e) c (y + 1))) (k := i) (x := (⟨(M.los i), (M.lim i), (inY (M.step U y) i), (M.tax (M.step U y) i), ((noteE ((wl M (M.step U y) (M.J y)).take k) e) i), (c i)⟩ : Rw)) (f := (rtr false)) (z := 24) (o := 16) (x' := (⟨(M.los i), (M.lim i), (inY (M.step U y) i), (M.tax (M.step U y) i), (nthV (wl M (M.step U y) (M.J y)) (k)).2, (c i)⟩ : Rw)) (us := (Fr4.of (nthV (wl M (M.step U y) (M.J y)) (k)).2).tr false) (rtr_len false) (rows_get (by omega)) (Nat.le_of_ble_eq_true rfl) rfl) (flat_le (xs := (M.rows (M.step U y) (noteE ((wl M (M.step U y) (M.J y)).take k) e) c (y + 1))) (k := i) (f := (rtr false)) (z := 24) (o := 16) (us := (Fr4.of (nthV (wl M (M.step U y) (M.J y)) (k)).2).tr false) (rtr_len false) (by omega) (Nat.le_of_ble_eq_true rfl)) ?_
  refine dz0 ?_; refine rl ?_; refine o1 ?_; refine WL.cast (t := 94) (u' := .int .i64 ((k + 1 : Nat) : Int)) rfl (cint (by omega)) ?_
  refine o1 ?_; refine nl ?_
  exact ⟨k + 1, by omega, by omega, suL h0 [0, 1] _ _ (by decide) rfl ⟨rfl, rfl, rfl, rfl, rfl, trivial⟩ ⟨oe rfl rfl, oet (congrArg (fun l : List Rw => some (⟨66, 24, (l.flatMap (rtr false)).map .t⟩ : Ob)) hst), rfl⟩⟩
 refine ex ?_
 refine enS (cls (j := 0) (k := 1) (p := 0) (e := 66) (z := 24) (n := (y + 1)) (trs := (M.rows (M.step U y) (noteE ((wl M (M.step U y) (M.J y)).take k) e) c (y + 1)).flatMap (rtr false)) (l' := flC M N (.t (.s true 66 24 ((y + 1)) ((M.rows (M.step U y) (noteE ((wl M (M.step U y) (M.J y)).take k) e) c (y + 1)).flatMap (rtr false)))) (.t (sUs true false (M.step U y))) (.t (ldP (wl M (M.step U y) (M.I (y + 1))) (if M.inc y < 0 then (y : Int) else last) (if M.inc y < 0 then true else put)))) rfl rfl rfl (rfl) rfl (take_self _ _ (by rw [rflat_len, rows_len])) (by rw [rflat_len, rows_len]) rfl) ?_
 exact enS0 <| enL (lent' := [flO M N (M.rows (M.step U y) (noteE (wl M (M.step U y) (M.J y)) e) c (y + 1)) (M.step U y) (ldP (wl M (M.step U y) (M.I (y + 1))) (if M.inc y < 0 then (y : Int) else last) (if M.inc y < 0 then true else put))]) (.inr rfl) rfl (pk0) (by decide) (fun _ h => by cases h) ⟨⟨rfl, rfl⟩, trivial⟩ ⟨by rw [show noteE (wl M (M.step U y) (M.J y)) e = (noteE ((wl M (M.step U y) (M.J y)).take k) e) by rw [List.take_of_length_le (by omega)]]; exact congrArg (fun n => some (⟨92, 0, flC M N (.t (.s true 66 24 n ((M.rows (M.step U y) (noteE ((wl M (M.step U y) (M.J y)).take k) e) c (y + 1)).flatMap (rtr false)))) (.t (sUs true false (M.step U y))) (.t (ldP (wl M (M.step U y) (M.I (y + 1))) (if M.inc y < 0 then (y : Int) else last) (if M.inc y < 0 then true else put)))⟩ : Ob)) (show y + 1 = (M.rows (M.step U y) (noteE ((wl M (M.step U y) (M.J y)).take k) e) c (y + 1)).length from rows_len.symm), trivial⟩ ⟨rfl, trivial⟩ (fun h => by cases h) ⟨rfl, rfl⟩
section
variable {α : Type} {f : Nat → α → List Tr} {q : Nat → α → Rat} {off : Nat → Nat} {z K i k : Nat} {xs : List α}
def allL (f : Nat → α → List Tr) (K : Nat) (xs : List α) (i : Nat) : List Tr := (xs.take i).flatMap (f K) ++ (xs.drop i).flatMap (f 0)
structure FrL (f : Nat → α → List Tr) (q : Nat → α → Rat) (off : Nat → Nat) (z K : Nat) : Prop where
 len : ∀ k x, (f k x).length = z
 rd : ∀ k x, k < K → ((f k x).drop (off k)).take 4 = (Fr4.of (q k x)).tr false
 wr : ∀ k x, k < K → putA (f k x) (off k) ((Fr4.of (q k x)).tr true) = f (k + 1) x
 le : ∀ k, k < K → off k + 4 ≤ z
theorem take_flat_len (h : FrL f q off z K) (hi : i ≤ xs.length) (m : Nat) : ((xs.take i).flatMap (f m)).length = i * z := by
 rw [flat_len (h.len m), List.length_take, Nat.min_eq_left hi]
theorem all_zero : allL f K xs 0 = xs.flatMap (f 0) := by simp [allL]
theorem all_end (h : xs.length ≤ i) : allL f K xs i = xs.flatMap (f K) := by simp [allL, List.take_of_length_le h, List.drop_of_length_le h]
variable [Inhabited α]
def mixL (f : Nat → α → List Tr) (K : Nat) (xs : List α) (i k : Nat) : List Tr := (xs.take i).flatMap (f K) ++ (f k (xs.getD i default) ++ (xs.drop (i + 1)).flatMap (f 0))
theorem mix_len (h : FrL f q off z K) (hi : i < xs.length) : (mixL f K xs i k).length = xs.length * z := by
 unfold mixL
 rw [List.length_append, List.length_append, take_flat_len h (by omega), h.len, flat_len (h.len 0), List.length_drop]
 have : xs.length = i + 1 + (xs.length - (i + 1)) := by omega
 conv => rhs; rw [this]
 rw [Nat.add_mul, Nat.add_mul]
 omega
theorem mix_rd (h : FrL f q off z K) (hi : i < xs.length) (hk : k < K) : ((mixL f K xs i k).drop (0 + i * z + off k)).take 4 = (Fr4.of (q k (xs.getD i default))).tr false := by
 have hA := take_flat_len (f := f) (m := K) h (i := i) (xs := xs) (by omega)
 have hl := h.len k (xs.getD i default)
 have hle := h.le k hk
 unfold mixL
 rw [List.drop_append, hA, List.drop_of_length_le (by omega), List.nil_append, show 0 + i * z + off k - i * z = off k by omega, List.drop_append_of_le_length (by omega), List.take_append_of_le_length (by rw [List.length_drop]; omega)]
 exact h.rd k _ hk
theorem mix_wr (h : FrL f q off z K) (hi : i < xs.length) (hk : k < K) : putA (mixL f K xs i k) (0 + i * z + off k) ((Fr4.of (q k (xs.getD i default))).tr true) = mixL f K xs i (k + 1) := by
 have hA := take_flat_len (f := f) (m := K) h (i := i) (xs := xs) (by omega)
 have hl := h.len k (xs.getD i default)
 have hle := h.le k hk
 have hw := h.wr k (xs.getD i default) hk
 unfold mixL
 rw [← hw]
 generalize (xs.take i).flatMap (f K) = A at *
 generalize (xs.drop (i + 1)).flatMap (f 0) = C at *
 generalize f k (xs.getD i default) = X at *
 have h4 : ((Fr4.of (q k (xs.getD i default))).tr true).length = 4 := rfl
 generalize (Fr4.of (q k (xs.getD i default))).tr true = us at *
 unfold putA
 rw [List.take_append, List.drop_append, hA, List.take_of_length_le (l := A) (by omega), List.drop_of_length_le (l := A) (by omega), show 0 + i * z + off k - i * z = off k by omega, show 0 + i * z + off k + us.length - i * z = off k + us.length by omega, List.take_append, List.drop_append, show off k - X.length = 0 by omega, show off k + us.length - X.length = 0 by omega]
 simp
theorem all_mix (hi : i < xs.length) : allL f K xs i = mixL f K xs i 0 := by
 unfold allL mixL
 rw [List.drop_eq_getElem_cons hi, List.flatMap_cons]
 simp [hi]
theorem mix_all (hi : i < xs.length) : mixL f K xs i K = allL f K xs (i + 1) := by
 unfold allL mixL
 rw [← List.append_assoc]
 congr 1
 rw [← List.take_append_getElem hi, List.flatMap_append]
 simp [hi]
end
instance : Inhabited Rw := ⟨nilR⟩
instance : Inhabited Us := ⟨nilU⟩
def rtrK (k : Nat) (r : Rw) : List Tr := (Fr4.of r.l).tr (Nat.blt 0 k) ++ ((Fr4.of r.m).tr (Nat.blt 1 k) ++ ((Fr4.of r.u).tr (Nat.blt 2 k) ++ ((Fr4.of r.t).tr (Nat.blt 3 k) ++ ((Fr4.of r.e).tr (Nat.blt 4 k) ++ (Fr4.of r.c).tr (Nat.blt 5 k)))))
def rq : Nat → Rw → Rat
 | 0, r => r.l | 1, r => r.m | 2, r => r.u | 3, r => r.t | 4, r => r.e | _, r => r.c
def utrK (k : Nat) (u : Us) : List Tr := .v (.int .i64 u.v) :: .v (.int .i64 u.y) :: ((Fr4.of u.n).tr (Nat.blt 0 k) ++ ((Fr4.of u.p).tr (Nat.blt 1 k) ++ (Fr4.of u.q).tr (Nat.blt 2 k)))
def uq : Nat → Us → Rat
 | 0, u => u.n | 1, u => u.p | _, u => u.q
theorem frR : FrL rtrK rq (fun k => 4 * k) 24 6 := ⟨fun _ _ => rfl, fun k x h => by match k, h with | 0, _ => rfl | 1, _ => rfl | 2, _ => rfl | 3, _ => rfl | 4, _ => rfl | 5, _ => rfl, fun k x h => by match k, h with | 0, _ => rfl | 1, _ => rfl | 2, _ => rfl | 3, _ => rfl | 4, _ => rfl | 5, _ => rfl, fun k h => by omega⟩
theorem frU : FrL utrK uq (fun k => 2 + 4 * k) 14 3 := ⟨fun _ _ => rfl, fun k x h => by match k, h with | 0, _ => rfl | 1, _ => rfl | 2, _ => rfl, fun k x h => by match k, h with | 0, _ => rfl | 1, _ => rfl | 2, _ => rfl, fun k h => by omega⟩
theorem arR {i k : Nat} (hk : k < 6) : [AV.pt 0 (0 + i * 24), .pt 0 (0 + i * 24 + 4), .pt 0 (0 + i * 24 + 8), .pt 0 (0 + i * 24 + 12), .pt 0 (0 + i * 24 + 16), .pt 0 (0 + i * 24 + 20)][k]? = some (.pt 0 (0 + i * 24 + 4 * k)) := by
 match k, hk with | 0, _ => rfl | 1, _ => rfl | 2, _ => rfl | 3, _ => rfl | 4, _ => rfl | 5, _ => rfl
theorem arU {i k : Nat} (hk : k < 3) : [AV.pt 1 (0 + i * 14 + 2), .pt 1 (0 + i * 14 + 6), .pt 1 (0 + i * 14 + 10)][k]? = some (.pt 1 (0 + i * 14 + (2 + 4 * k))) := by
 match k, hk with | 0, _ => rfl | 1, _ => rfl | 2, _ => rfl
theorem putA_get {α : Type} {l us : List α} {o j : Nat} (hj : j < us.length) (ho : o + us.length ≤ l.length) : (putA l o us)[o + j]? = us[j]? := by
 unfold putA
 have h1 : (l.take o).length = o := by rw [List.length_take]; omega
 rw [List.append_assoc, List.getElem?_append_right (by omega), h1, show o + j - o = j by omega, List.getElem?_append_left hj]
theorem putA_set {α : Type} {l us : List α} {o j : Nat} {a : α} (hj : j < us.length) (ho : o + us.length ≤ l.length) : (putA l o us).set (o + j) a = putA l o (us.set j a) := by
 unfold putA
 have h1 : (l.take o).length = o := by rw [List.length_take]; omega
 rw [List.append_assoc, List.set_append_right _ _ (by omega), h1, show o + j - o = j by omega, List.set_append_left _ _ hj, List.length_set, List.append_assoc]
theorem tyar142 : TyAr Tryz.prog 142 6 := ⟨139, by kernel_rfl, .mk (by kernel_rfl) (by kernel_rfl)⟩
theorem tyar144 : TyAr Tryz.prog 144 3 := ⟨139, by kernel_rfl, .mk (by kernel_rfl) (by kernel_rfl)⟩
theorem m_own1 {t z o : Nat} {tl : List Tr} {q : Rat} (hs : Sz 68719476736 q) (hx : (tl.drop o).take 4 = (Fr4.of q).tr false) (hle : o + 4 ≤ tl.length) : Spec false Tryz.prog 89 [⟨t, z, tl.map .t⟩] [.one (.pt 0 o)] (Rt [⟨t, z, (putA tl o ((Fr4.of q).tr true)).map .t⟩] (.tup [])) := by
 refine fnLs Tryz.func89 rfl Tryz.ntmps89 rfl ttok rfl fun N9 M9 w9 c0 h0 => ?_
 have hx9 : ((tl.map AV.t).drop o).take (((Fr4.of q).tr false).map AV.t).length = ((Fr4.of q).tr false).map .t := by rw [← List.map_drop, ← List.map_take, List.length_map]; exact congrArg (List.map AV.t) hx
 have hle9 : o + ([tv (.bool (sgz q.num)), .sl 1 0 (dg 4294967296 q.num.natAbs).length, tv (.bool false), .sl 2 0 (dg 4294967296 q.den).length] : List AV).length ≤ (tl.map AV.t).length := by rw [List.length_map]; exact hle
 refine rd [0] (fun i => [6, 7].contains i) mixed ?_
 refine dv 0 ?_; refine dv 1 ?_; refine dv 2 ?_; refine dlda 3 (us := ((Fr4.of q).tr false).map .t) hx9 ?_; refine dca 4 rfl (m_zero) ok84 rfl (qF (.of ((0 : Int) : Rat))) ?_
 refine dck 1 5 rfl (p_Add0 (Qn.of (p := q) hs)) ok70 ⟨a1g rfl, a1g rfl, rfl⟩ ?_; refine d_v 6 (by kernel_rfl) rfl rfl ttok rfl (by trivial) ?_ (fun h => by first | rfl | cases h)
 refine dsto 7 (us := [tv (.bool (sgz q.num)), .sl 1 0 (dg 4294967296 q.num.natAbs).length, tv (.bool false), .sl 2 0 (dg 4294967296 q.den).length]) (l := tl.map .t) rfl hle9 ?_; refine dz0 ?_
 refine enS (cls (j := 0) (k := 1) (p := o + 1) (e := 109) (z := 1) (n := (dg 4294967296 q.num.natAbs).length) (trs := u32T (dg 4294967296 q.num.natAbs)) (l' := putA (tl.map AV.t) o [tv (.bool (sgz q.num)), .t (sU true (dg 4294967296 q.num.natAbs)), tv (.bool false), .sl 2 0 (dg 4294967296 q.den).length]) rfl rfl rfl rfl ((putA_get (j := 1) (us := [tv (.bool (sgz q.num)), .sl 1 0 (dg 4294967296 q.num.natAbs).length, tv (.bool false), .sl 2 0 (dg 4294967296 q.den).length]) (Nat.le_of_ble_eq_true rfl) hle9).trans rfl) (tk_u32 _) (ln_u32 _) (putA_set (j := 1) (us := [tv (.bool (sgz q.num)), .sl 1 0 (dg 4294967296 q.num.natAbs).length, tv (.bool false), .sl 2 0 (dg 4294967296 q.den).length]) (Nat.le_of_ble_eq_true rfl) hle9)) ?_
 refine enS (cls (j := 0) (k := 2) (p := o + 3) (e := 109) (z := 1) (n := (dg 4294967296 q.den).length) (trs := u32T (dg 4294967296 q.den)) (l' := putA (tl.map AV.t) o [tv (.bool (sgz q.num)), .t (sU true (dg 4294967296 q.num.natAbs)), tv (.bool false), .t (sU true (dg 4294967296 q.den))]) rfl rfl rfl rfl ((putA_get (j := 3) (us := [tv (.bool (sgz q.num)), .t (sU true (dg 4294967296 q.num.natAbs)), tv (.bool false), .sl 2 0 (dg 4294967296 q.den).length]) (Nat.le_of_ble_eq_true rfl) hle9).trans rfl) (tk_u32 _) (ln_u32 _) (putA_set (j := 3) (us := [tv (.bool (sgz q.num)), .t (sU true (dg 4294967296 q.num.natAbs)), tv (.bool false), .sl 2 0 (dg 4294967296 q.den).length]) (Nat.le_of_ble_eq_true rfl) hle9)) ?_
 exact enS0 <| enL (lent' := [⟨t, z, (putA tl o ((Fr4.of q).tr true)).map .t⟩]) (.inr rfl) rfl (pk0) (by decide) (fun _ h => by cases h) ⟨⟨rfl, rfl⟩, trivial⟩ ⟨congrArg (fun l => some (⟨t, z, l⟩ : Ob)) (putA_map AV.t tl o ((Fr4.of q).tr true)).symm, trivial⟩ ⟨refC_t _, trivial⟩ (fun h => by cases h) ⟨rfl, rfl⟩
theorem m_own {rs : List Rw} {us : List Us} (hrs : ∀ i, i < rs.length → ∀ k, Sz 68719476736 (rq k (rs.getD i default))) (hus : ∀ i, i < us.length → ∀ k, Sz 68719476736 (uq k (us.getD i default))) (hl : rs.length ≤ 1073741823) (hlu : us.length ≤ 1073741823) : Spec false Tryz.prog 39 [⟨66, 24, (rs.flatMap (rtr false)).map .t⟩, ⟨46, 14, (us.flatMap (utr false)).map .t⟩] [.agg [.sl 0 0 rs.length, .sl 1 0 us.length]] (Rt [⟨66, 24, (rs.flatMap (rtr true)).map .t⟩, ⟨46, 14, (us.flatMap (utr true)).map .t⟩] (.agg [.sl 0 0 rs.length, .sl 1 0 us.length])) := by
 refine fnLs Tryz.func39 rfl Tryz.ntmps39 rfl ttok rfl fun N9 M9 w9 c0 h0 => ?_
 refine sq ?_; refine rl ?_; refine bx 2 ?_; refine al 3 ?_; refine nl ?_; refine sq ?_; refine rl ?_; refine o1 ?_; refine nl ?_; refine sq ?_; refine sq ?_; refine rl ?_; refine o1 ?_; refine ld ?_
 refine o1 ?_; refine o1 ?_; refine nl ?_; refine bl ?_
 refine lp (γ := Nat) (fun i => frL [(1, .one (.pt 2 0)), (2, .one (.pt 3 0)), (3, .one (.t (.f 89 [] []))), (14, .one (tv (.int .i64 ((rs.length : Nat) : Int)))), (15, .one (tv (.int .i64 ((i : Nat) : Int))))]) (fun i => [(⟨66, 24, (allL rtrK 6 rs i).map .t⟩ : Ob), ⟨46, 14, (us.flatMap (utr false)).map .t⟩, ⟨35, 0, [.sl 0 0 rs.length, .sl 1 0 us.length]⟩, ⟨35, 0, [tv (.slice none 0 0), tv (.slice none 0 0)]⟩].map some) (fun i => i ≤ rs.length) (fun i => rs.length - i) 0 (Nat.zero_le _) (suL h0 [0, 1, 2, 3] _ _ (by decide) rfl ⟨rfl, rfl, rfl, rfl, rfl, trivial⟩ ⟨oet (congrArg (fun l : List Tr => some (⟨66, 24, l.map .t⟩ : Ob)) (all_zero (f := rtrK) (K := 6) (xs := rs)).symm), oet rfl, oe rfl rfl, oe rfl rfl, rfl⟩) fun i hi => ?_
 refine sq ?_; refine rl ?_; refine o1 ?_; refine nl ?_; refine sq ?_; refine cdp rfl (fun h1 => ?_) (fun h1 => ?_)
 ·refine sk ?_; refine sq ?_; refine bl ?_; refine sq ?_; refine rl ?_; refine o1 ?_; refine o1 ?_; refine nl ?_; refine sq ?_; refine rl ?_; refine o1 ?_; refine ld ?_; (iterate 3 refine o1 ?_)
  refine nl ?_; refine sq ?_; refine rd [2, 3] (fun i => [].contains i) mixed ?_
  refine dv 0 ?_; refine dv 1 ?_; refine dv 2 ?_; refine dv 3 ?_; refine dv 4 ?_; refine dv 5 ?_; refine dv 6 ?_; refine dv 7 ?_; refine dv 8 ?_; refine dv 9 ?_; refine dv 10 ?_; refine dv 11 ?_
  refine dv 12 ?_; refine dv 13 ?_; refine dv 14 ?_; refine dv 15 ?_; refine dv 16 ?_; refine dv 17 ?_; refine dv 19 ?_; refine dbA 18 tyar142 rfl rfl ?_; refine dz0 ?_; refine bl ?_
  refine lp (γ := Nat) (fun k => frL [(1, .one (.pt 2 0)), (2, .one (.pt 3 0)), (3, .one (.t (.f 89 [] []))), (14, .one (tv (.int .i64 ((rs.length : Nat) : Int)))), (15, .one (tv (.int .i64 ((i : Nat) : Int)))), (40, .agg [.pt 0 (0 + i * 24), .pt 0 (0 + i * 24 + 4), .pt 0 (0 + i * 24 + 8), .pt 0 (0 + i * 24 + 12), .pt 0 (0 + i * 24 + 16), .pt 0 (0 + i * 24 + 20)]), (41, .one (tv (.int .i64 ((k : Nat) : Int))))]) (fun k => [(⟨66, 24, (mixL rtrK 6 rs i k).map .t⟩ : Ob), ⟨46, 14, (us.flatMap (utr false)).map .t⟩, ⟨35, 0, [.sl 0 0 rs.length, .sl 1 0 us.length]⟩, ⟨35, 0, [tv (.slice none 0 0), tv (.slice none 0 0)]⟩].map some) (fun k => k ≤ 6) (fun k => 6 - k) 0 (Nat.zero_le _) (suL h0 [0, 1, 2, 3] _ _ (by decide) rfl ⟨rfl, rfl, rfl, rfl, rfl, rfl, rfl, trivial⟩ ⟨oet (congrArg (fun l : List Tr => some (⟨66, 24, l.map .t⟩ : Ob)) (all_mix (f := rtrK) (K := 6) (xs := rs) (i := i) (by omega))), oet rfl, oe rfl rfl, oe rfl rfl, rfl⟩) fun k hk => ?_
  refine sq ?_; refine rl ?_; refine o1 ?_; refine nl ?_; refine sq ?_; refine cdp rfl (fun h2 => ?_) (fun h2 => ?_)
  ·refine sk ?_; refine sq ?_; refine bl ?_; refine sq ?_; refine rl ?_; have hk9 : k < 6 := by omega
   refine ixA tyar142 hk9 (arR (i := i) hk9) ?_; refine o1 ?_; refine nl ?_; refine rl ?_; refine o1 ?_; refine o1 ?_
   refine clc 4 [0] [.one (.pt 0 (0 + i * 24 + 4 * k))] rfl (m_own1 (t := 66) (z := 24) (o := 0 + i * 24 + 4 * k) (tl := (mixL rtrK 6 rs i k)) (q := rq k (rs.getD i default)) (hrs _ (by omega) _) (mix_rd frR (by omega) hk9) (by rw [mix_len frR (by omega)]; have h8 := Nat.mul_le_mul_right 24 (show i + 1 ≤ rs.length by omega); omega)) ok89 ⟨oet rfl, rfl⟩ ⟨rfl, rfl⟩ (ok := [some ⟨66, 24, (putA (mixL rtrK 6 rs i k) (0 + i * 24 + 4 * k) ((Fr4.of (rq k (rs.getD i default))).tr true)).map .t⟩]) ⟨oet rfl, rfl⟩ ?_
   refine nl ?_; refine rl ?_; refine o1 ?_; refine WL.cast (t := 47) (u' := .int .i64 ((k + 1 : Nat) : Int)) rfl (cint (by omega)) ?_
   refine o1 ?_; refine nl ?_
   exact ⟨k + 1, by omega, by omega, suL h0 [0, 1, 2, 3] _ _ (by decide) rfl ⟨rfl, rfl, rfl, rfl, rfl, rfl, rfl, trivial⟩ ⟨oet (congrArg (fun l : List Tr => some (⟨66, 24, l.map .t⟩ : Ob)) (mix_wr frR (by omega) hk9)), oet rfl, oe rfl rfl, oe rfl rfl, rfl⟩⟩
  refine ex ?_; refine rl ?_; refine o1 ?_; refine WL.cast (t := 48) (u' := .int .i64 ((i + 1 : Nat) : Int)) rfl (cint (by omega)) ?_
  refine o1 ?_; refine nl ?_
  exact ⟨i + 1, by omega, by omega, suL h0 [0, 1, 2, 3] _ _ (by decide) rfl ⟨rfl, rfl, rfl, rfl, rfl, trivial⟩ ⟨oet (congrArg (fun l : List Tr => some (⟨66, 24, l.map .t⟩ : Ob)) (show (mixL rtrK 6 rs i k) = (allL rtrK 6 rs (i + 1)) by rw [show k = 6 by omega]; exact mix_all (by omega))), oet rfl, oe rfl rfl, oe rfl rfl, rfl⟩⟩
 refine ex ?_; refine sq ?_; refine sq ?_; refine rl ?_; refine o1 ?_; refine ld ?_; refine o1 ?_; refine o1 ?_; refine nl ?_; refine bl ?_
 refine lp (γ := Nat) (fun i => frL [(1, .one (.pt 2 0)), (2, .one (.pt 3 0)), (3, .one (.t (.f 89 [] []))), (51, .one (tv (.int .i64 ((us.length : Nat) : Int)))), (52, .one (tv (.int .i64 ((i : Nat) : Int))))]) (fun i => [(⟨66, 24, (rs.flatMap (rtr true)).map .t⟩ : Ob), ⟨46, 14, (allL utrK 3 us i).map .t⟩, ⟨35, 0, [.sl 0 0 rs.length, .sl 1 0 us.length]⟩, ⟨35, 0, [tv (.slice none 0 0), tv (.slice none 0 0)]⟩].map some) (fun i => i ≤ us.length) (fun i => us.length - i) 0 (Nat.zero_le _) (suL h0 [0, 1, 2, 3] _ _ (by decide) rfl ⟨rfl, rfl, rfl, rfl, rfl, trivial⟩ ⟨oet (congrArg (fun l : List Tr => some (⟨66, 24, l.map .t⟩ : Ob)) (all_end (f := rtrK) (K := 6) (xs := rs) (i := i) (by omega))), oet (congrArg (fun l : List Tr => some (⟨46, 14, l.map .t⟩ : Ob)) (all_zero (f := utrK) (K := 3) (xs := us)).symm), oe rfl rfl, oe rfl rfl, rfl⟩) fun i2 hi2 => ?_
 refine sq ?_; refine rl ?_; refine o1 ?_; refine nl ?_; refine sq ?_; refine cdp rfl (fun h3 => ?_) (fun h3 => ?_)
 ·refine sk ?_; refine sq ?_; refine bl ?_; refine sq ?_; refine rl ?_; refine o1 ?_; refine o1 ?_; refine nl ?_; refine sq ?_; refine rl ?_; refine o1 ?_; refine ld ?_; (iterate 3 refine o1 ?_)
  refine nl ?_; refine sq ?_; refine rd [2, 3] (fun i => [].contains i) mixed ?_
  refine dv 0 ?_; refine dv 1 ?_; refine dv 2 ?_; refine dv 3 ?_; refine dv 4 ?_; refine dv 5 ?_; refine dv 6 ?_; refine dv 7 ?_; refine dv 8 ?_; refine dv 10 ?_; refine dbA 9 tyar144 rfl rfl ?_
  refine dz0 ?_; refine bl ?_
  refine lp (γ := Nat) (fun k => frL [(1, .one (.pt 2 0)), (2, .one (.pt 3 0)), (3, .one (.t (.f 89 [] []))), (51, .one (tv (.int .i64 ((us.length : Nat) : Int)))), (52, .one (tv (.int .i64 ((i2 : Nat) : Int)))), (68, .agg [.pt 1 (0 + i2 * 14 + 2), .pt 1 (0 + i2 * 14 + 6), .pt 1 (0 + i2 * 14 + 10)]), (69, .one (tv (.int .i64 ((k : Nat) : Int))))]) (fun k => [(⟨66, 24, (rs.flatMap (rtr true)).map .t⟩ : Ob), ⟨46, 14, (mixL utrK 3 us i2 k).map .t⟩, ⟨35, 0, [.sl 0 0 rs.length, .sl 1 0 us.length]⟩, ⟨35, 0, [tv (.slice none 0 0), tv (.slice none 0 0)]⟩].map some) (fun k => k ≤ 3) (fun k => 3 - k) 0 (Nat.zero_le _) (suL h0 [0, 1, 2, 3] _ _ (by decide) rfl ⟨rfl, rfl, rfl, rfl, rfl, rfl, rfl, trivial⟩ ⟨oet rfl, oet (congrArg (fun l : List Tr => some (⟨46, 14, l.map .t⟩ : Ob)) (all_mix (f := utrK) (K := 3) (xs := us) (i := i2) (by omega))), oe rfl rfl, oe rfl rfl, rfl⟩) fun k hk => ?_
  refine sq ?_; refine rl ?_; refine o1 ?_; refine nl ?_; refine sq ?_; refine cdp rfl (fun h4 => ?_) (fun h4 => ?_)
  ·refine sk ?_; refine sq ?_; refine bl ?_; refine sq ?_; refine rl ?_; have hk9 : k < 3 := by omega
   refine ixA tyar144 hk9 (arU (i := i2) hk9) ?_; refine o1 ?_; refine nl ?_; refine rl ?_; refine o1 ?_; refine o1 ?_
   refine clc 4 [1] [.one (.pt 0 (0 + i2 * 14 + (2 + 4 * k)))] rfl (m_own1 (t := 46) (z := 14) (o := 0 + i2 * 14 + (2 + 4 * k)) (tl := (mixL utrK 3 us i2 k)) (q := uq k (us.getD i2 default)) (hus _ (by omega) _) (mix_rd frU (by omega) hk9) (by rw [mix_len frU (by omega)]; have h8 := Nat.mul_le_mul_right 14 (show i2 + 1 ≤ us.length by omega); omega)) ok89 ⟨oet rfl, rfl⟩ ⟨rfl, rfl⟩ (ok := [some ⟨46, 14, (putA (mixL utrK 3 us i2 k) (0 + i2 * 14 + (2 + 4 * k)) ((Fr4.of (uq k (us.getD i2 default))).tr true)).map .t⟩]) ⟨oet rfl, rfl⟩ ?_
   refine nl ?_; refine rl ?_; refine o1 ?_; refine WL.cast (t := 75) (u' := .int .i64 ((k + 1 : Nat) : Int)) rfl (cint (by omega)) ?_
   refine o1 ?_; refine nl ?_
   exact ⟨k + 1, by omega, by omega, suL h0 [0, 1, 2, 3] _ _ (by decide) rfl ⟨rfl, rfl, rfl, rfl, rfl, rfl, rfl, trivial⟩ ⟨oet rfl, oet (congrArg (fun l : List Tr => some (⟨46, 14, l.map .t⟩ : Ob)) (mix_wr frU (by omega) hk9)), oe rfl rfl, oe rfl rfl, rfl⟩⟩
  refine ex ?_; refine rl ?_; refine o1 ?_; refine WL.cast (t := 76) (u' := .int .i64 ((i2 + 1 : Nat) : Int)) rfl (cint (by omega)) ?_
  refine o1 ?_; refine nl ?_
  exact ⟨i2 + 1, by omega, by omega, suL h0 [0, 1, 2, 3] _ _ (by decide) rfl ⟨rfl, rfl, rfl, rfl, rfl, trivial⟩ ⟨oet rfl, oet (congrArg (fun l : List Tr => some (⟨46, 14, l.map .t⟩ : Ob)) (show (mixL utrK 3 us i2 k) = (allL utrK 3 us (i2 + 1)) by rw [show k = 3 by omega]; exact mix_all (by omega))), oe rfl rfl, oe rfl rfl, rfl⟩⟩
 refine ex ?_; refine sq ?_; refine rl ?_; refine ld ?_; refine st ?_; refine nl ?_; refine rt ?_
 exact enS0 <| enL (lent' := [⟨66, 24, (rs.flatMap (rtr true)).map .t⟩, ⟨46, 14, (us.flatMap (utr true)).map .t⟩]) (.inl rfl) rfl (pk1 (.agg (.cons (.rf rfl rfl) (.cons (.rf rfl rfl) .nil)))) (by decide) (fun _ h => by cases h) ⟨⟨rfl, rfl⟩, ⟨rfl, rfl⟩, trivial⟩ ⟨rfl, congrArg (fun l : List Tr => some (⟨46, 14, l.map .t⟩ : Ob)) (all_end (f := utrK) (K := 3) (xs := us) (i := i2) (by omega)), trivial⟩ ⟨refC_t _, refC_t _, trivial⟩ (fun h => by cases h) ⟨rfl, rfl⟩
end Go.Proofs.YtofllcodkcjajaaGreat
