/- Part 12 of a proof: C8 to A3. -/
import Derived.Test.YtofllcodkcjajaaGreatM11
import Derived.Test.YtofllcodkcjajaaGreatM8
import Derived.Test.YtofllcodkcjajaaGreatM9
set_option maxRecDepth 100000
set_option linter.unusedVariables false
set_option linter.unusedSimpArgs false
namespace Go.Proofs.YtofllcodkcjajaaGreat
open Go Go.RowKit
theorem m_year {M : Mx} {N y : Nat} (hOk : M.Ok N) (hy : y < N) : Spec false Tryz.prog 37 [flO M N (M.rows (M.run y) (M.ex y) (fun _ => 0) y) (M.run y) (ldP (wl M (M.run y) (M.I y)) (M.lp y).1 (M.lp y).2)] [.one (.pt 0 0), .one (tv (.int .i64 ((y : Nat) : Int)))] (Rt [flO M N (M.rows (M.run (y + 1)) (M.ex (y + 1)) (fun _ => 0) (y + 1)) (M.run (y + 1)) (ldP (wl M (M.run (y + 1)) (M.I (y + 1))) (M.lp (y + 1)).1 (M.lp (y + 1)).2)] (.tup [])) := by
 have hNs := hOk.n
 have hI := hOk.run (k := y) (by omega)
 have hI2 := hOk.run (k := y + 1) (by omega)
 have h := m_year0 (M := M) (N := N) (y := y) (U := M.run y) (e := M.ex y) (c := fun _ => 0) (last := (M.lp y).1) (put := (M.lp y).2) hOk hI hy (by have := run_len hOk.b hOk.w y; omega) (ofV_run (Nat.le_refl _)) (inY_run (Nat.le_refl _)) (if_neg (by omega)) rfl (lp_lt y)
 have e1 : M.step (M.run y) y = M.run (y + 1) := rfl
 have e2 : (if M.inc y < 0 then (y : Int) else (M.lp y).1) = (M.lp (y + 1)).1 := by show _ = (if M.inc y < 0 then ((y : Int), true) else M.lp y).1; split <;> rfl
 have e3 : (if M.inc y < 0 then true else (M.lp y).2) = (M.lp (y + 1)).2 := by show _ = (if M.inc y < 0 then ((y : Int), true) else M.lp y).2; split <;> rfl
 have e4 : M.rows (M.run (y + 1)) (noteE (wl M (M.run (y + 1)) (M.J y)) (M.ex y)) (fun _ => 0) (y + 1) = M.rows (M.run (y + 1)) (M.ex (y + 1)) (fun _ => 0) (y + 1) := rows_same (fun i hi => ex_step hI2 hy hi) fun _ _ => rfl
 rw [e1, e2, e3, e4] at h
 exact h
theorem m_Run_no {c : Fr4} {bk fw : Int} {ys : List (Fr4 × Fr4)} (hc : c.ok) (hy : ∀ y ∈ ys, y.1.ok ∧ y.2.ok) (hs : ∀ y ∈ ys, Sz 68719476736 (c.q * abv y.1.q)) (hl : ys.length ≤ 1073741823) (hno : mayE c bk fw ys ≠ 0) : Spec false Tryz.prog 10 [] [.agg ((c.tr false ++ [.v (.int .i64 bk), .v (.int .i64 fw)] : List Tr).map .t), .one (.t (sMy ys))] (Ret (.tup [.agg [.t (sRw true true []), .t (sUs true true [])], .one (tv (.int .i64 (mayE c bk fw ys)))])) := by
 refine fn0 Tryz.func10 rfl Tryz.ntmps10 rfl ttok rfl fun N w c0 h0 => ?_
 refine sq ?_; refine rl ?_; refine bx 0 ?_; refine al 1 ?_; refine o1 ?_; refine nl ?_; refine sq ?_; refine sq ?_; refine rl ?_; refine ld ?_; refine o1 ?_
 refine ca (m_may hc hy hs hl) ok35 ⟨a1g rfl, a1 rfl, rfl⟩ (.one (tv (.int .i64 (mayE c bk fw ys)))) ?_; refine o1 ?_; refine nl ?_; refine sq ?_; refine rl ?_; refine o1 ?_; refine o1 ?_
 refine nl ?_; refine cdp rfl (fun h1 => ?_) (fun h1 => ?_)
 ·refine sq ?_; refine rl ?_; refine o1 ?_; refine o1 ?_; refine st ?_; refine o1 ?_; refine nl ?_; refine rt ?_
  exact en (.inl rfl) rfl (pkt (.cons (.agg (.cons (.nil (t := 66) (z := 24)) (.cons (.nil (t := 46) (z := 14)) .nil))) (.cons (pkv _) .nil))) (by decide) (fun h => by cases h) rfl
 exact absurd hno h1
theorem m_Run {M : Mx} {N : Nat} (hOk : M.Ok N) (hok : mayE (.of M.cap) (M.b : Int) (M.w : Int) (yrs M N) = 0) : Spec false Tryz.prog 10 [] [.agg (((Fr4.of M.cap).tr false ++ [.v (.int .i64 ((M.b : Nat) : Int)), .v (.int .i64 ((M.w : Nat) : Int))] : List Tr).map .t), .one (.t (sMy (yrs M N)))] (Ret (.tup [.agg [.t (sRw true true (M.rows (M.run N) (M.ex N) (M.cl N) N)), .t (sUs true true (M.run N))], .one (tv (.int .i64 0))])) := by
 refine fn0s Tryz.func10 rfl Tryz.ntmps10 rfl ttok rfl fun N9 w9 c0 h0 => ?_
 have hbs := hOk.b; have hws := hOk.w; have hNs := hOk.n
 have hyl : (yrs M N).length = N := yrs_len M N
 have hyok : ∀ y ∈ yrs M N, y.1.ok ∧ y.2.ok := fun y hy => by
  unfold yrs at hy; obtain ⟨i, hi, rfl⟩ := List.mem_map.1 hy
  have hi := List.mem_range.1 hi
  exact ⟨(Qn.of ((hOk.inc i hi).mono (M := 68719476736) (by omega))).1, (Qn.of ((hOk.ring i hi).mono (M := 68719476736) (by omega))).1⟩
 have hysz : ∀ y ∈ yrs M N, Sz 68719476736 ((Fr4.of M.cap).q * abv y.1.q) := fun y hy => by
  unfold yrs at hy; obtain ⟨i, hi, rfl⟩ := List.mem_map.1 hy
  have hi := List.mem_range.1 hi
  rw [Fr4.q_of, Fr4.q_of]; exact (mul_sz hOk.cap (abv_szm (hOk.inc i hi) (by omega))).mono (by omega)
 have hIN := hOk.run (Nat.le_refl N)
 have hrl := run_len hOk.b hOk.w N
 have hI0 : M.I 0 = [] := List.eq_nil_of_length_eq_zero (by unfold Mx.I; rw [List.length_range']; omega)
 refine sq ?_; refine rl ?_; refine bx 0 ?_; refine al 1 ?_; refine o1 ?_; refine nl ?_; refine sq ?_; refine sq ?_; refine rl ?_; refine ld ?_; refine o1 ?_
 refine ca (m_may (c := .of M.cap) (bk := (M.b : Int)) (fw := (M.w : Int)) (ys := yrs M N) (Qn.of (hOk.cap.mono (M := 68719476736) (by omega))).1 hyok hysz (by omega)) ok35 ⟨a1g rfl, a1 rfl, rfl⟩ (.one (tv (.int .i64 (mayE (.of M.cap) (M.b : Int) (M.w : Int) (yrs M N))))) ?_
 refine o1 ?_; refine nl ?_; refine sq ?_; refine rl ?_; refine o1 ?_; refine o1 ?_; refine nl ?_; refine cdp rfl (fun h1 => ?_) (fun h1 => ?_)
 ·exact absurd hok h1
 refine sk ?_; refine sq ?_; refine rd [0, 1] (fun i => [5].contains i) mixed ?_
 refine dld 0 ?_; refine dv 1 ?_; refine dck 2 2 rfl (p_New) ok36 rfl ?_; refine df 3 ?_; refine d_bx (key := 3) 4 (by kernel_rfl) rfl rfl rfl ⟨rfl, rfl, trivial⟩ ?_
 refine d_v 5 (by kernel_rfl) rfl rfl ttok rfl (by trivial) ?_ (fun h => by first | rfl | cases h)
 refine dz0 ?_; refine sq ?_; refine sq ?_
 refine WP.sub ((nro (j := 3) (key := 4) (e := 66) (z := 24) rfl rfl rfl (.sl (.id (.id (.id (.id (.id (.id (.id (.id (.id .nil))))))))))).trans (cls (j := 3) (k := 4) (p := 0) (e := 66) (z := 24) (n := 0) (trs := []) rfl rfl rfl rfl rfl rfl rfl rfl)) ?_
 refine WP.sub ((nro (j := 3) (key := 5) (e := 46) (z := 14) rfl rfl rfl (.id (.sl (.id (.id (.id (.id (.id (.id (.id (.id .nil))))))))))).trans (cls (j := 3) (k := 5) (p := 1) (e := 46) (z := 14) (n := 0) (trs := []) rfl rfl rfl rfl rfl rfl rfl rfl)) ?_
 refine WP.sub (clsP (j := 3) (k := 2) (p := 9) (e := 136) (trs := [sR 97 [], .v (.int .i64 0), .v (.bool false)]) rfl rfl rfl rfl rfl) ?_
 refine WP.sub (su0 h0 [3, 1] [(1, .one (.t (sMy (yrs M N)))), (4, .one (.pt 1 0)), (5, .one (tv (.int .i64 0))), (7, .one (.pt 0 0))] [⟨92, 0, flC M N (.t (sRw true false (M.rows (M.run 0) (M.ex 0) (fun _ => 0) 0))) (.t (sUs true false (M.run 0))) (.t (ldP (wl M (M.run 0) (M.I 0)) (M.lp 0).1 (M.lp 0).2))⟩, ⟨35, 0, [tv (.slice none 0 0), tv (.slice none 0 0)]⟩] (by decide) ⟨rfl, rfl, rfl, rfl, trivial⟩ ⟨oe rfl (by rw [hI0]; rfl), oe rfl rfl, rfl⟩) ?_
 refine rl ?_; refine o1 ?_; refine o1 ?_; refine WL.cast (t := 24) (u' := .int .i64 ((N : Nat) : Int)) rfl (cint (by rw [hyl])) ?_
 refine o1 ?_; refine nl ?_; refine bl ?_
 refine lp (γ := Nat) (fun y => frL [(4, .one (.pt 1 0)), (5, .one (tv (.int .i64 0))), (7, .one (.pt 0 0)), (24, .one (tv (.int .i64 ((N : Nat) : Int)))), (25, .one (tv (.int .i64 ((y : Nat) : Int))))]) (fun y => [(⟨92, 0, flC M N (.t (sRw true false (M.rows (M.run y) (M.ex y) (fun _ => 0) y))) (.t (sUs true false (M.run y))) (.t (ldP (wl M (M.run y) (M.I y)) (M.lp y).1 (M.lp y).2))⟩ : Ob), ⟨35, 0, [tv (.slice none 0 0), tv (.slice none 0 0)]⟩].map some) (fun y => y ≤ N) (fun y => N - y) 0 (Nat.zero_le _) (su0 h0 [0, 1] _ _ (by decide) ⟨rfl, rfl, rfl, rfl, rfl, trivial⟩ ⟨oe rfl rfl, oe rfl rfl, rfl⟩) fun y hy => ?_
 refine sq ?_; refine rl ?_; refine o1 ?_; refine nl ?_; refine sq ?_; refine cdp rfl (fun h2 => ?_) (fun h2 => ?_)
 ·refine sk ?_; refine sq ?_; refine bl ?_; refine sq ?_; refine rl ?_; refine o1 ?_; refine o1 ?_; refine nl ?_; refine rl ?_; refine o1 ?_; refine o1 ?_
  refine cl 2 [0] (m_year (M := M) (N := N) (y := y) hOk (by omega)) ok37 ⟨oe rfl rfl, rfl⟩ ⟨rfl, rfl, rfl⟩ (ok := [some ⟨92, 0, flC M N (.t (sRw true false (M.rows (M.run (y + 1)) (M.ex (y + 1)) (fun _ => 0) (y + 1)))) (.t (sUs true false (M.run (y + 1)))) (.t (ldP (wl M (M.run (y + 1)) (M.I (y + 1))) (M.lp (y + 1)).1 (M.lp (y + 1)).2))⟩]) ⟨oe rfl rfl, rfl⟩ ?_
  refine nl ?_; refine rl ?_; refine o1 ?_; refine WL.cast (t := 31) (u' := .int .i64 ((y + 1 : Nat) : Int)) rfl (cint (by omega)) ?_
  refine o1 ?_; refine nl ?_; exact ⟨y + 1, by omega, by omega, su0 h0 [0, 1] _ _ (by decide) ⟨rfl, rfl, rfl, rfl, rfl, trivial⟩ ⟨oe rfl rfl, oe rfl rfl, rfl⟩⟩
 refine ex ?_; refine sq ?_; refine sq ?_; have hyN : y = N := by omega
 rw [hyN]
 have hzI : ∀ x ∈ (wl M (M.run N) (M.I N)), Sz 68719476736 x.2 := fun x hx => by obtain ⟨i, hi, rfl, _⟩ := wl_mem hx; exact (hIN.sz_left hOk (by have := I_mem.1 hi; omega)).mono (by omega)
 have hEl : (wl M (M.run N) (M.I N)).length ≤ 40 := Nat.le_trans wl_len (I_len hOk.w)
 refine WP.sub (opnP (j := 0) (key := 2) (p := 9) (e := 136) (trs := [sR 97 (wl M (M.run N) (M.I N)), .v (.int .i64 ((M.lp N).1)), .v (.bool (M.lp N).2)]) (l' := flC M N (.t (sRw true false (M.rows (M.run N) (M.ex N) (fun _ => 0) N))) (.t (sUs true false (M.run N))) (.pt 2 0)) rfl rfl rfl rfl) ?_
 refine rl ?_; (iterate 3 refine o1 ?_); refine ld ?_
 refine cak 3 (p_Rows (vs := (wl M (M.run N) (M.I N))) (rest := [.v (.int .i64 (M.lp N).1), .v (.bool (M.lp N).2)]) hzI (by omega)) ok38 ⟨a1o rfl (.pe (trs := [sR 97 (wl M (M.run N) (M.I N)), .v (.int .i64 (M.lp N).1), .v (.bool (M.lp N).2)]) rfl rfl rfl (by simp only [rdTL, rdT, sR, sV, rd_vo])), rfl⟩ ?_
 refine o1 ?_; refine o1 ?_; refine nl ?_; refine bl ?_
 refine WP.sub (fzR (i := 36) (k := 3) (n := (wl M (M.run N) (M.I N)).length) 97 rfl rfl rfl (vflat_len true _) (rd_vo true _) (.one .sl)) ?_
 refine WP.sub (clsP (j := 0) (k := 2) (p := 9) (e := 136) (trs := [sR 97 (wl M (M.run N) (M.I N)), .v (.int .i64 ((M.lp N).1)), .v (.bool (M.lp N).2)]) (l' := flC M N (.t (sRw true false (M.rows (M.run N) (M.ex N) (fun _ => 0) N))) (.t (sUs true false (M.run N))) (.t (ldP (wl M (M.run N) (M.I N)) ((M.lp N).1) (M.lp N).2))) rfl rfl rfl rfl rfl) ?_
 refine WP.sub (opn (j := 0) (key := 4) (p := 0) (e := 66) (z := 24) (n := (M.rows (M.run N) (M.ex N) (fun _ => 0) N).length) (trs := (M.rows (M.run N) (M.ex N) (fun _ => 0) N).flatMap (rtr false)) (l' := flC M N (.sl 4 0 (M.rows (M.run N) (M.ex N) (fun _ => 0) N).length) (.t (sUs true false (M.run N))) (.t (ldP (wl M (M.run N) (M.I N)) (M.lp N).1 (M.lp N).2))) rfl rfl rfl rfl rfl) ?_
 refine lp (γ := Nat) (fun k => frL [(4, .one (.pt 2 0)), (5, .one (tv (.int .i64 0))), (7, .one (.pt 0 0)), (36, .one (.t (sV 97 false (wl M (M.run N) (M.I N))))), (37, .one (tv (.int .i64 (((wl M (M.run N) (M.I N)).length : Nat) : Int)))), (38, .one (tv (.int .i64 ((k : Nat) : Int))))]) (fun k => [(⟨92, 0, flC M N (.sl 1 0 N) (.t (sUs true false (M.run N))) (.t (ldP (wl M (M.run N) (M.I N)) (M.lp N).1 (M.lp N).2))⟩ : Ob), ⟨66, 24, rcl (M.rows (M.run N) (M.ex N) (noteE ((wl M (M.run N) (M.I N)).take k) (fun _ => 0)) N)⟩, ⟨35, 0, [tv (.slice none 0 0), tv (.slice none 0 0)]⟩].map some) (fun k => k ≤ (wl M (M.run N) (M.I N)).length) (fun k => (wl M (M.run N) (M.I N)).length - k) 0 (Nat.zero_le _) (su0 h0 [0, 4, 1] _ _ (by decide) ⟨rfl, rfl, rfl, rfl, rfl, rfl, trivial⟩ ⟨oe rfl (congrArg (fun n => some (⟨92, 0, flC M N (.sl 4 0 n) (.t (sUs true false (M.run N))) (.t (ldP (wl M (M.run N) (M.I N)) (M.lp N).1 (M.lp N).2))⟩ : Ob)) rows_len), oet rfl, oe rfl rfl, rfl⟩) fun k hk => ?_
 refine sq ?_; refine rl ?_; refine o1 ?_; refine nl ?_; refine sq ?_; refine cdp rfl (fun h3 => ?_) (fun h3 => ?_)
 ·refine sk ?_; refine sq ?_; refine bl ?_; refine sq ?_; obtain ⟨i, hi, hx, hpos⟩ := wl_mem (nthV_mem (vs := (wl M (M.run N) (M.I N))) (k := k) (by omega))
  have hiI := I_mem.1 hi
  have hx1 : (nthV (wl M (M.run N) (M.I N)) k).1 = (i : Int) := by rw [hx]
  have hrk : (M.rows (M.run N) (M.ex N) (noteE ((wl M (M.run N) (M.I N)).take k) (fun _ => 0)) N).length = N := rows_len
  have hst : (M.rows (M.run N) (M.ex N) (noteE ((wl M (M.run N) (M.I N)).take k) (fun _ => 0)) N).set i (⟨M.los i, M.lim i, inY (M.run N) i, M.tax (M.run N) i, M.ex N i, (nthV (wl M (M.run N) (M.I N)) k).2⟩ : Rw) = (M.rows (M.run N) (M.ex N) (noteE ((wl M (M.run N) (M.I N)).take (k + 1)) (fun _ => 0)) N) := rows_clo (by omega) (fun j hj hne => by rw [take_v (by omega), note_snoc (nodup_take (wl_fst I_nodup) (by omega)), if_neg (by rw [hx1]; omega)]) (by rw [take_v (by omega), note_snoc (nodup_take (wl_fst I_nodup) (by omega)), if_pos hx1])
  refine rl ?_; refine o1 ?_; refine ldf (vtr false (nthV (wl M (M.run N) (M.I N)) (k))) (vin_at false (by omega)) ?_
  refine al 3 ?_; refine st ?_; refine nl ?_; refine rd [0, 2, 3] (fun i => [].contains i) mixed ?_
  refine dv 0 ?_; refine dv 1 ?_; refine dv 2 ?_; refine dv 3 ?_; refine dld 4 ?_; refine dv 5 ?_; refine dld 6 ?_; refine WD.cast (t := 48) (u' := .int .i64 ((i : Nat) : Int)) rfl (cint hx1) ?_
  refine dv 7 ?_; refine dld 8 ?_; refine dv 9 ?_; refine dv 10 ?_
  refine dston 11 (flat_putM (xs := (M.rows (M.run N) (M.ex N) (noteE ((wl M (M.run N) (M.I N)).take k) (fun _ => 0)) N)) (k := i) (x := (⟨(M.los i), (M.lim i), (inY (M.run N) i), (M.tax (M.run N) i), (M.ex N i), ((noteE ((wl M (M.run N) (M.I N)).take k) (fun _ => 0)) i)⟩ : Rw)) (f := (rtr false)) (z := 24) (o := 20) (x' := (⟨(M.los i), (M.lim i), (inY (M.run N) i), (M.tax (M.run N) i), (M.ex N i), (nthV (wl M (M.run N) (M.I N)) (k)).2⟩ : Rw)) (us := (Fr4.of (nthV (wl M (M.run N) (M.I N)) (k)).2).tr false) (rtr_len false) (rows_get (by omega)) (Nat.le_of_ble_eq_true rfl) rfl) (flat_le (xs := (M.rows (M.run N) (M.ex N) (noteE ((wl M (M.run N) (M.I N)).take k) (fun _ => 0)) N)) (k := i) (f := (rtr false)) (z := 24) (o := 20) (us := (Fr4.of (nthV (wl M (M.run N) (M.I N)) (k)).2).tr false) (rtr_len false) (by omega) (Nat.le_of_ble_eq_true rfl)) ?_
  refine dz0 ?_; refine rl ?_; refine o1 ?_; refine WL.cast (t := 53) (u' := .int .i64 ((k + 1 : Nat) : Int)) rfl (cint (by omega)) ?_
  refine o1 ?_; refine nl ?_
  exact ⟨k + 1, by omega, by omega, su0 h0 [0, 1, 2] _ _ (by decide) ⟨rfl, rfl, rfl, rfl, rfl, rfl, trivial⟩ ⟨oe rfl rfl, oet (congrArg (fun l : List Rw => some (⟨66, 24, (l.flatMap (rtr false)).map .t⟩ : Ob)) hst), oe rfl rfl, rfl⟩⟩
 refine ex ?_; refine sq ?_
 have hfin : (M.rows (M.run N) (M.ex N) (noteE ((wl M (M.run N) (M.I N)).take k) (fun _ => 0)) N) = (M.rows (M.run N) (M.ex N) (M.cl N) N) := rows_same (fun _ _ => rfl) fun i hi => by rw [List.take_of_length_le (by omega)]; exact cl_end hIN hi
 refine WP.sub (opn (j := 0) (key := 3) (p := 1) (e := 46) (z := 14) (n := (M.run N).length) (trs := (M.run N).flatMap (utr false)) (l' := flC M N (.sl 1 0 N) (.sl 3 0 (M.run N).length) (.t (ldP (wl M (M.run N) (M.I N)) (M.lp N).1 (M.lp N).2))) rfl rfl rfl rfl rfl) ?_
 refine WP.sub (su0 h0 [0, 1, 3, 2] [(4, .one (.pt 3 0)), (5, .one (tv (.int .i64 0))), (7, .one (.pt 0 0))] [⟨92, 0, flC M N (.sl 1 0 (M.rows (M.run N) (M.ex N) (M.cl N) N).length) (.sl 2 0 (M.run N).length) (.t (ldP (wl M (M.run N) (M.I N)) (M.lp N).1 (M.lp N).2))⟩, ⟨66, 24, ((M.rows (M.run N) (M.ex N) (M.cl N) N).flatMap (rtr false)).map .t⟩, ⟨46, 14, ((M.run N).flatMap (utr false)).map .t⟩, ⟨35, 0, [tv (.slice none 0 0), tv (.slice none 0 0)]⟩] (by decide) ⟨rfl, rfl, rfl, trivial⟩ ⟨oe rfl (congrArg (fun n => some (⟨92, 0, flC M N (.sl 1 0 n) (.sl 3 0 (M.run N).length) (.t (ldP (wl M (M.run N) (M.I N)) (M.lp N).1 (M.lp N).2))⟩ : Ob)) rows_len.symm), oet (congrArg (fun l : List Rw => some (⟨66, 24, (l.flatMap (rtr false)).map .t⟩ : Ob)) hfin), oet rfl, oe rfl rfl, rfl⟩) ?_
 have hsr : ∀ i, i < (M.rows (M.run N) (M.ex N) (M.cl N) N).length → ∀ k, Sz 68719476736 (rq k ((M.rows (M.run N) (M.ex N) (M.cl N) N).getD i default)) := fun i hi k => by
  rw [rows_len] at hi; have e9 : (M.rows (M.run N) (M.ex N) (M.cl N) N).getD i default = M.row (M.run N) (M.ex N) (M.cl N) i := by rw [List.getD_eq_getElem?_getD, rows_get hi]; rfl
  have h9 := row_sz hOk hIN hi (ex_sz hOk (Nat.le_refl N) hi) (cl_sz hOk hi)
  rw [e9]; unfold rq; split
  ·exact h9.1.mono (by omega)
  ·exact h9.2.1.mono (by omega)
  ·exact h9.2.2.1.mono (by omega)
  ·exact h9.2.2.2.1.mono (by omega)
  ·exact h9.2.2.2.2.1.mono (by omega)
  exact h9.2.2.2.2.2.mono (by omega)
 have hsu : ∀ i, i < (M.run N).length → ∀ k, Sz 68719476736 (uq k ((M.run N).getD i default)) := fun i hi k => by
  have e9 : (M.run N).getD i default = (M.run N)[i] := by rw [List.getD_eq_getElem?_getD, List.getElem?_eq_getElem hi]; rfl
  have h9 := UsOk.run hOk (Nat.le_refl N) _ (List.getElem_mem hi)
  rw [e9]; unfold uq; split
  ·exact h9.1.mono (by omega)
  ·exact h9.2.1.mono (by omega)
  exact h9.2.2.mono (by omega)
 refine rl ?_; (iterate 3 refine o1 ?_); refine ld ?_
 refine clra [1, 2] (m_own (rs := (M.rows (M.run N) (M.ex N) (M.cl N) N)) (us := (M.run N)) hsr hsu (by rw [rows_len]; omega) (by omega)) ok39 ⟨oet rfl, oet rfl, rfl⟩ ⟨rfl, rfl⟩ (.sl rfl (.sl rfl .nil)) (ok := [some ⟨66, 24, ((M.rows (M.run N) (M.ex N) (M.cl N) N).flatMap (rtr true)).map .t⟩, some ⟨46, 14, ((M.run N).flatMap (utr true)).map .t⟩]) ⟨oet rfl, oet rfl, rfl⟩ ?_
 refine st ?_; refine o1 ?_; refine nl ?_; refine rt ?_
 exact enS0 (en (.inl rfl) rfl (pkt (.cons (.agg (.cons (.sl (trs := (M.rows (M.run N) (M.ex N) (M.cl N) N).flatMap (rtr true)) rfl rfl (take_self _ _ (rflat_len true _)) (rflat_len true _)) (.cons (.sl (trs := (M.run N).flatMap (utr true)) rfl rfl (take_self _ _ (uflat_len true _)) (uflat_len true _)) .nil))) (.cons (pkv _) .nil))) (by decide) (fun h => by cases h) rfl)
def shortM (a : Fr4) : Bool := decide ((a.x.length : Int) ≤ 4) && decide ((a.y.length : Int) ≤ 4)
def fewM (c : Fr4) (ys : List (Fr4 × Fr4)) : Bool := ((ys.take 50).all fun y => shortM y.1 && shortM y.2) && (shortM c && (decide ((ys.length : Int) ≤ 12) || (decide ((40 : Int) < ys.length) && decide ((ys.length : Int) < 50))))
def ShOk (a : Fr4) : Prop := shortM a = true → a.ok
def mxOf (c : Fr4) (bk fw : Int) (ys : List (Fr4 × Fr4)) : Mx := ⟨fun y => (nthY ys y).1.q, fun y => (nthY ys y).2.q, c.q, bk.toNat, fw.toNat⟩
theorem sz4 {a : Fr4} (ha : a.ok) (h : shortM a = true) : Sz 4 a.q := by
 obtain ⟨l1, l2, _, _⟩ := ha
 simp only [shortM, Bool.and_eq_true, decide_eq_true_eq] at h
 exact qin_sz (na := a.s) (nb := a.t) l1 l2 (by omega) (by omega) (by omega)
theorem fewM_no {c : Fr4} {ys : List (Fr4 × Fr4)} {k : Nat} (h : k < ys.length) (h2 : k < 50) (h3 : (shortM (nthY ys k).1 && shortM (nthY ys k).2) = false) : false = fewM c ys := by
 unfold fewM
 have : ((ys.take 50).all fun y => shortM y.1 && shortM y.2) = false := by
  rw [List.all_eq_false]
  exact ⟨_, List.mem_of_getElem? (i := k) (by rw [List.getElem?_take, if_pos h2, nthY_get h]), by simp only [h3]; simp⟩
 rw [this]
 rfl
theorem fewM_yes {c : Fr4} {ys : List (Fr4 × Fr4)} {k : Nat} (h : ∀ j, j < k → (shortM (nthY ys j).1 && shortM (nthY ys j).2) = true) (hk : k ≤ ys.length) (h2 : ¬ (k < ys.length ∧ k < 50)) : (shortM c && (decide ((ys.length : Int) ≤ 12) || (decide ((40 : Int) < ys.length) && decide ((ys.length : Int) < 50)))) = fewM c ys := by
 unfold fewM
 have : ((ys.take 50).all fun y => shortM y.1 && shortM y.2) = true := by
  rw [List.all_eq_true]
  intro x hx
  obtain ⟨j, hj⟩ := List.mem_iff_getElem?.1 hx
  rw [List.getElem?_take] at hj
  split at hj
  ·have hjl := (List.getElem?_eq_some_iff.1 hj).1
   rw [nthY_get hjl] at hj
   injection hj with hj
   rw [← hj]
   exact h j (by omega)
  cases hj
 rw [this, Bool.true_and]
structure Sm (c : Fr4) (ys : List (Fr4 × Fr4)) : Prop where
 c : c.ok ∧ shortM c = true
 y : ∀ y ∈ ys, (y.1.ok ∧ shortM y.1 = true) ∧ y.2.ok ∧ shortM y.2 = true
 l : ys.length < 50
theorem fewM_of {c : Fr4} {ys : List (Fr4 × Fr4)} (h : fewM c ys = true) (hc : ShOk c) (hy : ∀ y ∈ ys, ShOk y.1 ∧ ShOk y.2) : Sm c ys := by
 unfold fewM at h
 simp only [Bool.and_eq_true, Bool.or_eq_true, decide_eq_true_eq] at h
 obtain ⟨h1, h2, h3⟩ := h
 have hl : ys.length < 50 := by omega
 rw [List.take_of_length_le (by omega), List.all_eq_true] at h1
 refine ⟨⟨hc h2, h2⟩, fun y hm => ?_, hl⟩
 have := h1 y hm
 simp only [Bool.and_eq_true] at this
 exact ⟨⟨(hy y hm).1 this.1, this.1⟩, (hy y hm).2 this.2, this.2⟩
section
variable {c : Fr4} {bk fw : Int} {ys zs : List (Fr4 × Fr4)}
theorem Sm.cz (h : Sm c ys) : Sz 4 c.q := sz4 h.c.1 h.c.2
theorem Sm.sz (h : Sm c ys) : ∀ y ∈ ys, Sz 68719476736 (c.q * abv y.1.q) := fun y hy => (mul_sz h.cz (abv_szm (sz4 (h.y y hy).1.1 (h.y y hy).1.2) (by omega))).mono (by omega)
theorem sgn_nn {q : Rat} (h : ¬ q.num.sign < 0) : 0 ≤ q := by
 rcases Rat.le_total (a := 0) (b := q) with h1 | h1
 ·exact h1
 rcases Rat.le_iff_lt_or_eq.1 h1 with h2 | h2
 ·exact absurd ((sgn_neg q).2 h2) h
 rw [h2]; exact Rat.le_refl
theorem sgn_sub {p q : Rat} (h : ¬ 0 < (p - q).num.sign) : p ≤ q := by
 rcases Rat.le_total (a := p) (b := q) with h1 | h1
 ·exact h1
 rcases Rat.le_iff_lt_or_eq.1 h1 with h2 | h2
 ·exact absurd ((gt_sgn p q).2 h2) h
 rw [h2]; exact Rat.le_refl
theorem may_of (h : mayE c bk fw ys = 0) : badR c bk fw = false ∧ (∀ y ∈ ys, badY c y = false) ∧ ys.length ≤ 40 := by
 unfold mayE at h
 split at h
 ·cases h
 rename_i h1
 split at h
 ·cases h
 rename_i h2
 simp only [Bool.or_eq_true, not_or, Bool.not_eq_true] at h1
 simp only [decide_eq_true_eq] at h2
 exact ⟨h1.1, fun y hy => by
  have := h1.2
  rw [List.any_eq_false] at this
  simpa using this y hy, by omega⟩
theorem may_to (h1 : badR c bk fw = false) (h2 : ∀ y ∈ ys, badY c y = false) (h3 : ys.length ≤ 40) : mayE c bk fw ys = 0 := by
 unfold mayE
 have : ys.any (badY c) = false := by
  rw [List.any_eq_false]
  intro y hy
  rw [h2 y hy]
  simp
 rw [h1, this, if_neg (by simp), if_neg (by simp; omega)]
theorem mx_of (hs : Sm c ys) (h : mayE c bk fw ys = 0) : (mxOf c bk fw ys).Ok ys.length ∧ c = Fr4.of (mxOf c bk fw ys).cap ∧ bk = ((mxOf c bk fw ys).b : Int) ∧ fw = ((mxOf c bk fw ys).w : Int) ∧ ys = yrs (mxOf c bk fw ys) ys.length := by
 obtain ⟨h1, h2, h3⟩ := may_of h
 unfold badR at h1
 simp only [Bool.or_eq_false_iff, Bool.not_eq_false', decide_eq_false_iff_not] at h1
 obtain ⟨r1, r2, r3, r4, r5, r6, r7⟩ := h1
 have hy : ∀ i, i < ys.length → nthY ys i ∈ ys := fun i hi => nthY_mem hi
 have hb : ∀ i, i < ys.length → (rightQ (nthY ys i).1.s (nthY ys i).1.x (nthY ys i).1.t (nthY ys i).1.y = true) ∧ (rightQ (nthY ys i).2.s (nthY ys i).2.x (nthY ys i).2.t (nthY ys i).2.y = true) ∧ 0 ≤ (nthY ys i).2.q ∧ (nthY ys i).2.q ≤ c.q * abv (nthY ys i).1.q := fun i hi => by
  have := h2 _ (hy i hi)
  unfold badY at this
  simp only [Bool.or_eq_false_iff, Bool.not_eq_false', decide_eq_false_iff_not] at this
  obtain ⟨b1, b2, b3, b4⟩ := this
  exact ⟨b1, b2, sgn_nn b3, sgn_sub b4⟩
 refine ⟨⟨fun i hi => sz4 (hs.y _ (hy i hi)).1.1 (hs.y _ (hy i hi)).1.2, fun i hi => sz4 (hs.y _ (hy i hi)).2.1 (hs.y _ (hy i hi)).2.2, hs.cz, sgn_nn r2, sgn_sub r3, fun i hi => (hb i hi).2.2.1, fun i hi => (hb i hi).2.2.2, h3, ?_, ?_⟩, (Qn.right (⟨hs.c.1, rfl⟩ : Qn c c.q) r1).symm, ?_, ?_, ?_⟩
 ·show fw.toNat ≤ 40
  omega
 ·show bk.toNat ≤ 3
  omega
 ·show bk = ((bk.toNat : Nat) : Int)
  omega
 ·show fw = ((fw.toNat : Nat) : Int)
  omega
 apply List.ext_getElem?
 intro i
 by_cases hi : i < ys.length
 ·rw [nthY_get hi, yrs_get hi]
  have e1 := Qn.right (⟨(hs.y _ (hy i hi)).1.1, rfl⟩ : Qn (nthY ys i).1 (nthY ys i).1.q) (hb i hi).1
  have e2 := Qn.right (⟨(hs.y _ (hy i hi)).2.1, rfl⟩ : Qn (nthY ys i).2 (nthY ys i).2.q) (hb i hi).2.1
  show some (nthY ys i) = some (Fr4.of (nthY ys i).1.q, Fr4.of (nthY ys i).2.q)
  rw [e1, e2]
 rw [List.getElem?_eq_none (by omega), List.getElem?_eq_none (by rw [yrs_len]; omega)]
def runR (c : Fr4) (bk fw : Int) (ys : List (Fr4 × Fr4)) : List Rw := if mayE c bk fw ys = 0 then (mxOf c bk fw ys).rows ((mxOf c bk fw ys).run ys.length) ((mxOf c bk fw ys).ex ys.length) ((mxOf c bk fw ys).cl ys.length) ys.length else []
def runU (c : Fr4) (bk fw : Int) (ys : List (Fr4 × Fr4)) : List Us := if mayE c bk fw ys = 0 then (mxOf c bk fw ys).run ys.length else []
theorem runU_len (hs : Sm c ys) : (runU c bk fw ys).length ≤ 1600 := by
 unfold runU
 split
 ·rename_i h
  obtain ⟨h1, _⟩ := mx_of hs h
  have := run_len h1.b h1.w ys.length
  have := h1.n
  omega
 simp
theorem runR_len : (runR c bk fw ys).length ≤ ys.length := by
 unfold runR
 split
 ·rw [rows_len]; exact Nat.le_refl _
 simp
theorem runU_ok (hs : Sm c ys) : UsOk (runU c bk fw ys) := by
 unfold runU
 split
 ·rename_i h
  obtain ⟨h1, _⟩ := mx_of hs h
  exact UsOk.run h1 (Nat.le_refl _)
 exact fun u hu => by cases hu
def RwOk (rs : List Rw) : Prop := ∀ r ∈ rs, Sz 330 r.l ∧ Sz 330 r.m ∧ Sz 330 r.u ∧ Sz 330 r.t ∧ Sz 330 r.e ∧ Sz 330 r.c
theorem runR_ok (hs : Sm c ys) : RwOk (runR c bk fw ys) := by
 unfold runR
 split
 ·rename_i h
  obtain ⟨h1, _⟩ := mx_of hs h
  intro r hr
  unfold Mx.rows at hr
  obtain ⟨i, hi, rfl⟩ := List.mem_map.1 hr
  have hi := List.mem_range.1 hi
  exact row_sz h1 (h1.run (Nat.le_refl _)) hi (ex_sz h1 (Nat.le_refl _) hi) (cl_sz h1 hi)
 exact fun r hr => by cases hr
theorem Sm.app (h : Sm c ys) (h' : Sm c zs) (hl : ys.length + zs.length < 50) : Sm c (ys ++ zs) := ⟨h.c, fun y hy => by
 rcases List.mem_append.1 hy with hy | hy
 ·exact h.y y hy
 exact h'.y y hy, by rw [List.length_append]; exact hl⟩
theorem runs_more (hs : Sm c ys) (hs' : Sm c zs) (hl : ys.length + zs.length < 50) (h : mayE c bk fw (ys ++ zs) = 0) : mayE c bk fw ys = 0 ∧ ∃ V, runU c bk fw (ys ++ zs) = runU c bk fw ys ++ V ∧ ∀ u ∈ V, (ys.length : Int) ≤ u.v ∨ (ys.length : Int) ≤ u.y := by
 obtain ⟨h1, h2, h3⟩ := may_of h
 rw [List.length_append] at h3
 have h0 : mayE c bk fw ys = 0 := may_to h1 (fun y hy => h2 y (List.mem_append_left _ hy)) (by omega)
 refine ⟨h0, ?_⟩
 unfold runU
 rw [if_pos h, if_pos h0, List.length_append]
 obtain ⟨V, hV, hV2⟩ := run_more (M := mxOf c bk fw (ys ++ zs)) (n := ys.length) (k := zs.length)
 refine ⟨V, ?_, hV2⟩
 rw [hV]
 congr 1
 refine run_same (fun i hi => ?_) rfl rfl rfl
 have e : nthY (ys ++ zs) i = nthY ys i := by
  unfold nthY
  rw [List.getD_eq_getElem?_getD, List.getD_eq_getElem?_getD, List.getElem?_append_left hi]
 constructor
 ·show (nthY (ys ++ zs) i).1.q = _
  rw [e]
  rfl
 show (nthY (ys ++ zs) i).2.q = _
 rw [e]
 rfl
end
theorem m_RunG {c : Fr4} {bk fw : Int} {ys : List (Fr4 × Fr4)} (hs : Sm c ys) : Spec false Tryz.prog 10 [] [.agg ((c.tr false ++ [.v (.int .i64 bk), .v (.int .i64 fw)] : List Tr).map .t), .one (.t (sMy ys))] (Ret (.tup [.agg [.t (sRw true true (runR c bk fw ys)), .t (sUs true true (runU c bk fw ys))], .one (tv (.int .i64 (mayE c bk fw ys)))])) := by
 by_cases h : mayE c bk fw ys = 0
 ·obtain ⟨h1, e1, e2, e3, e4⟩ := mx_of hs h
  have h9 := m_Run h1 (by rw [← e1, ← e2, ← e3, ← e4]; exact h)
  rw [← e1, ← e2, ← e3, ← e4] at h9
  unfold runR runU
  rw [if_pos h, if_pos h, h]
  exact h9
 unfold runR runU
 rw [if_neg h, if_neg h]
 exact m_Run_no hs.c.1 (fun y hy => ⟨(hs.y y hy).1.1, (hs.y y hy).2.1⟩) hs.sz (by have := hs.l; omega) h
theorem rdL_app : ∀ a b : List AV, rdL (a ++ b) = (rdL a && rdL b)
 | [], b => by simp [rdL]
 | x :: a, b => by simp [rdL, rdL_app a b, Bool.and_assoc]
theorem loneL_app : ∀ a b : List AV, loneL (a ++ b) = (loneL a && loneL b)
 | [], b => by simp [loneL]
 | x :: a, b => by simp [loneL, loneL_app a b, Bool.and_assoc]
theorem rdL_flat {α : Type} {f : α → List Tr} (h : ∀ x, rdL ((f x).map .t) = true) : ∀ xs : List α, rdL ((xs.flatMap f).map .t) = true
 | [] => rfl
 | x :: xs => by rw [List.flatMap_cons, List.map_append, rdL_app, h, rdL_flat h xs]; rfl
theorem loneL_flat {α : Type} {f : α → List Tr} (h : ∀ x, loneL ((f x).map .t) = true) : ∀ xs : List α, loneL ((xs.flatMap f).map .t) = true
 | [] => rfl
 | x :: xs => by rw [List.flatMap_cons, List.map_append, loneL_app, h, loneL_flat h xs]; rfl
theorem rdL_my (ys : List (Fr4 × Fr4)) : rdL ((ys.flatMap ytr).map .t) = true := rdL_flat (fun _ => rfl) ys
theorem lone_my (ys : List (Fr4 × Fr4)) : loneL ((ys.flatMap ytr).map .t) = true := loneL_flat (fun _ => rfl) ys
theorem ofl {q : Rat} {L : Nat} (h : Sz L q) (hL : L ≤ 68719476736 := by omega) : (Fr4.of q).len 1099511627776 := ⟨Nat.le_trans h.1 (by omega), Nat.le_trans h.2 (by omega)⟩
theorem rd_mat (rs : List Rw) (us : List Us) : rdF (.agg [.t (.s false 66 24 rs.length (rs.flatMap (rtr true))), .t (.s false 46 14 us.length (us.flatMap (utr true)))]) = .agg [.t (sRw false false rs), .t (sUs false false us)] := by
 simp only [rdF, List.map_cons, List.map_nil, rdV, rdT, rd_rw, rd_us, sRw, sUs]
def sRr (o : Bool) (rs : List Rw) : Tr := .s o 68 24 rs.length (rs.flatMap (rtr false))
def sUr (o : Bool) (us : List Us) : Tr := .s o 51 14 us.length (us.flatMap (utr false))
theorem us_eq {a b : Us} : a = b ↔ a.v = b.v ∧ a.y = b.y ∧ Fr4.of a.n = Fr4.of b.n ∧ Fr4.of a.p = Fr4.of b.p ∧ Fr4.of a.q = Fr4.of b.q := by
 constructor
 ·rintro rfl; exact ⟨rfl, rfl, rfl, rfl, rfl⟩
 rintro ⟨h1, h2, h3, h4, h5⟩
 cases a
 cases b
 simp only [of_inj] at h1 h2 h3 h4 h5
 simp [h1, h2, h3, h4, h5]
theorem us_ext {a b : Us} : a = b ↔ a.v = b.v ∧ a.y = b.y ∧ a.n = b.n ∧ a.p = b.p ∧ a.q = b.q := by
 rw [us_eq, of_inj, of_inj, of_inj]
instance : DecidableEq Us := fun _ _ => decidable_of_iff _ us_ext.symm
theorem nthR_take {rs : List Rw} {k : Nat} (h : k < rs.length) : rs.take (k + 1) = rs.take k ++ [nthR rs k] := by
 have e : nthR rs k = rs[k] := by
  have := nthR_get h
  rw [List.getElem?_eq_getElem h] at this
  injection this with this
  exact this.symm
 rw [e, List.take_append_getElem]
theorem nthU_take {us : List Us} {k : Nat} (h : k < us.length) : us.take (k + 1) = us.take k ++ [nthU us k] := by
 have e : nthU us k = us[k] := by
  have := nthU_get h
  rw [List.getElem?_eq_getElem h] at this
  injection this with this
  exact this.symm
 rw [e, List.take_append_getElem]
theorem nthR_mem {rs : List Rw} {k : Nat} (h : k < rs.length) : nthR rs k ∈ rs := List.mem_of_getElem? (nthR_get h)
theorem nthU_app {us vs : List Us} {k : Nat} (h : k < us.length) : nthU (us ++ vs) k = nthU us k := by
 unfold nthU
 rw [List.getD_eq_getElem?_getD, List.getD_eq_getElem?_getD, List.getElem?_append_left h]
theorem nthU_behind {us vs : List Us} {k : Nat} (h : us.length ≤ k) (h2 : k < (us ++ vs).length) : nthU (us ++ vs) k ∈ vs := by
 unfold nthU
 rw [List.length_append] at h2
 rw [List.getD_eq_getElem?_getD, List.getElem?_append_right h, List.getElem?_eq_getElem (by omega)]
 exact List.getElem_mem _
def frs (l : List (Rat × Rat)) : List (Fr4 × Fr4) := l.map fun p => (Fr4.of p.1, Fr4.of p.2)
def mxQ (c : Rat) (b w : Nat) (l : List (Rat × Rat)) : Mx := ⟨fun y => (l.getD y (0, 0)).1, fun y => (l.getD y (0, 0)).2, c, b, w⟩
def mayQ (c : Rat) (b w : Nat) (l : List (Rat × Rat)) : Bool := decide (0 ≤ c) && decide (c ≤ 1) && decide (b ≤ 3) && decide (w ≤ 40) && decide (l.length ≤ 40) && l.all fun p => decide (0 ≤ p.2) && decide (p.2 ≤ c * abv p.1)
theorem nilF_q : nilF.q = 0 := by
 unfold Fr4.q nilF
 exact qin_wrong rfl
theorem mx_q (c : Rat) (b w : Nat) (l : List (Rat × Rat)) : mxOf (Fr4.of c) (b : Int) (w : Int) (frs l) = mxQ c b w l := by
 have h : ∀ y, nthY (frs l) y = if y < l.length then (Fr4.of (l.getD y (0, 0)).1, Fr4.of (l.getD y (0, 0)).2) else (nilF, nilF) := fun y => by
  unfold nthY frs
  by_cases hy : y < l.length
  ·rw [if_pos hy, List.getD_eq_getElem?_getD, List.getD_eq_getElem?_getD, List.getElem?_map, List.getElem?_eq_getElem hy]
   rfl
  rw [if_neg hy, List.getD_eq_getElem?_getD, List.getElem?_map, List.getElem?_eq_none (by omega)]
  rfl
 unfold mxOf mxQ
 rw [Fr4.q_of]
 congr 1
 ·funext y
  rw [h]
  split
  ·exact Fr4.q_of _
  rename_i hy
  rw [List.getD_eq_getElem?_getD, List.getElem?_eq_none (by omega)]
  exact nilF_q
 funext y
 rw [h]
 split
 ·exact Fr4.q_of _
 rename_i hy
 rw [List.getD_eq_getElem?_getD, List.getElem?_eq_none (by omega)]
 exact nilF_q
theorem may_q {c : Rat} {b w : Nat} {l : List (Rat × Rat)} (h : mayQ c b w l = true) : mayE (Fr4.of c) (b : Int) (w : Int) (frs l) = 0 := by
 unfold mayQ at h
 simp only [Bool.and_eq_true, decide_eq_true_eq, List.all_eq_true] at h
 obtain ⟨⟨⟨⟨⟨h1, h2⟩, h3⟩, h4⟩, h5⟩, h6⟩ := h
 have nn : ∀ {q : Rat}, 0 ≤ q → ¬ q.num.sign < 0 := fun {q} hq h9 => by
  have := (sgn_neg q).1 h9
  grind
 have ns : ∀ {p q : Rat}, p ≤ q → ¬ 0 < (p - q).num.sign := fun {p q} hq h9 => by
  have := (gt_sgn p q).1 h9
  grind
 have rt : ∀ q : Rat, rightQ (Fr4.of q).s (Fr4.of q).x (Fr4.of q).t (Fr4.of q).y = true := fun q => rightQ_dg q
 refine may_to ?_ (fun y hy => ?_) (by unfold frs; rw [List.length_map]; exact h5)
 ·unfold badR
  rw [rt, Fr4.q_of, decide_eq_false (nn h1), decide_eq_false (ns (q := ((1 : Int) : Rat)) h2), decide_eq_false (by omega), decide_eq_false (by omega), decide_eq_false (by omega), decide_eq_false (by omega)]
  rfl
 unfold frs at hy
 obtain ⟨p, hp, rfl⟩ := List.mem_map.1 hy
 obtain ⟨g1, g2⟩ := h6 p hp
 unfold badY
 dsimp only
 rw [rt, rt, Fr4.q_of, Fr4.q_of, Fr4.q_of, decide_eq_false (nn g1), decide_eq_false (ns g2)]
 rfl
theorem runU_q {c : Rat} {b w : Nat} {l : List (Rat × Rat)} (h : mayQ c b w l = true) : runU (Fr4.of c) (b : Int) (w : Int) (frs l) = (mxQ c b w l).run l.length := by
 unfold runU
 rw [if_pos (may_q h), mx_q]
 unfold frs
 rw [List.length_map]
theorem runR_q {c : Rat} {b w : Nat} {l : List (Rat × Rat)} (h : mayQ c b w l = true) : runR (Fr4.of c) (b : Int) (w : Int) (frs l) = (mxQ c b w l).rows ((mxQ c b w l).run l.length) ((mxQ c b w l).ex l.length) ((mxQ c b w l).cl l.length) l.length := by
 unfold runR
 rw [if_pos (may_q h), mx_q]
 unfold frs
 rw [List.length_map]
theorem frs_sm {c : Rat} {l : List (Rat × Rat)} (hc : Sz 4 c) (h : ∀ p ∈ l, Sz 4 p.1 ∧ Sz 4 p.2) (hl : l.length < 50) : Sm (Fr4.of c) (frs l) := by
 have key : ∀ {q : Rat}, Sz 4 q → (Fr4.of q).ok ∧ shortM (Fr4.of q) = true := fun {q} hq => by
  refine ⟨(Qn.of hq).1, ?_⟩
  have h1 := hq.1
  have h2 := hq.2
  unfold shortM Fr4.of
  simp only [Bool.and_eq_true, decide_eq_true_eq]
  omega
 refine ⟨key hc, fun y hy => ?_, by unfold frs; rw [List.length_map]; exact hl⟩
 unfold frs at hy
 obtain ⟨p, hp, rfl⟩ := List.mem_map.1 hy
 exact ⟨key (h p hp).1, key (h p hp).2⟩
theorem c_limbs {xs : List Nat} (hx : xs.length ≤ 1099511627776) : Spec true Tryz.prog 65 [] [.one (.t (sU false xs))] (Ret (.one (.t (sU true xs)))) := by
 refine fn0 Tryz.func65 rfl Tryz.ntmps65 rfl ttok rfl fun N w c0 h0 => ?_
 refine sq ?_; refine rl ?_; refine o1 ?_; refine nl ?_; refine sq ?_; refine rl ?_; refine o1 ?_; refine nl ?_; refine sq ?_; refine rl ?_; refine o1 ?_; refine o1 ?_
 refine w_app (j := 0) ttok rfl rfl rfl rfl .nil .fz (rd_u32 _) (lone_u32 _) rfl (by omega) (by omega) ?_
 refine o1 ?_; refine nl ?_; refine rt ?_
 exact en (.inl rfl) rfl (pk1 (.one (.sl rfl rfl (by rw [Nat.zero_add, Nat.mul_one, List.nil_append, List.take_of_length_le (by simp [u32T_len])]) (by simp [u32T_len])))) (by decide) (fun _ => .inl ⟨rfl, nofr_u32 xs⟩) (by simp [Ret, sU])
theorem c_row {xs ys : List Nat} (hx : xs.length ≤ 1099511627776) (hy : ys.length ≤ 1099511627776) : Spec true Tryz.prog 49 [] [.one (.t (sU false xs)), .one (.t (sU false ys))] (Ret (.one (tv (.bool (decide (xs = ys)))))) := by
 refine fn0 Tryz.func49 rfl Tryz.ntmps49 rfl ttok rfl fun N w c0 h0 => ?_
 refine sq ?_; refine rl ?_; refine o1 ?_; refine nl ?_; refine sq ?_; refine sq ?_; refine rl ?_; (iterate 5 refine o1 ?_); refine nl ?_; refine cdp rfl (fun h1 => ?_) (fun h1 => ?_)
 ·refine sq ?_; refine rl ?_; refine o1 ?_; refine nl ?_; refine rt ?_; refine en (.inl rfl) rfl (pk1 (pkv _)) (by decide) (fun _ => trivial) (congrArg (fun b => FV.one (tv (.bool b))) ?_)
  exact (decide_eq_false (fun h => h1 (by rw [h]))).symm
 refine sk ?_; refine sq ?_; refine sq ?_; refine rl ?_; refine o1 ?_; refine nl ?_; refine bl ?_
 refine lp (γ := Nat) (fun k => frL [(0, .one (.t (sU false xs))), (1, .one (.t (sU false ys))), (5, .one (tv (.int .i64 ((k : Nat) : Int))))]) (fun k => [].map some) (fun k => k ≤ xs.length ∧ xs.take k = ys.take k) (fun k => xs.length - k) 0 (⟨Nat.zero_le _, rfl⟩) (su0 h0 [] _ _ (by decide) ⟨rfl, rfl, rfl, trivial⟩ rfl) fun k hk => ?_
 refine sq ?_; refine sq ?_; refine rl ?_; (iterate 4 refine o1 ?_); refine nl ?_; refine cdp rfl (fun h2 => ?_) (fun h2 => ?_)
 ·refine sk ?_; refine sq ?_; refine bl ?_; refine sq ?_; refine rd [] (fun i => [].contains i) mixed ?_
  refine dv 0 ?_; refine dv 1 ?_; refine dv 2 ?_; refine dlr 3 ([.v (.int .u32 ((nth xs (k) : Nat) : Int))]) (u32_at xs (k := k) (by omega)) ?_
  refine dv 4 ?_; refine dv 5 ?_; refine dv 6 ?_; refine dlr 7 ([.v (.int .u32 ((nth ys (k) : Nat) : Int))]) (u32_at ys (k := k) (by omega)) ?_
  refine dv 8 ?_; refine dz0 ?_; refine cdp rfl (fun h3 => ?_) (fun h3 => ?_)
  ·refine sq ?_; refine rl ?_; refine o1 ?_; refine nl ?_; refine rt ?_; refine en (.inl rfl) rfl (pk1 (pkv _)) (by decide) (fun _ => trivial) (congrArg (fun b => FV.one (tv (.bool b))) ?_)
   exact (decide_eq_false (fun h => h3 (by rw [h]))).symm
  refine sk ?_; refine rl ?_; (iterate 3 refine o1 ?_); refine nl ?_
  exact ⟨k + 1, by omega, ⟨by omega, row_step hk.2 (by omega) (by omega) (by omega)⟩, su0 h0 [] _ _ (by decide) ⟨rfl, rfl, rfl, trivial⟩ rfl⟩
 refine ex ?_; refine sq ?_; refine rl ?_; refine o1 ?_; refine nl ?_; refine rt ?_
 refine en (.inl rfl) rfl (pk1 (pkv _)) (by decide) (fun _ => trivial) (congrArg (fun b => FV.one (tv (.bool b))) ?_)
 exact (decide_eq_true (by rw [← List.take_of_length_le (i := k) (l := xs) (by omega), hk.2, List.take_of_length_le (by omega)])).symm
theorem c_RefRat {a : Fr4} (ha : a.len 1099511627776) : Spec true Tryz.prog 28 [] [qF a] (Ret (rO a)) := by
 refine fn0 Tryz.func28 rfl Tryz.ntmps28 rfl ttok rfl fun N w c0 h0 => ?_
 refine sq ?_; refine rl ?_; refine bx 0 ?_; refine al 1 ?_; refine nl ?_; refine sq ?_; refine rd [0, 1] (fun i => [17].contains i) mixed ?_
 refine dv 0 ?_; refine dv 1 ?_; refine dld 2 ?_; refine dv 3 ?_; refine dv 4 ?_; refine dld 5 ?_; refine dv 8 ?_; refine dv 9 ?_; refine dld 10 ?_; refine dv 11 ?_; refine dv 12 ?_; refine dld 13 ?_
 refine dck 2 6 rfl (c_limbs ha.1) ok65 ⟨a1 rfl, rfl⟩ ?_; refine df 7 ?_; refine dck 3 14 rfl (c_limbs ha.2) ok65 ⟨a1 rfl, rfl⟩ ?_; refine df 15 ?_; refine df 16 ?_; refine dst 17 ?_; refine dz0 ?_
 refine rt ?_
 exact en (.inl rfl) rfl (pk1 (.agg (.cons (.id rfl) (.cons (.sl (trs := u32T a.x) rfl rfl (tk_u32 _) (ln_u32 _)) (.cons (.id rfl) (.cons (.sl (trs := u32T a.y) rfl rfl (tk_u32 _) (ln_u32 _)) .nil)))))) (by decide) (fun _ => nofr_r a) rfl
theorem c_OfRat {a : Fr4} (ha : a.len 1099511627776) : Spec true Tryz.prog 68 [] [qF a] (Ret (rO a)) := by
 refine fn0 Tryz.func68 rfl Tryz.ntmps68 rfl ttok rfl fun N w c0 h0 => ?_
 refine sq ?_; refine rl ?_; refine bx 0 ?_; refine al 1 ?_; refine nl ?_; refine sq ?_; refine rd [0, 1] (fun i => [17].contains i) mixed ?_
 refine dv 0 ?_; refine dv 1 ?_; refine dld 2 ?_; refine dv 3 ?_; refine dv 4 ?_; refine dld 5 ?_; refine dv 8 ?_; refine dv 9 ?_; refine dld 10 ?_; refine dv 11 ?_; refine dv 12 ?_; refine dld 13 ?_
 refine dck 2 6 rfl (c_limbs ha.1) ok65 ⟨a1 rfl, rfl⟩ ?_; refine df 7 ?_; refine dck 3 14 rfl (c_limbs ha.2) ok65 ⟨a1 rfl, rfl⟩ ?_; refine df 15 ?_; refine df 16 ?_; refine dst 17 ?_; refine dz0 ?_
 refine rt ?_
 exact en (.inl rfl) rfl (pk1 (.agg (.cons (.id rfl) (.cons (.sl (trs := u32T a.x) rfl rfl (tk_u32 _) (ln_u32 _)) (.cons (.id rfl) (.cons (.sl (trs := u32T a.y) rfl rfl (tk_u32 _) (ln_u32 _)) .nil)))))) (by decide) (fun _ => nofr_r a) rfl
theorem c_IsRat {a b : Fr4} (ha : a.len 1099511627776) (hb : b.len 1099511627776) : Spec true Tryz.prog 17 [] [qF a, qF b] (Ret (.one (tv (.bool (decide (a = b)))))) := by
 refine fn0 Tryz.func17 rfl Tryz.ntmps17 rfl ttok rfl fun N w c0 h0 => ?_
 refine sq ?_; refine rl ?_; refine bx 0 ?_; refine bx 1 ?_; refine o1 ?_; refine nl ?_; refine sq ?_; refine rl ?_; refine o1 ?_; refine o1 ?_; refine ld ?_; refine o1 ?_; refine o1 ?_; refine ld ?_
 refine o1 ?_; refine o1 ?_; refine WL.splitb (t := 12) rfl (fun h1 => ?_) (fun h1 => ?_)
 ·refine o1 ?_; refine o1 ?_; refine ld ?_; refine o1 ?_; refine o1 ?_; refine ld ?_; (iterate 3 refine o1 ?_); refine WL.splitb (t := 21) rfl (fun h2 => ?_) (fun h2 => ?_)
  ·refine o1 ?_; refine o1 ?_; refine ld ?_; refine o1 ?_; refine o1 ?_; refine ld ?_; refine ca (c_row ha.1 hb.1) ok49 ⟨a1 rfl, a1 rfl, rfl⟩ (.one (tv (.bool (decide (a.x = b.x))))) ?_
   refine o1 ?_; refine o1 ?_; refine WL.split (t := 30) rfl (fun h3 => ?_) (fun h3 => ?_)
   ·refine o1 ?_; refine o1 ?_; refine ld ?_; refine o1 ?_; refine o1 ?_; refine ld ?_; refine ca (c_row ha.2 hb.2) ok49 ⟨a1 rfl, a1 rfl, rfl⟩ (.one (tv (.bool (decide (a.y = b.y))))) ?_
    refine o1 ?_; refine o1 ?_; refine nl ?_; refine rt ?_; exact en (.inl rfl) rfl (pk1 (pkv _)) (by decide) (fun _ => trivial) (congrArg (fun b => FV.one (tv (.bool b))) (by simp_all [fr4_eq]))
   (iterate 7 refine no_ ?_); refine o1 ?_; refine o1 ?_; refine nl ?_; refine rt ?_
   exact en (.inl rfl) rfl (pk1 (pkv _)) (by decide) (fun _ => trivial) (congrArg (fun b => FV.one (tv (.bool b))) (by simp_all [fr4_eq]))
  (iterate 7 refine no_ ?_); refine o1 ?_; refine o1 ?_; (iterate 7 refine no_ ?_); refine o1 ?_; refine o1 ?_; refine nl ?_; refine rt ?_
  exact en (.inl rfl) rfl (pk1 (pkv _)) (by decide) (fun _ => trivial) (congrArg (fun b => FV.one (tv (.bool b))) (by simp_all [fr4_eq]))
 (iterate 7 refine no_ ?_); refine o1 ?_; refine o1 ?_; (iterate 7 refine no_ ?_); refine o1 ?_; refine o1 ?_; (iterate 7 refine no_ ?_); refine o1 ?_; refine o1 ?_; refine nl ?_; refine rt ?_
 exact en (.inl rfl) rfl (pk1 (pkv _)) (by decide) (fun _ => trivial) (congrArg (fun b => FV.one (tv (.bool b))) (by simp_all [fr4_eq]))
theorem c_cut1 {xs : List Nat} (hx : xs.length ≤ 4398046511104) : Spec false Tryz.prog 181 [] [.one (.t (sI false xs))] (Ret (.one (.t (sI false (trim xs))))) := by
 refine fn0 Tryz.func181 rfl Tryz.ntmps181 rfl ttok rfl fun N w c0 h0 => ?_
 refine sq ?_; refine rl ?_; refine o1 ?_; refine nl ?_; refine sq ?_; refine bl ?_
 refine lp (γ := List Nat) (fun zs => frL [(0, .one (.t (sI false zs)))]) (fun _ => ([] : List Ob).map some) (fun zs => trim zs = trim xs ∧ zs.length ≤ xs.length) (fun zs => zs.length) xs ⟨rfl, Nat.le_refl _⟩ (su0 h0 [] _ _ (by decide) ⟨rfl, trivial⟩ rfl) fun zs hz => ?_
 refine sq ?_; refine sq ?_; refine rl ?_; (iterate 4 refine o1 ?_); refine WL.split (t := 6) rfl (fun h1 => ?_) (fun h1 => ?_)
 ·(iterate 4 refine o1 ?_); refine WL.cast (t := 10) (u' := .int .i64 ((zs.length - 1 : Nat) : Int)) rfl (cint (by omega)) ?_
  refine o1 ?_; refine ldf ([.v (.int .i64 ((nth zs (zs.length - 1) : Nat) : Int))]) (i64_at zs (k := zs.length - 1) (by omega)) ?_
  refine o1 ?_; refine o1 ?_; refine nl ?_; refine cdp rfl (fun h2 => ?_) (fun h2 => ?_)
  ·refine sk ?_; refine bl ?_; refine rl ?_; (iterate 4 refine o1 ?_); refine WL.cast (t := 18) (u' := .int .i64 ((zs.length - 1 : Nat) : Int)) rfl (cint (by omega)) ?_
   refine o1 ?_; refine o1 ?_; refine nl ?_
   exact ⟨zs.take (zs.length - 1), by rw [List.length_take]; omega, ⟨(by rw [trim_less (xs := zs) (k := zs.length) (by omega) (Nat.le_refl _) (by omega), List.take_length]; exact hz.1), by rw [List.length_take]; omega⟩, su0 h0 [] _ _ (by decide) ⟨congrArg some (sI_cut (by omega)).symm, trivial⟩ rfl⟩
  refine ex ?_; refine sq ?_; refine rl ?_; refine o1 ?_; refine o1 ?_; refine nl ?_; refine rt ?_; refine en (.inl rfl) rfl (pk1 (.one (.id rfl))) (by decide) (fun h => by cases h) ?_
  have hx : trim xs = zs := by
   rw [← hz.1]; have h9 := trim_stop (xs := zs) (k := zs.length) (by omega) (Nat.le_refl _) (by omega)
   rwa [List.take_length] at h9
  rw [hx]; rfl
 (iterate 7 refine no_ ?_); refine o1 ?_; refine nl ?_; refine cdf rfl ?_; refine ex ?_; refine sq ?_; refine rl ?_; refine o1 ?_; refine o1 ?_; refine nl ?_; refine rt ?_
 refine en (.inl rfl) rfl (pk1 (.one (.id rfl))) (by decide) (fun h => by cases h) ?_
 have hx : trim xs = zs := by
  have h9 : zs = [] := List.eq_nil_of_length_eq_zero (by omega)
  rw [← hz.1, h9]; rfl
 rw [hx]; rfl
theorem c_halves1 {xs : List Nat} (hx : xs.length ≤ 1099511627776) (hl : Lim 4294967296 xs) : Spec false Tryz.prog 169 [] [.one (.t (sU false xs))] (Ret (.one (.t (sI false (dg 65536 (vl 4294967296 xs)))))) := by
 refine fn0 Tryz.func169 rfl Tryz.ntmps169 rfl ttok rfl fun N w c0 h0 => ?_
 refine sq ?_; refine rl ?_; refine o1 ?_; refine nl ?_; refine sq ?_; refine rl ?_; refine o1 ?_; refine nl ?_; refine sq ?_; refine sq ?_; refine rl ?_; refine o1 ?_; refine nl ?_; refine bl ?_
 refine lp (γ := Nat) (fun k => frL [(0, .one (.t (sU false xs))), (3, .one (.sl 0 0 (2 * k))), (4, .one (tv (.int .i64 ((k : Nat) : Int))))]) (fun k => [(⟨3, 1, (i64T (hv (xs.take k))).map .t⟩ : Ob)].map some) (fun k => k ≤ xs.length) (fun k => xs.length - k) 0 (Nat.zero_le _) ((nr (i := 3) 0 3 1 rfl rfl rfl rfl).trans (su0 h0 [0] _ _ (by decide) ⟨rfl, rfl, rfl, trivial⟩ ⟨oet (l := []) rfl, rfl⟩)) fun k hk => ?_
 have hn := hl.nth (by omega) k
 refine sq ?_; refine sq ?_; refine rl ?_; (iterate 4 refine o1 ?_); refine nl ?_; refine cdp rfl (fun h1 => ?_) (fun h1 => ?_)
 ·refine sk ?_; refine sq ?_; refine bl ?_; refine rd [] (fun i => [15].contains i) mixed ?_
  refine dv 0 ?_; refine dv 1 ?_; refine dv 2 ?_; refine dv 3 ?_; refine dlr 4 ([.v (.int .u32 ((nth xs (k) : Nat) : Int))]) (u32_at xs (k := k) (by omega)) ?_
  refine dv 5 ?_; refine WD.cast (t := 16) (u' := .int .u32 ((nth xs k % 65536 : Nat) : Int)) rfl (cint (rem_nat _ 65536)) ?_; refine dv 6 ?_; refine dv 7 ?_; refine dv 8 ?_; refine dv 9 ?_
  refine dlr 10 ([.v (.int .u32 ((nth xs (k) : Nat) : Int))]) (u32_at xs (k := k) (by omega)) ?_
  refine dv 11 ?_ (hC := (quo_in 65536 (by omega) (by simp only [InR]; omega)))
  refine WD.cast (t := 22) (u' := .int .u32 ((nth xs k / 65536 : Nat) : Int)) rfl (cint (quo_nat _ 65536)) ?_; refine dv 12 ?_; refine d_bs (key := 1) 13 (by kernel_rfl) rfl rfl ttok rfl trivial ?_
  refine d_app (j := 2) 14 rfl ttok rfl rfl rfl (.sl rfl (by rw [List.length_map, i64T_len, hv_len, List.length_take]; omega)) (.sl rfl rfl rfl) rfl rfl (by omega) (by omega) rfl rfl (by kernel_rfl) rfl ?_
  refine d_v 15 (by kernel_rfl) rfl rfl ttok rfl (by trivial) ?_ (fun h => by first | rfl | cases h)
  refine dz0 ?_; refine rl ?_; (iterate 3 refine o1 ?_); refine nl ?_
  exact ⟨k + 1, by omega, by omega, su0 h0 [2] _ _ (by decide) ⟨rfl, rfl, rfl, trivial⟩ ⟨oeI rfl (i64T_app _ [nth xs k % 65536, nth xs k / 65536]) (hv_take (by omega)).symm, rfl⟩⟩
 refine ex ?_; refine sq ?_; refine rl ?_; refine WL.sub (fzI (i := 3) (zs' := hv xs) rfl rfl rfl (by rw [hv_len, List.length_take]; omega) (by rw [List.take_of_length_le (by omega)])) ?_
 refine o1 ?_; refine ca (c_cut1 (by rw [hv_len]; omega)) ok181 ⟨a1 rfl, rfl⟩ (.one (.t (sI false (trim (hv xs))))) ?_
 refine o1 ?_; refine nl ?_; refine rt ?_; exact en (.inl rfl) rfl (pk1 (.one (.id rfl))) (by decide) (fun h => by cases h) (by rw [hv_dg hl]; rfl)
theorem c_limbs1 {xs : List Nat} (hx : xs.length ≤ 4398046511104) (hl : Lim 65536 xs) : Spec true Tryz.prog 171 [] [.one (.t (sI false xs))] (Ret (.one (.t (sU true (dg 4294967296 (vl 65536 xs)))))) := by
 refine fn0 Tryz.func171 rfl Tryz.ntmps171 rfl ttok rfl fun N w c0 h0 => ?_
 refine sq ?_; refine rl ?_; refine o1 ?_; refine nl ?_; refine sq ?_; refine rl ?_; refine o1 ?_; refine nl ?_; refine sq ?_; refine rl ?_; refine o1 ?_
 refine ca (c_cut1 hx) ok181 ⟨a1 rfl, rfl⟩ (.one (.t (sI false (trim xs)))) ?_; refine o1 ?_; refine nl ?_; refine sq ?_; refine sq ?_; have htl := trim_length xs
 have hlt := hl.trim
 generalize hY : trim xs = ys at htl hlt; refine rl ?_; refine o1 ?_; refine nl ?_; refine bl ?_
 refine lp (γ := Nat) (fun k => frL [(0, .one (.t (sI false ys))), (3, .one (.sl 0 0 k)), (4, .one (tv (.int .i64 ((2 * k : Nat) : Int))))]) (fun k => [(⟨109, 1, (u32T (lb (ys.take (2 * k)))).map .t⟩ : Ob)].map some) (fun k => 2 * k ≤ ys.length + 1) (fun k => ys.length + 1 - 2 * k) 0 (Nat.zero_le _) ((nr (i := 3) 0 109 1 rfl rfl rfl rfl).trans (su0 h0 [0] _ _ (by decide) ⟨rfl, rfl, rfl, trivial⟩ ⟨oet (l := []) rfl, rfl⟩)) fun k hk => ?_
 have hn := hlt.nth (by omega) (2 * k)
 have hn2 := hlt.nth (by omega) (2 * k + 1)
 refine sq ?_; refine sq ?_; refine rl ?_; (iterate 4 refine o1 ?_); refine nl ?_; refine cdp rfl (fun h1 => ?_) (fun h1 => ?_)
 ·refine sk ?_; refine sq ?_; refine bl ?_; refine sq ?_; refine rl ?_; refine o1 ?_; refine nl ?_; refine sq ?_; refine sq ?_; refine rl ?_; refine o1 ?_; refine o1 ?_
  refine WL.cast (t := 15) (u' := .int .i64 ((2 * k + 1 : Nat) : Int)) rfl (cint (by omega)) ?_
  (iterate 3 refine o1 ?_); refine nl ?_; refine cdp rfl (fun h2 => ?_) (fun h2 => ?_)
  ·refine rl ?_; (iterate 3 refine o1 ?_); refine WL.cast (t := 21) (u' := .int .i64 ((2 * k + 1 : Nat) : Int)) rfl (cint (by omega)) ?_
   refine o1 ?_; refine ldf ([.v (.int .i64 ((nth ys (2 * k + 1) : Nat) : Int))]) (i64_at ys (k := 2 * k + 1) (by omega)) ?_
   refine o1 ?_; refine nl ?_; refine rl ?_; (iterate 4 refine o1 ?_); refine ldf ([.v (.int .i64 ((nth ys (2 * k) : Nat) : Int))]) (i64_at ys (k := 2 * k) (by omega)) ?_
   (iterate 5 refine o1 ?_); refine WL.cast (t := 33) (u' := .int .u32 ((nth ys (2 * k) + 65536 * nth ys (2 * k + 1) : Nat) : Int)) rfl (cint (by omega)) ?_
   refine bs 1 ?_; refine w_app (j := 2) ttok rfl rfl rfl rfl (.sl rfl (by rw [List.length_map, u32T_len, lb_len, List.length_take]; omega)) (.sl rfl rfl rfl) rfl rfl rfl (by omega) (by omega) ?_
   refine o1 ?_; refine nl ?_; refine rl ?_; (iterate 3 refine o1 ?_); refine nl ?_
   exact ⟨k + 1, by omega, by omega, su0 h0 [2] _ _ (by decide) ⟨rfl, rfl, rfl, trivial⟩ ⟨oeU rfl (u32T_app _ [nth ys (2 * k) + 65536 * nth ys (2 * k + 1)]) (lb_take (by omega)).symm, rfl⟩⟩
  have hz := nth_out (l := ys) (k := 2 * k + 1) (by omega)
  refine sk ?_; refine rl ?_; (iterate 4 refine o1 ?_); refine ldf ([.v (.int .i64 ((nth ys (2 * k) : Nat) : Int))]) (i64_at ys (k := 2 * k) (by omega)) ?_
  (iterate 5 refine o1 ?_); refine WL.cast (t := 33) (u' := .int .u32 ((nth ys (2 * k) + 65536 * nth ys (2 * k + 1) : Nat) : Int)) rfl (cint (by omega)) ?_
  refine bs 1 ?_; refine w_app (j := 2) ttok rfl rfl rfl rfl (.sl rfl (by rw [List.length_map, u32T_len, lb_len, List.length_take]; omega)) (.sl rfl rfl rfl) rfl rfl rfl (by omega) (by omega) ?_
  refine o1 ?_; refine nl ?_; refine rl ?_; (iterate 3 refine o1 ?_); refine nl ?_
  exact ⟨k + 1, by omega, by omega, su0 h0 [2] _ _ (by decide) ⟨rfl, rfl, rfl, trivial⟩ ⟨oeU rfl (u32T_app _ [nth ys (2 * k) + 65536 * nth ys (2 * k + 1)]) (lb_take (by omega)).symm, rfl⟩⟩
 refine ex ?_; refine sq ?_; refine rl ?_; refine o1 ?_; refine o1 ?_; refine nl ?_; refine rt ?_
 exact en (.inl rfl) rfl (pk1 (.one (.sl (trs := u32T (lb ys)) rfl rfl (by rw [List.take_of_length_le (l := ys) (by omega), List.take_of_length_le (by simp [u32T_len, lb_len]; omega)]) (by rw [u32T_len, lb_len]; omega)))) (by decide) (fun _ => .inl ⟨rfl, nofr_u32 _⟩) (by rw [← lb_dg, dg_vl (by omega) hl, hY]; unfold sU; rw [show k = (lb ys).length by rw [lb_len]; omega]; rfl)
theorem c_at1 {xs : List Nat} {k : Nat} : Spec true Tryz.prog 170 [] [.one (.t (sI false xs)), .one (tv (.int .i64 ((k : Nat) : Int)))] (Ret (.one (tv (.int .i64 ((nth xs k : Nat) : Int))))) := by
 refine fn0 Tryz.func170 rfl Tryz.ntmps170 rfl ttok rfl fun N w c0 h0 => ?_
 refine sq ?_; refine rl ?_; refine o1 ?_; refine nl ?_; refine sq ?_; refine sq ?_; refine rl ?_; (iterate 4 refine o1 ?_); refine nl ?_; refine cdp rfl (fun h1 => ?_) (fun h1 => ?_)
 ·refine sq ?_; refine rl ?_; (iterate 3 refine o1 ?_); refine ldf ([.v (.int .i64 ((nth xs (k) : Nat) : Int))]) (i64_at xs (k := k) (by omega)) ?_
  refine o1 ?_; refine nl ?_; refine rt ?_; refine en (.inl rfl) rfl (pk1 (pkv _)) (by decide) (fun _ => trivial) ?_
  rfl
 refine sk ?_; refine sq ?_; refine rl ?_; refine o1 ?_; refine nl ?_; refine rt ?_; refine en (.inl rfl) rfl (pk1 (pkv _)) (by decide) (fun _ => trivial) ?_
 rw [nth_out (by omega)]; rfl
theorem c_Trim1 {xs : List Nat} (hx : xs.length ≤ 1099511627776) (hlx : Lim 4294967296 xs) : Spec true Tryz.prog 147 [] [.one (.t (sU false xs))] (Ret (.one (.t (sU true (dg 4294967296 (vl 4294967296 xs)))))) := by
 refine fn0 Tryz.func147 rfl Tryz.ntmps147 rfl ttok rfl fun N w c0 h0 => ?_
 have hd := dg_half_len (v := vl 4294967296 xs) (L := xs.length) (by rw [dg_vl (by omega) hlx]; exact trim_length _)
 have hl9 := Lim_dg (B := 65536) (by omega) (vl 4294967296 xs)
 refine sq ?_; refine rl ?_; refine o1 ?_; refine nl ?_; refine sq ?_; refine rl ?_; refine o1 ?_
 refine ca (c_halves1 hx hlx) ok169 ⟨a1 rfl, rfl⟩ (.one (.t (sI false (dg 65536 (vl 4294967296 xs))))) ?_; refine cak 0 (c_limbs1 (by omega) (by assumption)) ok171 ⟨a1 rfl, rfl⟩ ?_
 refine o1 ?_; refine nl ?_; refine rt ?_
 exact en (.inl rfl) rfl (pk1 (.one (.sl (trs := u32T (dg 4294967296 (vl 65536 (dg 65536 (vl 4294967296 xs))))) rfl rfl (tk_u32 _) (ln_u32 _)))) (by decide) (fun _ => .inl ⟨rfl, nofr_u32 _⟩) (by rw [vl_dg (by omega)]; rfl)
theorem c_Cmp1 {xs ys : List Nat} (hx : xs.length ≤ 1099511627776) (hlx : Lim 4294967296 xs) (hy : ys.length ≤ 1099511627776) (hly : Lim 4294967296 ys) : Spec true Tryz.prog 167 [] [.one (.t (sU false xs)), .one (.t (sU false ys))] (Ret (.one (tv (.int .i64 (((vl 4294967296 xs : Nat) : Int) - ((vl 4294967296 ys : Nat) : Int)).sign)))) := by
 refine fn0 Tryz.func167 rfl Tryz.ntmps167 rfl ttok rfl fun N w c0 h0 => ?_
 refine sq ?_; refine rl ?_; refine o1 ?_; refine nl ?_; refine sq ?_; refine rl ?_; refine o1 ?_
 refine ca (c_halves1 hx hlx) ok169 ⟨a1 rfl, rfl⟩ (.one (.t (sI false (dg 65536 (vl 4294967296 xs))))) ?_; refine o1 ?_
 refine ca (c_halves1 hy hly) ok169 ⟨a1 rfl, rfl⟩ (.one (.t (sI false (dg 65536 (vl 4294967296 ys))))) ?_; refine o1 ?_; refine o1 ?_; refine nl ?_; refine sq ?_; refine sq ?_
 have hdx := dg_half_len (v := vl 4294967296 xs) (L := xs.length) (by rw [dg_vl (by omega) hlx]; exact trim_length _)
 have hdy := dg_half_len (v := vl 4294967296 ys) (L := ys.length) (by rw [dg_vl (by omega) hly]; exact trim_length _)
 have hX := Lim_dg (B := 65536) (by omega) (vl 4294967296 xs)
 have hY := Lim_dg (B := 65536) (by omega) (vl 4294967296 ys)
 have hvX := vl_dg (B := 65536) (by omega) (vl 4294967296 xs)
 have hvY := vl_dg (B := 65536) (by omega) (vl 4294967296 ys)
 generalize dg 65536 (vl 4294967296 xs) = X at hdx hX hvX ⊢; generalize dg 65536 (vl 4294967296 ys) = Y at hdy hY hvY ⊢; refine rl ?_; (iterate 5 refine o1 ?_)
 refine WL.cast (t := 16) (u' := .int .i64 ((max X.length Y.length : Nat) : Int)) rfl (cint (by omega)) ?_
 refine o1 ?_; refine o1 ?_; refine nl ?_; refine bl ?_
 refine lp (γ := Nat) (fun k => frL [(5, .one (.t (sI false X))), (6, .one (.t (sI false Y))), (7, .one (tv (.int .i64 ((k : Nat) - 1))))]) (fun k => ([] : List Ob).map some) (fun k => (∀ j, k ≤ j → nth X j = nth Y j) ∧ k ≤ max X.length Y.length) (fun k => k) (max X.length Y.length) ⟨fun j hj => by rw [nth_out (by omega), nth_out (by omega)], Nat.le_refl _⟩ (su0 h0 [] _ _ (by decide) ⟨rfl, rfl, rfl, trivial⟩ rfl) fun k hk => ?_
 refine sq ?_; refine sq ?_; refine rl ?_; refine o1 ?_; refine o1 ?_; refine nl ?_; refine cdp rfl (fun h1 => ?_) (fun h1 => ?_)
 ·refine sk ?_; refine sq ?_; refine bl ?_; refine sq ?_; refine sq ?_; refine rl ?_; refine o1 ?_; refine o1 ?_
  refine WL.cast (t := 23) (u' := .int .i64 ((k - 1 : Nat) : Int)) rfl (cint (by omega)) ?_
  refine ca (c_at1) ok170 ⟨a1 rfl, a1 rfl, rfl⟩ (.one (tv (.int .i64 ((nth X (k - 1) : Nat) : Int)))) ?_; refine o1 ?_; refine o1 ?_
  refine WL.cast (t := 26) (u' := .int .i64 ((k - 1 : Nat) : Int)) rfl (cint (by omega)) ?_
  refine ca (c_at1) ok170 ⟨a1 rfl, a1 rfl, rfl⟩ (.one (tv (.int .i64 ((nth Y (k - 1) : Nat) : Int)))) ?_; refine o1 ?_; refine nl ?_; refine cdp rfl (fun h2 => ?_) (fun h2 => ?_)
  ·refine sq ?_; refine rl ?_; refine o1 ?_; refine nl ?_; refine rt ?_; refine en (.inl rfl) rfl (pk1 (pkv _)) (by decide) (fun _ => trivial) (congrArg (fun z => FV.one (tv (.int .i64 z))) ?_)
   have he := lt_at (X := X) (Y := Y) (k := k - 1) hX (fun j hj => hk.1 j (by omega)) (by omega)
   rw [hvX, hvY] at he; rw [Int.sign_eq_neg_one_of_neg (by omega)]
  refine sk ?_; refine sq ?_; refine rl ?_; refine o1 ?_; refine o1 ?_; refine WL.cast (t := 30) (u' := .int .i64 ((k - 1 : Nat) : Int)) rfl (cint (by omega)) ?_
  refine ca (c_at1) ok170 ⟨a1 rfl, a1 rfl, rfl⟩ (.one (tv (.int .i64 ((nth X (k - 1) : Nat) : Int)))) ?_; refine o1 ?_; refine o1 ?_
  refine WL.cast (t := 33) (u' := .int .i64 ((k - 1 : Nat) : Int)) rfl (cint (by omega)) ?_
  refine ca (c_at1) ok170 ⟨a1 rfl, a1 rfl, rfl⟩ (.one (tv (.int .i64 ((nth Y (k - 1) : Nat) : Int)))) ?_; refine o1 ?_; refine nl ?_; refine cdp rfl (fun h3 => ?_) (fun h3 => ?_)
  ·refine sq ?_; refine rl ?_; refine o1 ?_; refine nl ?_; refine rt ?_; refine en (.inl rfl) rfl (pk1 (pkv _)) (by decide) (fun _ => trivial) (congrArg (fun z => FV.one (tv (.int .i64 z))) ?_)
   have he := lt_at (X := Y) (Y := X) (k := k - 1) hY (fun j hj => (hk.1 j (by omega)).symm) (by omega)
   rw [hvX, hvY] at he; rw [Int.sign_eq_one_of_pos (by omega)]
  refine sk ?_; refine rl ?_; (iterate 3 refine o1 ?_); refine nl ?_
  exact ⟨k - 1, by omega, ⟨fun j hj => (Nat.eq_or_lt_of_le hj).elim (fun h9 => by rw [← h9]; omega) (fun h9 => hk.1 j (by omega)), by omega⟩, su0 h0 [] _ _ (by decide) ⟨rfl, rfl, congrArg (fun z => some (FV.one (tv (.int .i64 z)))) (by omega), trivial⟩ rfl⟩
 refine ex ?_; refine sq ?_; refine rl ?_; refine o1 ?_; refine nl ?_; refine rt ?_
 refine en (.inl rfl) rfl (pk1 (pkv _)) (by decide) (fun _ => trivial) (congrArg (fun z => FV.one (tv (.int .i64 z))) ?_)
 have he := eq_all (fun j => hk.1 j (by omega))
 rw [hvX, hvY] at he; rw [he, Int.sub_self]; rfl
theorem c_Add1 {xs ys : List Nat} (hx : xs.length ≤ 1099511627776) (hlx : Lim 4294967296 xs) (hy : ys.length ≤ 1099511627776) (hly : Lim 4294967296 ys) : Spec true Tryz.prog 139 [] [.one (.t (sU false xs)), .one (.t (sU false ys))] (Ret (.one (.t (sU true (dg 4294967296 (vl 4294967296 xs + vl 4294967296 ys)))))) := by
 refine fn0 Tryz.func139 rfl Tryz.ntmps139 rfl ttok rfl fun N w c0 h0 => ?_
 refine sq ?_; refine rl ?_; refine o1 ?_; refine nl ?_; refine sq ?_; refine rl ?_; refine o1 ?_
 refine ca (c_halves1 hx hlx) ok169 ⟨a1 rfl, rfl⟩ (.one (.t (sI false (dg 65536 (vl 4294967296 xs))))) ?_; refine o1 ?_
 refine ca (c_halves1 hy hly) ok169 ⟨a1 rfl, rfl⟩ (.one (.t (sI false (dg 65536 (vl 4294967296 ys))))) ?_; refine o1 ?_; refine o1 ?_; refine nl ?_; refine sq ?_
 have hdx := dg_half_len (v := vl 4294967296 xs) (L := xs.length) (by rw [dg_vl (by omega) hlx]; exact trim_length _)
 have hdy := dg_half_len (v := vl 4294967296 ys) (L := ys.length) (by rw [dg_vl (by omega) hly]; exact trim_length _)
 have hX := Lim_dg (B := 65536) (by omega) (vl 4294967296 xs)
 have hY := Lim_dg (B := 65536) (by omega) (vl 4294967296 ys)
 have hvX := vl_dg (B := 65536) (by omega) (vl 4294967296 xs)
 have hvY := vl_dg (B := 65536) (by omega) (vl 4294967296 ys)
 generalize dg 65536 (vl 4294967296 xs) = X at hdx hX hvX ⊢; generalize dg 65536 (vl 4294967296 ys) = Y at hdy hY hvY ⊢; refine rl ?_; refine o1 ?_; refine nl ?_; refine sq ?_; refine rl ?_
 refine o1 ?_; refine nl ?_; refine sq ?_; refine sq ?_; refine rl ?_; refine o1 ?_; refine nl ?_; refine bl ?_
 refine lp (γ := Nat × Nat × List Nat) (fun s => frL [(5, .one (.t (sI false X))), (6, .one (.t (sI false Y))), (7, .one (.sl 0 0 s.1)), (8, .one (tv (.int .i64 ((s.2.1 : Nat) : Int)))), (9, .one (tv (.int .i64 ((s.1 : Nat) : Int))))]) (fun s => [(⟨3, 1, (i64T s.2.2).map .t⟩ : Ob)].map some) (fun s => s.2.2.length = s.1 ∧ Lim 65536 s.2.2 ∧ vl 65536 s.2.2 + 65536 ^ s.1 * s.2.1 = vl 65536 (X.take s.1) + vl 65536 (Y.take s.1) ∧ s.2.1 ≤ 1 ∧ (s.1 ≤ max X.length Y.length ∨ s.1 = max X.length Y.length + 1 ∧ s.2.1 = 0)) (fun s => max X.length Y.length + 1 - s.1) (0, 0, []) ⟨rfl, Lim.nil, rfl, Nat.zero_le _, .inl (Nat.zero_le _)⟩ ((nr (i := 7) 0 3 1 rfl rfl rfl rfl).trans (su0 h0 [0] _ _ (by decide) ⟨rfl, rfl, rfl, rfl, rfl, trivial⟩ ⟨oet (l := []) rfl, rfl⟩)) ?_
 rintro ⟨k, cr, os⟩ ⟨hos, hol, hv, hc1, hkm⟩; dsimp only at hos hol hv hc1 hkm ⊢; have hn1 := hX.nth (by omega) k
 have hn2 := hY.nth (by omega) k
 refine sq ?_; refine sq ?_; refine rl ?_; (iterate 6 refine o1 ?_); refine WL.cast (t := 20) (u' := .int .i64 ((max X.length Y.length : Nat) : Int)) rfl (cint (by omega)) ?_
 refine o1 ?_; refine o1 ?_; refine WL.split (t := 22) rfl (fun h1 => ?_) (fun h1 => ?_)
 ·refine no_ ?_; refine no_ ?_; refine o1 ?_; refine nl ?_; refine cdt rfl ?_; refine sk ?_; refine sq ?_; refine bl ?_; refine sq ?_; refine rl ?_; refine o1 ?_; refine o1 ?_
  refine ca (c_at1) ok170 ⟨a1 rfl, a1 rfl, rfl⟩ (.one (tv (.int .i64 ((nth X (k) : Nat) : Int)))) ?_; refine o1 ?_; refine o1 ?_
  refine ca (c_at1) ok170 ⟨a1 rfl, a1 rfl, rfl⟩ (.one (tv (.int .i64 ((nth Y (k) : Nat) : Int)))) ?_; (iterate 3 refine o1 ?_)
  refine WL.cast (t := 36) (u' := .int .i64 ((nth X k + nth Y k + cr : Nat) : Int)) rfl (cint (by omega)) ?_
  refine o1 ?_; refine nl ?_; refine sq ?_; refine rl ?_; (iterate 3 refine o1 ?_)
  refine WL.cast (t := 39) (u' := .int .i64 (((nth X k + nth Y k + cr) % 65536 : Nat) : Int)) rfl (cint (rem_nat _ 65536)) ?_; refine bs 1 ?_
  refine w_app (j := 2) ttok rfl rfl rfl rfl (.sl rfl (by rw [List.length_map, i64T_len, hos]; omega)) (.sl rfl rfl rfl) rfl rfl rfl (by omega) (by omega) ?_
  refine o1 ?_; refine nl ?_; refine rl ?_; refine o1 ?_; refine o1 ?_ (hC := (quo_in 65536 (by omega) (by simp only [InR]; omega)))
  refine WL.cast (t := 43) (u' := .int .i64 (((nth X k + nth Y k + cr) / 65536 : Nat) : Int)) rfl (cint (quo_nat _ 65536)) ?_; refine o1 ?_; refine nl ?_; refine rl ?_; (iterate 3 refine o1 ?_)
  refine nl ?_; have hst := add_step hos hv
  have hz1 : X.length ≤ k → nth X k = 0 := fun h => nth_out (by omega)
  have hz2 : Y.length ≤ k → nth Y k = 0 := fun h => nth_out (by omega)
  exact ⟨(k + 1, (nth X k + nth Y k + cr) / 65536, os ++ [(nth X k + nth Y k + cr) % 65536]), by dsimp only; omega, ⟨by simp [hos], hol.append (Lim.cons (Nat.mod_lt _ (by omega)) Lim.nil), hst, by dsimp only; omega, by dsimp only; omega⟩, su0 h0 [2] _ _ (by decide) ⟨rfl, rfl, rfl, rfl, rfl, trivial⟩ ⟨oeI rfl (i64T_app _ [(nth X k + nth Y k + cr) % 65536]) rfl, rfl⟩⟩
 (iterate 3 refine o1 ?_); refine nl ?_; refine cdp rfl (fun h2 => ?_) (fun h2 => ?_)
 ·refine sk ?_; refine sq ?_; refine bl ?_; refine sq ?_; refine rl ?_; refine o1 ?_; refine o1 ?_
  refine ca (c_at1) ok170 ⟨a1 rfl, a1 rfl, rfl⟩ (.one (tv (.int .i64 ((nth X (k) : Nat) : Int)))) ?_; refine o1 ?_; refine o1 ?_
  refine ca (c_at1) ok170 ⟨a1 rfl, a1 rfl, rfl⟩ (.one (tv (.int .i64 ((nth Y (k) : Nat) : Int)))) ?_; (iterate 3 refine o1 ?_)
  refine WL.cast (t := 36) (u' := .int .i64 ((nth X k + nth Y k + cr : Nat) : Int)) rfl (cint (by omega)) ?_
  refine o1 ?_; refine nl ?_; refine sq ?_; refine rl ?_; (iterate 3 refine o1 ?_)
  refine WL.cast (t := 39) (u' := .int .i64 (((nth X k + nth Y k + cr) % 65536 : Nat) : Int)) rfl (cint (rem_nat _ 65536)) ?_; refine bs 1 ?_
  refine w_app (j := 2) ttok rfl rfl rfl rfl (.sl rfl (by rw [List.length_map, i64T_len, hos]; omega)) (.sl rfl rfl rfl) rfl rfl rfl (by omega) (by omega) ?_
  refine o1 ?_; refine nl ?_; refine rl ?_; refine o1 ?_; refine o1 ?_ (hC := (quo_in 65536 (by omega) (by simp only [InR]; omega)))
  refine WL.cast (t := 43) (u' := .int .i64 (((nth X k + nth Y k + cr) / 65536 : Nat) : Int)) rfl (cint (quo_nat _ 65536)) ?_; refine o1 ?_; refine nl ?_; refine rl ?_; (iterate 3 refine o1 ?_)
  refine nl ?_; have hst := add_step hos hv
  have hz1 : X.length ≤ k → nth X k = 0 := fun h => nth_out (by omega)
  have hz2 : Y.length ≤ k → nth Y k = 0 := fun h => nth_out (by omega)
  exact ⟨(k + 1, (nth X k + nth Y k + cr) / 65536, os ++ [(nth X k + nth Y k + cr) % 65536]), by dsimp only; omega, ⟨by simp [hos], hol.append (Lim.cons (Nat.mod_lt _ (by omega)) Lim.nil), hst, by dsimp only; omega, by dsimp only; omega⟩, su0 h0 [2] _ _ (by decide) ⟨rfl, rfl, rfl, rfl, rfl, trivial⟩ ⟨oeI rfl (i64T_app _ [(nth X k + nth Y k + cr) % 65536]) rfl, rfl⟩⟩
 refine ex ?_; refine sq ?_; refine rl ?_; have hc0 : cr = 0 := by omega
 rw [hc0, Nat.mul_zero, Nat.add_zero, vl_take_all 65536 (by omega), vl_take_all 65536 (by omega), hvX, hvY] at hv
 refine WL.sub (fzI (i := 7) (zs' := os) rfl rfl rfl (by omega) rfl) ?_
 refine o1 ?_; refine cak 1 (c_limbs1 (by omega) (by assumption)) ok171 ⟨a1 rfl, rfl⟩ ?_
 refine o1 ?_; refine nl ?_; refine rt ?_
 exact en (.inl rfl) rfl (pk1 (.one (.sl (trs := u32T (dg 4294967296 (vl 65536 os))) rfl rfl (tk_u32 _) (ln_u32 _)))) (by decide) (fun _ => .inl ⟨rfl, nofr_u32 _⟩) (by rw [hv]; rfl)
theorem c_Sub1 {xs ys : List Nat} (hx : xs.length ≤ 1099511627776) (hlx : Lim 4294967296 xs) (hy : ys.length ≤ 1099511627776) (hly : Lim 4294967296 ys) : Spec true Tryz.prog 140 [] [.one (.t (sU false xs)), .one (.t (sU false ys))] (Ret (.tup [.one (.t (sU true (dg 4294967296 (vl 4294967296 xs - vl 4294967296 ys)))), .one (tv (.int .i64 (if vl 4294967296 xs < vl 4294967296 ys then 2 else 0)))])) := by
 refine fn0 Tryz.func140 rfl Tryz.ntmps140 rfl ttok rfl fun N w c0 h0 => ?_
 refine sq ?_; refine rl ?_; refine o1 ?_; refine o1 ?_; refine nl ?_; refine sq ?_; refine sq ?_; refine rl ?_; refine o1 ?_; refine o1 ?_
 refine ca (c_Cmp1 hx hlx hy hly) ok167 ⟨a1 rfl, a1 rfl, rfl⟩ (.one (tv (.int .i64 (((vl 4294967296 xs : Nat) : Int) - ((vl 4294967296 ys : Nat) : Int)).sign))) ?_; refine o1 ?_; refine nl ?_
 refine cdp rfl (fun h1 => ?_) (fun h1 => ?_)
 ·refine sq ?_; refine rl ?_; refine o1 ?_; refine o1 ?_; refine nl ?_; refine rt ?_; have hlt := sub_lt h1
  exact en (.inl rfl) rfl (pkt (.cons (.one (.nil (t := 109) (z := 1))) (.cons (pkv _) .nil))) (by decide) (fun _ => ⟨.inl ⟨rfl, trivial⟩, trivial, trivial⟩) (by rw [Nat.sub_eq_zero_of_le (Nat.le_of_lt hlt), if_pos hlt]; rfl)
 refine sk ?_; refine sq ?_; refine rl ?_; refine o1 ?_; refine ca (c_halves1 hx hlx) ok169 ⟨a1 rfl, rfl⟩ (.one (.t (sI false (dg 65536 (vl 4294967296 xs))))) ?_; refine o1 ?_
 refine ca (c_halves1 hy hly) ok169 ⟨a1 rfl, rfl⟩ (.one (.t (sI false (dg 65536 (vl 4294967296 ys))))) ?_; refine o1 ?_; refine o1 ?_; refine nl ?_; refine sq ?_
 have hge : vl 4294967296 ys ≤ vl 4294967296 xs := sub_ge h1
 have hyx := dg_length_mono (B := 65536) (by omega) hge
 have hdx := dg_half_len (v := vl 4294967296 xs) (L := xs.length) (by rw [dg_vl (by omega) hlx]; exact trim_length _)
 have hdy := dg_half_len (v := vl 4294967296 ys) (L := ys.length) (by rw [dg_vl (by omega) hly]; exact trim_length _)
 have hX := Lim_dg (B := 65536) (by omega) (vl 4294967296 xs)
 have hY := Lim_dg (B := 65536) (by omega) (vl 4294967296 ys)
 have hvX := vl_dg (B := 65536) (by omega) (vl 4294967296 xs)
 have hvY := vl_dg (B := 65536) (by omega) (vl 4294967296 ys)
 generalize dg 65536 (vl 4294967296 xs) = X at hdx hX hvX hyx ⊢; generalize dg 65536 (vl 4294967296 ys) = Y at hdy hY hvY hyx ⊢; refine rl ?_; refine o1 ?_; refine nl ?_; refine sq ?_; refine rl ?_
 refine o1 ?_; refine nl ?_; refine sq ?_; refine sq ?_; refine rl ?_; refine o1 ?_; refine nl ?_; refine bl ?_
 refine lp (γ := Nat × Nat × List Nat) (fun s => frL [(6, .one (.t (sI false X))), (7, .one (.t (sI false Y))), (8, .one (.sl 0 0 s.1)), (9, .one (tv (.int .i64 ((s.2.1 : Nat) : Int)))), (10, .one (tv (.int .i64 ((s.1 : Nat) : Int))))]) (fun s => [(⟨3, 1, (i64T s.2.2).map .t⟩ : Ob)].map some) (fun s => s.2.2.length = s.1 ∧ Lim 65536 s.2.2 ∧ vl 65536 s.2.2 + vl 65536 (Y.take s.1) = vl 65536 (X.take s.1) + 65536 ^ s.1 * s.2.1 ∧ s.2.1 ≤ 1 ∧ s.1 ≤ X.length) (fun s => X.length - s.1) (0, 0, []) ⟨rfl, Lim.nil, rfl, Nat.zero_le _, Nat.zero_le _⟩ ((nr (i := 8) 0 3 1 rfl rfl rfl rfl).trans (su0 h0 [0] _ _ (by decide) ⟨rfl, rfl, rfl, rfl, rfl, trivial⟩ ⟨oet (l := []) rfl, rfl⟩)) ?_
 rintro ⟨k, br, os⟩ ⟨hos, hol, hv, hc1, hkm⟩; dsimp only at hos hol hv hc1 hkm ⊢; have hn1 := hX.nth (by omega) k
 have hn2 := hY.nth (by omega) k
 refine sq ?_; refine sq ?_; refine rl ?_; (iterate 4 refine o1 ?_); refine nl ?_; refine cdp rfl (fun h2 => ?_) (fun h2 => ?_)
 ·refine sk ?_; refine sq ?_; refine bl ?_; refine sq ?_; refine rd [] (fun i => [10].contains i) mixed ?_
  refine dv 0 ?_; refine dv 1 ?_; refine dv 2 ?_; refine dlr 3 ([.v (.int .i64 ((nth X (k) : Nat) : Int))]) (i64_at X (k := k) (by omega)) ?_
  refine dv 4 ?_; refine dv 5 ?_; refine dv 8 ?_; refine dca 6 rfl (c_at1) ok170 ⟨a1 rfl, a1 rfl, rfl⟩ (.one (tv (.int .i64 ((nth Y (k) : Nat) : Int)))) ?_; refine df 7 ?_; refine df 9 ?_
  refine d_v 10 (by kernel_rfl) rfl rfl ttok rfl (by trivial) ?_ (fun h => by first | rfl | cases h)
  refine dz0 ?_; refine sq ?_; refine rl ?_; refine o1 ?_; refine nl ?_; refine sq ?_; refine sq ?_; refine rl ?_; refine o1 ?_; refine o1 ?_; refine nl ?_
  refine cdp rfl (fun h3 => ?_) (fun h3 => ?_)
  ·refine sq ?_; refine rl ?_; (iterate 3 refine o1 ?_); refine nl ?_; refine rl ?_; refine o1 ?_; refine nl ?_; refine rl ?_
   refine WL.cast (t := 11) (u' := .int .i64 (((nth X k + 65536 - nth Y k - br : Nat)) : Int)) rfl (cint (by omega)) ?_
   refine o1 ?_; refine o1 ?_; refine bs 1 ?_
   refine w_app (j := 2) ttok rfl rfl rfl rfl (.sl rfl (by rw [List.length_map, i64T_len, hos]; omega)) (.sl rfl rfl rfl) rfl rfl rfl (by omega) (by omega) ?_
   refine o1 ?_; refine nl ?_; refine rl ?_; (iterate 3 refine o1 ?_); refine nl ?_; have hst := sub_step (d := nth X k + 65536 - nth Y k - br) (br' := 1) hos hv (by omega)
   exact ⟨(k + 1, 1, os ++ [nth X k + 65536 - nth Y k - br]), by dsimp only; omega, ⟨by simp [hos], hol.append (Lim.cons (by omega) Lim.nil), hst, by dsimp only; omega, by dsimp only; omega⟩, su0 h0 [2] _ _ (by decide) ⟨rfl, rfl, rfl, rfl, rfl, trivial⟩ ⟨oeI rfl (i64T_app _ [nth X k + 65536 - nth Y k - br]) rfl, rfl⟩⟩
  refine sk ?_; refine rl ?_; refine WL.cast (t := 11) (u' := .int .i64 (((nth X k - nth Y k - br : Nat)) : Int)) rfl (cint (by omega)) ?_
  refine o1 ?_; refine o1 ?_; refine bs 1 ?_
  refine w_app (j := 2) ttok rfl rfl rfl rfl (.sl rfl (by rw [List.length_map, i64T_len, hos]; omega)) (.sl rfl rfl rfl) rfl rfl rfl (by omega) (by omega) ?_
  refine o1 ?_; refine nl ?_; refine rl ?_; (iterate 3 refine o1 ?_); refine nl ?_; have hst := sub_step (d := nth X k - nth Y k - br) (br' := 0) hos hv (by omega)
  exact ⟨(k + 1, 0, os ++ [nth X k - nth Y k - br]), by dsimp only; omega, ⟨by simp [hos], hol.append (Lim.cons (by omega) Lim.nil), hst, by dsimp only; omega, by dsimp only; omega⟩, su0 h0 [2] _ _ (by decide) ⟨rfl, rfl, rfl, rfl, rfl, trivial⟩ ⟨oeI rfl (i64T_app _ [nth X k - nth Y k - br]) rfl, rfl⟩⟩
 refine ex ?_; refine sq ?_; refine rl ?_; have hoo := vl_lt hol
 rw [hos] at hoo; rw [vl_take_all 65536 (l := X) (by omega), vl_take_all 65536 (l := Y) (by omega), hvX, hvY] at hv
 have hb0 : br = 0 := by
  rcases Nat.eq_zero_or_pos br with h0 | h0
  ·exact h0
  have h1 : br = 1 := by omega
  rw [h1, Nat.mul_one, show k = X.length by omega] at hv
  rw [show k = X.length by omega] at hoo
  omega
 rw [hb0, Nat.mul_zero, Nat.add_zero] at hv; have he : vl 65536 os = vl 4294967296 xs - vl 4294967296 ys := by omega
 refine WL.sub (fzI (i := 8) (zs' := os) rfl rfl rfl (by omega) rfl) ?_
 refine o1 ?_; refine cak 1 (c_limbs1 (by omega) (by assumption)) ok171 ⟨a1 rfl, rfl⟩ ?_
 refine o1 ?_; refine o1 ?_; refine nl ?_; refine rt ?_
 exact en (.inl rfl) rfl (pkt (.cons (.one (.sl (trs := u32T (dg 4294967296 (vl 65536 os))) rfl rfl (tk_u32 _) (ln_u32 _))) (.cons (pkv _) .nil))) (by decide) (fun _ => ⟨.inl ⟨rfl, nofr_u32 _⟩, trivial, trivial⟩) (by rw [he, if_neg (by omega)]; rfl)
theorem c_Right3 {a : Zi} {k : Int} (ha : Zn a k) : Spec true Tryz.prog 133 [] [gF a] (Ret (.one (tv (.bool (rightI a.s a.x))))) := by
 refine fn0 Tryz.func133 rfl Tryz.ntmps133 rfl ttok rfl fun N w c0 h0 => ?_
 have hal := ha.2.1
 refine sq ?_; refine rl ?_; refine bx 0 ?_; refine o1 ?_; refine nl ?_; refine sq ?_; refine sq ?_; refine rl ?_; refine o1 ?_; refine ld ?_; refine o1 ?_; refine o1 ?_; refine nl ?_
 refine cdp rfl (fun h1 => ?_) (fun h1 => ?_)
 ·refine sq ?_; refine rl ?_; refine o1 ?_; refine ld ?_; refine WL.splitb (t := 8) rfl (fun h2 => ?_) (fun h2 => ?_)
  ·refine o1 ?_; refine o1 ?_; refine nl ?_; refine rt ?_; refine en (.inl rfl) rfl (pk1 (pkv _)) (by decide) (fun _ => trivial) (congrArg (fun b => FV.one (tv (.bool b))) ?_)
   rw [rightI_nil (by omega)]; simp_all
  refine o1 ?_; refine o1 ?_; refine nl ?_; refine rt ?_; refine en (.inl rfl) rfl (pk1 (pkv _)) (by decide) (fun _ => trivial) (congrArg (fun b => FV.one (tv (.bool b))) ?_)
  rw [rightI_nil (by omega)]; simp_all
 refine sk ?_; refine sq ?_; refine rl ?_; refine o1 ?_; refine ld ?_; refine o1 ?_; refine ld ?_; refine o1 ?_; refine o1 ?_
 refine WL.cast (t := 15) (u' := .int .i64 ((a.x.length - 1 : Nat) : Int)) rfl (cint (by omega)) ?_
 refine o1 ?_; refine ldf ([.v (.int .u32 ((nth a.x (a.x.length - 1) : Nat) : Int))]) (u32_at a.x (k := a.x.length - 1) (by omega)) ?_
 refine o1 ?_; refine o1 ?_; refine nl ?_; refine rt ?_; refine en (.inl rfl) rfl (pk1 (pkv _)) (by decide) (fun _ => trivial) (congrArg (fun b => FV.one (tv (.bool b))) ?_)
 exact (rightI_pos rfl (by omega)).symm
theorem c_plain3 {a : Zi} {k : Int} (ha : Zn a k) : Spec false Tryz.prog 137 [] [gF a] (Ret (kF k)) := by
 refine fn0 Tryz.func137 rfl Tryz.ntmps137 rfl ttok rfl fun N w c0 h0 => ?_
 refine sq ?_; refine rl ?_; refine bx 0 ?_; refine al 1 ?_; refine nl ?_; refine sq ?_; refine sq ?_; refine rl ?_; refine ld ?_
 refine ca (c_Right3 ha) ok133 ⟨a1g rfl, rfl⟩ (.one (tv (.bool (rightI a.s a.x)))) ?_; refine WL.splitb (t := 4) rfl (fun h1 => ?_) (fun h1 => ?_)
 ·refine o1 ?_; refine nl ?_; refine cdf rfl ?_; refine sk ?_; refine sq ?_; refine rl ?_; refine ld ?_; refine st ?_; refine nl ?_; refine rt ?_
  exact en (.inl rfl) rfl (pk1 (.agg (.read _ (l := [.v (.bool a.s), sU false a.x]) rfl))) (by decide) (fun h => by cases h) (kF_right ha h1)
 refine o1 ?_; refine nl ?_; refine cdt rfl ?_; refine sq ?_; refine rl ?_; refine o1 ?_; refine st ?_; refine nl ?_; refine rt ?_
 exact en (.inl rfl) rfl (pk1 (.agg (.cons (.id rfl) (.cons .nilf .nil)))) (by decide) (fun h => by cases h) (by rw [ha.wrong h1]; exact kF_zero)
theorem c_made3 {b : Bool} {xs : List Nat} {K : Int} (hx : xs.length ≤ 1099511627776) (hl : Lim 4294967296 xs) (hK : sgn b (vl 4294967296 xs) = K) : Spec true Tryz.prog 108 [] [.one (tv (.bool b)), .one (.t (sU false xs))] (Ret (kO K)) := by
 refine fn0 Tryz.func108 rfl Tryz.ntmps108 rfl ttok rfl fun N w c0 h0 => ?_
 refine sq ?_; refine rl ?_; refine al 0 ?_; refine nl ?_; refine sq ?_; refine rl ?_; refine o1 ?_; refine cak 1 (c_Trim1 hx hl) ok147 ⟨a1 rfl, rfl⟩ ?_; refine o1 ?_; refine nl ?_; refine sq ?_
 refine rl ?_; refine o1 ?_; refine o1 ?_; refine WL.splitb (t := 9) rfl (fun h1 => ?_) (fun h1 => ?_)
 ·(iterate 6 refine o1 ?_); refine st ?_; refine nl ?_; refine rt ?_
  exact en (.inl rfl) rfl (pk1 (.agg (.cons (.id rfl) (.cons (.sl (trs := u32T (dg 4294967296 (vl 4294967296 xs))) rfl rfl (tk_u32 _) (ln_u32 _)) .nil)))) (by decide) (fun _ => nofr_zm _ _) (hK ▸ kO_eq (by rw [← sgn_dg rfl, h1, Bool.true_and]; exact decide_eq_decide.2 (by omega)) (sgn_abs _ _).symm)
 (iterate 3 refine no_ ?_); (iterate 3 refine o1 ?_); refine st ?_; refine nl ?_; refine rt ?_
 exact en (.inl rfl) rfl (pk1 (.agg (.cons (.id rfl) (.cons (.sl (trs := u32T (dg 4294967296 (vl 4294967296 xs))) rfl rfl (tk_u32 _) (ln_u32 _)) .nil)))) (by decide) (fun _ => nofr_zm _ _) (hK ▸ kO_eq (by rw [← sgn_dg rfl, h1]; rfl) (sgn_abs _ _).symm)
theorem c_Of3 {n : Int} (h1 : -9223372036854775808 ≤ n) (h2 : n ≤ 9223372036854775807) : Spec true Tryz.prog 66 [] [.one (tv (.int .i64 n))] (Ret (kO n)) := by
 refine fn0 Tryz.func66 rfl Tryz.ntmps66 rfl ttok rfl fun N w c0 h0 => ?_
 obtain ⟨hr1, hr2, hq1, hq2, hv1, hv2⟩ := of_parts h1 h2
 refine sq ?_; refine rl ?_; refine al 0 ?_; refine nl ?_; refine sq ?_; refine rl ?_; (iterate 3 refine o1 ?_); refine o1 ?_ (hC := (by exact ⟨by omega, by simp only [InR]; omega⟩))
 refine o1 ?_; refine o1 ?_; refine nl ?_; refine sq ?_; refine rl ?_; (iterate 6 refine o1 ?_)
 refine WL.cast (t := 14) (u' := .int .i64 (((Int.tmod n 4294967296).natAbs : Nat) : Int)) rfl (cint (by omega)) ?_
 refine o1 ?_; refine WL.cast (t := 15) (u' := .int .u32 (((Int.tmod n 4294967296).natAbs : Nat) : Int)) rfl (cint (by omega)) ?_
 (iterate 4 refine o1 ?_); refine WL.cast (t := 19) (u' := .int .i64 (((Int.tdiv n 4294967296).natAbs : Nat) : Int)) rfl (cint (by omega)) ?_
 refine o1 ?_; refine WL.cast (t := 20) (u' := .int .u32 (((Int.tdiv n 4294967296).natAbs : Nat) : Int)) rfl (cint (by omega)) ?_
 refine bs 1 ?_
 refine WL.sub (fzU (i := 21) (zs := [(Int.tmod n 4294967296).natAbs, (Int.tdiv n 4294967296).natAbs]) (zs' := [(Int.tmod n 4294967296).natAbs, (Int.tdiv n 4294967296).natAbs]) rfl rfl rfl rfl rfl) ?_
 refine cak 2 (c_made3 (K := n) (by simp) (Lim.cons (by omega) (Lim.cons (by omega) Lim.nil)) (of_val hv1)) ok108 ⟨a1 rfl, a1 rfl, rfl⟩ ?_
 refine st ?_; refine nl ?_; refine rt ?_
 exact en (.inl rfl) rfl (pk1 (.agg (.cons (.id rfl) (.cons (.sl (trs := u32T (dg 4294967296 (n).natAbs)) rfl rfl (tk_u32 _) (ln_u32 _)) .nil)))) (by decide) (fun _ => nofr_z (n)) rfl
theorem c_Cmp3 {a b : Zi} {k k' : Int} (ha : Zn a k) (hb : Zn b k') : Spec true Tryz.prog 136 [] [gF a, gF b] (Ret (.one (tv (.int .i64 (k - k').sign)))) := by
 refine fn0 Tryz.func136 rfl Tryz.ntmps136 rfl ttok rfl fun N w c0 h0 => ?_
 have hkl := ha.len
 have hkl' := hb.len
 refine sq ?_; refine rl ?_; refine bx 0 ?_; refine bx 1 ?_; refine o1 ?_; refine nl ?_; refine sq ?_; refine rl ?_; refine ld ?_; refine ca (c_plain3 ha) ok137 ⟨a1g rfl, rfl⟩ (kF (k)) ?_
 refine st ?_; refine nl ?_; refine sq ?_; refine rl ?_; refine ld ?_; refine ca (c_plain3 hb) ok137 ⟨a1g rfl, rfl⟩ (kF (k')) ?_; refine st ?_; refine nl ?_; refine sq ?_; refine bl ?_; refine sq ?_
 refine rl ?_; refine o1 ?_; refine ld ?_; refine o1 ?_; refine WL.splitb (t := 12) rfl (fun h1 => ?_) (fun h1 => ?_)
 ·refine o1 ?_; refine ld ?_; refine WL.splitb (t := 14) rfl (fun h2 => ?_) (fun h2 => ?_)
  ·(iterate 3 refine o1 ?_); refine nl ?_; refine cdf rfl ?_; refine sq ?_; refine rl ?_; refine o1 ?_; refine ld ?_; refine o1 ?_; refine WL.cast (t := 20) rfl (congrArg Value.bool h2) ?_
   refine o1 ?_; refine ld ?_; refine WL.cast (t := 22) rfl (congrArg Value.bool h1) ?_; (iterate 3 refine o1 ?_); refine nl ?_; refine cdf rfl ?_; refine sq ?_; refine rl ?_; refine o1 ?_
   refine ld ?_; refine o1 ?_; refine nl ?_; refine cdt (congrArg (fun b => FV.one (tv (.bool b))) h1) ?_
   refine sq ?_; refine rl ?_; refine o1 ?_; refine ld ?_; refine o1 ?_; refine ld ?_
   refine ca (c_Cmp1 (by omega) (Lim_dg (by omega) _) (by omega) (Lim_dg (by omega) _)) ok167 ⟨a1 rfl, a1 rfl, rfl⟩ (.one (tv (.int .i64 (((vl 4294967296 (dg 4294967296 (k').natAbs) : Nat) : Int) - ((vl 4294967296 (dg 4294967296 (k).natAbs) : Nat) : Int)).sign))) ?_
   refine o1 ?_; refine nl ?_; refine rt ?_; refine en (.inl rfl) rfl (pk1 (pkv _)) (by decide) (fun _ => trivial) (congrArg (fun z => FV.one (tv (.int .i64 z))) ?_)
   rw [natAbs_val, natAbs_val]; exact zcmp_nn h1 h2
  (iterate 3 refine o1 ?_); refine nl ?_; refine cdt rfl ?_; refine sq ?_; refine rl ?_; refine o1 ?_; refine nl ?_; refine rt ?_
  refine en (.inl rfl) rfl (pk1 (pkv _)) (by decide) (fun _ => trivial) (congrArg (fun z => FV.one (tv (.int .i64 z))) ?_)
  exact zcmp_pn h1 h2
 (iterate 3 refine no_ ?_); refine o1 ?_; refine o1 ?_; refine nl ?_; refine cdf rfl ?_; refine sq ?_; refine rl ?_; refine o1 ?_; refine ld ?_; refine o1 ?_
 refine WL.splitb (t := 20) rfl (fun h3 => ?_) (fun h3 => ?_)
 ·refine o1 ?_; refine ld ?_; refine WL.cast (t := 22) rfl (congrArg Value.bool h1) ?_; (iterate 3 refine o1 ?_); refine nl ?_; refine cdt rfl ?_; refine sq ?_; refine rl ?_; refine o1 ?_
  refine nl ?_; refine rt ?_; refine en (.inl rfl) rfl (pk1 (pkv _)) (by decide) (fun _ => trivial) (congrArg (fun z => FV.one (tv (.int .i64 z))) ?_)
  exact zcmp_np h1 h3
 (iterate 3 refine no_ ?_); refine o1 ?_; refine o1 ?_; refine nl ?_; refine cdf rfl ?_; refine sq ?_; refine rl ?_; refine o1 ?_; refine ld ?_; refine o1 ?_; refine nl ?_
 refine cdf (congrArg (fun b => FV.one (tv (.bool b))) h1) ?_
 refine sk ?_; refine sq ?_; refine rl ?_; refine o1 ?_; refine ld ?_; refine o1 ?_; refine ld ?_
 refine ca (c_Cmp1 (by omega) (Lim_dg (by omega) _) (by omega) (Lim_dg (by omega) _)) ok167 ⟨a1 rfl, a1 rfl, rfl⟩ (.one (tv (.int .i64 (((vl 4294967296 (dg 4294967296 (k).natAbs) : Nat) : Int) - ((vl 4294967296 (dg 4294967296 (k').natAbs) : Nat) : Int)).sign))) ?_
 refine o1 ?_; refine nl ?_; refine rt ?_; refine en (.inl rfl) rfl (pk1 (pkv _)) (by decide) (fun _ => trivial) (congrArg (fun z => FV.one (tv (.int .i64 z))) ?_)
 rw [natAbs_val, natAbs_val]; exact zcmp_pp h1 h3
theorem c_Sign3 {a : Zi} {k : Int} (ha : Zn a k) : Spec true Tryz.prog 91 [] [gF a] (Ret (.one (tv (.int .i64 k.sign)))) := by
 refine fn0 Tryz.func91 rfl Tryz.ntmps91 rfl ttok rfl fun N w c0 h0 => ?_
 have hkl := ha.len
 refine sq ?_; refine rl ?_; refine bx 0 ?_; refine o1 ?_; refine nl ?_; refine sq ?_; refine rl ?_; refine ld ?_; refine o1 ?_
 refine ca (c_Cmp3 ha zn0) ok136 ⟨a1g rfl, a1a rfl (.cons .t (.cons .nil .nil)), rfl⟩ (.one (tv (.int .i64 ((k) - (0)).sign))) ?_; refine o1 ?_; refine nl ?_; refine rt ?_
 exact en (.inl rfl) rfl (pk1 (pkv _)) (by decide) (fun _ => trivial) (congrArg (fun z => FV.one (tv (.int .i64 z))) (by rw [Int.sub_zero]))
theorem c_Neg3 {a : Zi} {k : Int} (ha : Zn a k) : Spec true Tryz.prog 93 [] [gF a] (Ret (kO (-k))) := by
 refine fn0 Tryz.func93 rfl Tryz.ntmps93 rfl ttok rfl fun N w c0 h0 => ?_
 have hkl := ha.len
 refine sq ?_; refine rl ?_; refine bx 0 ?_; refine al 1 ?_; refine nl ?_; refine sq ?_; refine rd [0, 1] (fun i => [8].contains i) mixed ?_
 refine dld 0 ?_; refine dld 4 ?_; refine dca 1 rfl (c_plain3 ha) ok137 ⟨a1g rfl, rfl⟩ (kF (k)) ?_; refine df 2 ?_; refine df 3 ?_; refine dca 5 rfl (c_plain3 ha) ok137 ⟨a1g rfl, rfl⟩ (kF (k)) ?_
 refine df 6 ?_; refine dck 2 7 rfl (c_made3 (K := -k) (by omega) (Lim_dg (by omega) _) (by rw [natAbs_val]; exact sgn_not k)) ok108 ⟨a1 rfl, a1 rfl, rfl⟩ ?_
 refine dst 8 ?_; refine dz0 ?_; refine rt ?_
 exact en (.inl rfl) rfl (pk1 (.agg (.cons (.id rfl) (.cons (.sl (trs := u32T (dg 4294967296 (-k).natAbs)) rfl rfl (tk_u32 _) (ln_u32 _)) .nil)))) (by decide) (fun _ => nofr_z (-k)) rfl
theorem c_Add3 {a b : Zi} {k k' : Int} (ha : Zn a k) (hb : Zn b k') : Spec true Tryz.prog 96 [] [gF a, gF b] (Ret (kO (k + k'))) := by
 refine fn0 Tryz.func96 rfl Tryz.ntmps96 rfl ttok rfl fun N w c0 h0 => ?_
 have hkl := ha.len
 have hkl' := hb.len
 refine sq ?_; refine rl ?_; refine bx 0 ?_; refine bx 1 ?_; refine al 2 ?_; refine nl ?_; refine sq ?_; refine rl ?_; refine ld ?_; refine ca (c_plain3 ha) ok137 ⟨a1g rfl, rfl⟩ (kF (k)) ?_
 refine st ?_; refine nl ?_; refine sq ?_; refine rl ?_; refine ld ?_; refine ca (c_plain3 hb) ok137 ⟨a1g rfl, rfl⟩ (kF (k')) ?_; refine st ?_; refine nl ?_; refine sq ?_; refine sq ?_; refine rl ?_
 refine o1 ?_; refine ld ?_; refine o1 ?_; refine ld ?_; refine o1 ?_; refine nl ?_; refine cdq rfl (fun h1 => ?_) (fun h1 => ?_)
 ·refine sq ?_; refine rd [0, 1, 2] (fun i => [8].contains i) mixed ?_
  refine dv 0 ?_; refine dld 1 ?_; refine dv 2 ?_; refine dld 3 ?_; refine dv 4 ?_; refine dld 5 ?_
  have hn2 := add_len (xs := (dg 4294967296 (k).natAbs)) (ys := (dg 4294967296 (k').natAbs)) (Lim_dg (by omega) _) (Lim_dg (by omega) _)
  refine dca 6 rfl (c_Add1 (by omega) (Lim_dg (by omega) _) (by omega) (Lim_dg (by omega) _)) ok139 ⟨a1 rfl, a1 rfl, rfl⟩ (.one (.t (sU false (dg 4294967296 (vl 4294967296 (dg 4294967296 (k).natAbs) + vl 4294967296 (dg 4294967296 (k').natAbs)))))) ?_
  refine dck 3 7 rfl (c_made3 (K := k + k') (by omega) (Lim_dg (by omega) _) (by simp only [vl_dg (B := 4294967296) (by omega)]; exact zadd_same rfl (eq_of_beq h1))) ok108 ⟨a1 rfl, a1 rfl, rfl⟩ ?_
  refine dst 8 ?_; refine dz0 ?_; refine rt ?_
  exact en (.inl rfl) rfl (pk1 (.agg (.cons (.id rfl) (.cons (.sl (trs := u32T (dg 4294967296 (k + k').natAbs)) rfl rfl (tk_u32 _) (ln_u32 _)) .nil)))) (by decide) (fun _ => nofr_z (k + k')) rfl
 refine sk ?_; refine sq ?_; refine rl ?_; refine o1 ?_; refine ld ?_; refine o1 ?_; refine ld ?_
 have hn3 := sub_len (xs := (dg 4294967296 (k).natAbs)) (ys := (dg 4294967296 (k').natAbs)) (Lim_dg (by omega) _)
 refine ca (c_Sub1 (by omega) (Lim_dg (by omega) _) (by omega) (Lim_dg (by omega) _)) ok140 ⟨a1 rfl, a1 rfl, rfl⟩ (.tup [.one (.t (sU false (dg 4294967296 (vl 4294967296 (dg 4294967296 (k).natAbs) - vl 4294967296 (dg 4294967296 (k').natAbs))))), .one (tv (.int .i64 (if vl 4294967296 (dg 4294967296 (k).natAbs) < vl 4294967296 (dg 4294967296 (k').natAbs) then 2 else 0)))]) ?_
 (iterate 5 refine o1 ?_); refine nl ?_; refine sq ?_; refine sq ?_; refine rl ?_; refine o1 ?_; refine o1 ?_; refine nl ?_; refine cdp rfl (fun h4 => ?_) (fun h4 => ?_)
 ·refine sq ?_; refine rl ?_; refine o1 ?_; refine ld ?_; refine o1 ?_
  refine cak 3 (c_made3 (K := k + k') (by omega) (Lim_dg (by omega) _) (by simp only [vl_dg (B := 4294967296) (by omega)]; exact zadd_ge rfl (ne_of_beq_false h1) (fun h8 => by rw [natAbs_val, natAbs_val, if_pos h8] at h4; omega))) ok108 ⟨a1 rfl, a1 rfl, rfl⟩ ?_
  refine st ?_; refine nl ?_; refine rt ?_
  exact en (.inl rfl) rfl (pk1 (.agg (.cons (.id rfl) (.cons (.sl (trs := u32T (dg 4294967296 (k + k').natAbs)) rfl rfl (tk_u32 _) (ln_u32 _)) .nil)))) (by decide) (fun _ => nofr_z (k + k')) rfl
 refine sk ?_; refine sq ?_; refine rl ?_; refine o1 ?_; refine ld ?_; refine o1 ?_; refine ld ?_
 have hn5 := sub_len (xs := (dg 4294967296 (k').natAbs)) (ys := (dg 4294967296 (k).natAbs)) (Lim_dg (by omega) _)
 refine ca (c_Sub1 (by omega) (Lim_dg (by omega) _) (by omega) (Lim_dg (by omega) _)) ok140 ⟨a1 rfl, a1 rfl, rfl⟩ (.tup [.one (.t (sU false (dg 4294967296 (vl 4294967296 (dg 4294967296 (k').natAbs) - vl 4294967296 (dg 4294967296 (k).natAbs))))), .one (tv (.int .i64 (if vl 4294967296 (dg 4294967296 (k').natAbs) < vl 4294967296 (dg 4294967296 (k).natAbs) then 2 else 0)))]) ?_
 (iterate 4 refine o1 ?_); refine nl ?_; refine sq ?_; refine rl ?_; refine o1 ?_; refine ld ?_; refine o1 ?_
 refine cak 3 (c_made3 (K := k + k') (by omega) (Lim_dg (by omega) _) (by simp only [vl_dg (B := 4294967296) (by omega)]; exact zadd_lt rfl (ne_of_beq_false h1) (Decidable.byContradiction fun h8 => h4 (by rw [natAbs_val, natAbs_val, if_neg h8])))) ok108 ⟨a1 rfl, a1 rfl, rfl⟩ ?_
 refine st ?_; refine nl ?_; refine rt ?_
 exact en (.inl rfl) rfl (pk1 (.agg (.cons (.id rfl) (.cons (.sl (trs := u32T (dg 4294967296 (k + k').natAbs)) rfl rfl (tk_u32 _) (ln_u32 _)) .nil)))) (by decide) (fun _ => nofr_z (k + k')) rfl
theorem c_Sub3 {a b : Zi} {k k' : Int} (ha : Zn a k) (hb : Zn b k') : Spec true Tryz.prog 168 [] [gF a, gF b] (Ret (kO (k - k'))) := by
 refine fn0 Tryz.func168 rfl Tryz.ntmps168 rfl ttok rfl fun N w c0 h0 => ?_
 have hkl := ha.len
 have hkl' := hb.len
 refine sq ?_; refine rl ?_; refine bx 0 ?_; refine bx 1 ?_; refine al 2 ?_; refine nl ?_; refine sq ?_; refine rd [0, 1, 2] (fun i => [4].contains i) mixed ?_
 refine dld 0 ?_; refine dld 1 ?_; have hn1 := negz_len (k')
 refine dca 2 rfl (c_Neg3 hb) ok93 ⟨a1g rfl, rfl⟩ (kF (-k')) ?_; refine dck 3 3 rfl (c_Add3 ha (Zn.of (k := -k') (by omega))) ok96 ⟨a1g rfl, a1g rfl, rfl⟩ ?_
 refine dst 4 ?_; refine dz0 ?_; refine rt ?_
 exact en (.inl rfl) rfl (pk1 (.agg (.cons (.id rfl) (.cons (.sl (trs := u32T (dg 4294967296 (k + -k').natAbs)) rfl rfl (tk_u32 _) (ln_u32 _)) .nil)))) (by decide) (fun _ => nofr_z (k + -k')) rfl
end Go.Proofs.YtofllcodkcjajaaGreat
