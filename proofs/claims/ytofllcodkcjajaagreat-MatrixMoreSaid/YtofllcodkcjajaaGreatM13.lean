/- Part 13 of a proof: A4 to D1. -/
import Derived.Test.YtofllcodkcjajaaGreatM12
import Derived.Test.YtofllcodkcjajaaGreatM9
set_option maxRecDepth 100000
set_option linter.unusedVariables false
set_option linter.unusedSimpArgs false
namespace Go.Proofs.YtofllcodkcjajaaGreat
open Go Go.RowKit
theorem c_cut3 {xs : List Nat} (hx : xs.length ≤ 4398046511104) : Spec false Tryz.prog 172 [] [.one (.t (sI false xs))] (Ret (.one (.t (sI false (trim xs))))) := by
 refine fn0 Tryz.func172 rfl Tryz.ntmps172 rfl ttok rfl fun N w c0 h0 => ?_
 refine sq ?_; refine rl ?_; refine o1 ?_; refine nl ?_; refine sq ?_; refine bl ?_
 refine lp (γ := List Nat) (fun zs => frL [(0, .one (.t (sI false zs)))]) (fun _ => ([] : List Ob).map some) (fun zs => trim zs = trim xs ∧ zs.length ≤ xs.length) (fun zs => zs.length) xs ⟨rfl, Nat.le_refl _⟩ (su0 h0 [] _ _ (by decide) ⟨rfl, trivial⟩ rfl) fun zs hz => ?_
 refine sq ?_; refine sq ?_; refine rl ?_; (iterate 4 refine o1 ?_); refine WL.split (t := 6) rfl (fun h1 => ?_) (fun h1 => ?_)
 ·(iterate 4 refine o1 ?_); refine WL.cast (t := 10) (u' := .int .i64 ((zs.length - 1 : Nat) : Int)) rfl (cint (by omega)) ?_
  refine o1 ?_; refine ldf ([.v (.int .i64 ((nth zs (zs.length - 1) : Nat) : Int))]) (i64_at zs (k := zs.length - 1) (by omega)) ?_
  refine o1 ?_; refine o1 ?_; refine nl ?_; refine cdp rfl (fun h2 => ?_) (fun h2 => ?_)
  ·refine sk ?_; refine bl ?_; refine rl ?_; (iterate 4 refine o1 ?_); refine WL.cast (t := 18) (u' := .int .i64 ((zs.length - 1 : Nat) : Int)) rfl (cint (by omega)) ?_
   refine o1 ?_; refine o1 ?_; refine nl ?_
   exact ⟨zs.take (zs.length - 1), by rw [List.length_take]; omega, ⟨(by rw [trim_less (xs := zs) (k := zs.length) (by omega) (Nat.le_refl _) (by omega), List.take_length]; exact hz.1), by rw [List.length_take]; omega⟩, su0 h0 [] _ _ (by decide) ⟨congrArg some (sI_cut (by omega)).symm, trivial⟩ rfl⟩
  refine ex ?_; refine sq ?_; refine rl ?_; refine o1 ?_; refine o1 ?_; refine nl ?_; refine rt ?_; refine en (.inl rfl) rfl (pk1 (.one (.id rfl))) (by decide) (fun h => by cases h) ?_
  have hx : trim xs = zs := by
   rw [← hz.1]; have h9 := trim_stop (xs := zs) (k := zs.length) (by omega) (Nat.le_refl _) (by omega)
   rwa [List.take_length] at h9
  rw [hx]; rfl
 (iterate 7 refine no_ ?_); refine o1 ?_; refine nl ?_; refine cdf rfl ?_; refine ex ?_; refine sq ?_; refine rl ?_; refine o1 ?_; refine o1 ?_; refine nl ?_; refine rt ?_
 refine en (.inl rfl) rfl (pk1 (.one (.id rfl))) (by decide) (fun h => by cases h) ?_
 have hx : trim xs = zs := by
  have h9 : zs = [] := List.eq_nil_of_length_eq_zero (by omega)
  rw [← hz.1, h9]; rfl
 rw [hx]; rfl
theorem c_halves3 {xs : List Nat} (hx : xs.length ≤ 1099511627776) (hl : Lim 4294967296 xs) : Spec false Tryz.prog 143 [] [.one (.t (sU false xs))] (Ret (.one (.t (sI false (dg 65536 (vl 4294967296 xs)))))) := by
 refine fn0 Tryz.func143 rfl Tryz.ntmps143 rfl ttok rfl fun N w c0 h0 => ?_
 refine sq ?_; refine rl ?_; refine o1 ?_; refine nl ?_; refine sq ?_; refine rl ?_; refine o1 ?_; refine nl ?_; refine sq ?_; refine sq ?_; refine rl ?_; refine o1 ?_; refine nl ?_; refine bl ?_
 refine lp (γ := Nat) (fun k => frL [(0, .one (.t (sU false xs))), (3, .one (.sl 0 0 (2 * k))), (4, .one (tv (.int .i64 ((k : Nat) : Int))))]) (fun k => [(⟨3, 1, (i64T (hv (xs.take k))).map .t⟩ : Ob)].map some) (fun k => k ≤ xs.length) (fun k => xs.length - k) 0 (Nat.zero_le _) ((nr (i := 3) 0 3 1 rfl rfl rfl rfl).trans (su0 h0 [0] _ _ (by decide) ⟨rfl, rfl, rfl, trivial⟩ ⟨oet (l := []) rfl, rfl⟩)) fun k hk => ?_
 have hn := hl.nth (by omega) k
 refine sq ?_; refine sq ?_; refine rl ?_; (iterate 4 refine o1 ?_); refine nl ?_; refine cdp rfl (fun h1 => ?_) (fun h1 => ?_)
 ·refine sk ?_; refine sq ?_; refine bl ?_; refine rd [] (fun i => [15].contains i) mixed ?_
  refine dv 0 ?_; refine dv 1 ?_; refine dv 2 ?_; refine dv 3 ?_; refine dlr 4 ([.v (.int .u32 ((nth xs (k) : Nat) : Int))]) (u32_at xs (k := k) (by omega)) ?_
  refine dv 5 ?_; refine WD.cast (t := 16) (u' := .int .u32 ((nth xs k % 65536 : Nat) : Int)) rfl (cint (rem_nat _ 65536)) ?_; refine dv 6 ?_; refine dv 7 ?_; refine dv 8 ?_; refine dv 9 ?_
  refine dlr 10 ([.v (.int .u32 ((nth xs (k) : Nat) : Int))]) (u32_at xs (k := k) (by omega)) ?_
  refine dv 11 ?_ (hC := (quo_in 65536 (by omega) (by simp only [InR]; omega)))
  refine WD.cast (t := 22) (u' := .int .u32 ((nth xs k / 65536 : Nat) : Int)) rfl (cint (quo_nat _ 65536)) ?_; refine dv 12 ?_; refine d_bs (key := 1) 13 (by kernel_rfl) rfl rfl ttok rfl trivial ?_
  refine d_app (j := 2) 14 rfl ttok rfl rfl rfl (.sl rfl (by rw [List.length_map, i64T_len, hv_len, List.length_take]; omega)) (.sl rfl rfl rfl) rfl rfl (by omega) (by omega) rfl rfl (by kernel_rfl) rfl ?_
  refine d_v 15 (by kernel_rfl) rfl rfl ttok rfl (by trivial) ?_ (fun h => by first | rfl | cases h)
  refine dz0 ?_; refine rl ?_; (iterate 3 refine o1 ?_); refine nl ?_
  exact ⟨k + 1, by omega, by omega, su0 h0 [2] _ _ (by decide) ⟨rfl, rfl, rfl, trivial⟩ ⟨oeI rfl (i64T_app _ [nth xs k % 65536, nth xs k / 65536]) (hv_take (by omega)).symm, rfl⟩⟩
 refine ex ?_; refine sq ?_; refine rl ?_; refine WL.sub (fzI (i := 3) (zs' := hv xs) rfl rfl rfl (by rw [hv_len, List.length_take]; omega) (by rw [List.take_of_length_le (by omega)])) ?_
 refine o1 ?_; refine ca (c_cut3 (by rw [hv_len]; omega)) ok172 ⟨a1 rfl, rfl⟩ (.one (.t (sI false (trim (hv xs))))) ?_
 refine o1 ?_; refine nl ?_; refine rt ?_; exact en (.inl rfl) rfl (pk1 (.one (.id rfl))) (by decide) (fun h => by cases h) (by rw [hv_dg hl]; rfl)
theorem c_limbs3 {xs zs : List Nat} (hx : xs.length ≤ 4398046511104) (hl : Lim 65536 xs) (hz : lb xs = zs) : Spec true Tryz.prog 141 [] [.one (.t (sI false xs))] (Ret (.one (.t (sU true zs)))) := by
 refine fn0 Tryz.func141 rfl Tryz.ntmps141 rfl ttok rfl fun N w c0 h0 => ?_
 refine sq ?_; refine rl ?_; refine o1 ?_; refine nl ?_; refine sq ?_; refine rl ?_; (iterate 3 refine o1 ?_)
 refine WL.cast (t := 7) (u' := .int .i64 ((xs.length + 1 : Nat) : Int)) rfl (cint (by omega)) ?_
 refine o1 ?_ (hC := (quo_in 2 (by omega) (by simp only [InR]; omega)))
 refine WL.cast (t := 8) (u' := .int .i64 (((xs.length + 1) / 2 : Nat) : Int)) rfl (cint (quo_nat _ 2)) ?_; refine mk (m := (xs.length + 1) / 2) 0 (by omega) (u32_zero _) ?_
 refine o1 ?_; refine nl ?_; refine sq ?_; refine sq ?_; refine rl ?_; refine o1 ?_; refine nl ?_; refine bl ?_
 refine lp (γ := Nat) (fun k => frL [(0, .one (.t (sI false xs))), (3, .one (.sl 0 0 ((xs.length + 1) / 2))), (4, .one (tv (.int .i64 ((k : Nat) : Int))))]) (fun k => [(⟨109, 1, (u32T (lbp xs k ((xs.length + 1) / 2))).map .t⟩ : Ob)].map some) (fun k => k ≤ xs.length) (fun k => xs.length - k) 0 (Nat.zero_le _) (su0 h0 [0] _ _ (by decide) ⟨rfl, rfl, rfl, trivial⟩ ⟨oeU rfl rfl lbp_zero.symm, rfl⟩) fun k hk => ?_
 have hn := hl.nth (by omega) k
 have hln := lbp_len (l := xs) (k := k) (N := (xs.length + 1) / 2) rfl hk
 refine sq ?_; refine sq ?_; refine rl ?_; (iterate 4 refine o1 ?_); refine nl ?_; refine cdp rfl (fun h1 => ?_) (fun h1 => ?_)
 ·refine sk ?_; refine sq ?_; refine bl ?_; refine sq ?_; refine rl ?_; refine o1 ?_; refine o1 ?_; refine WL.cast (t := 17) (u' := .int .i64 ((k % 2 : Nat) : Int)) rfl (cint (rem_nat _ 2)) ?_
  refine o1 ?_; refine nl ?_; refine cdp rfl (fun h2 => ?_) (fun h2 => ?_)
  ·refine rl ?_; refine o1 ?_; refine o1 ?_; refine o1 ?_ (hC := (quo_in 2 (by omega) (by simp only [InR]; omega)))
   refine WL.cast (t := 21) (u' := .int .i64 ((k / 2 : Nat) : Int)) rfl (cint (quo_nat _ 2)) ?_; (iterate 3 refine o1 ?_)
   refine ldf ([.v (.int .i64 ((nth xs (k) : Nat) : Int))]) (i64_at xs (k := k) (by omega)) ?_
   refine o1 ?_; refine WL.cast (t := 26) (u' := .int .u32 ((nth xs k : Nat) : Int)) rfl (cint rfl) ?_; refine o1 ?_
   refine sto (u32_put (lbp xs k ((xs.length + 1) / 2)) (k := k / 2) (v := nth xs k) (by omega)) (u32_le (lbp xs k ((xs.length + 1) / 2)) (by omega)) ?_
   refine nl ?_; refine rl ?_; refine o1 ?_; refine o1 ?_; refine WL.cast (t := 15) (u' := .int .i64 ((k + 1 : Nat) : Int)) rfl (cint (by omega)) ?_
   refine o1 ?_; refine nl ?_; exact ⟨k + 1, by omega, by omega, su0 h0 [0] _ _ (by decide) ⟨rfl, rfl, rfl, trivial⟩ ⟨oeU rfl rfl (lbp_even rfl (by omega) (by omega)), rfl⟩⟩
  have hnt := lbp_odd_nth (l := xs) (k := k) (N := (xs.length + 1) / 2) rfl (by omega) (by omega)
  have hb1 := hl.nth (by omega) (k - 1)
  refine rd [0] (fun i => [16].contains i) mixed ?_
  refine dv 0 ?_; refine dv 1 ?_; refine dv 2 ?_ (hC := (quo_in 2 (by omega) (by simp only [InR]; omega)))
  refine WD.cast (t := 30) (u' := .int .i64 ((k / 2 : Nat) : Int)) rfl (cint (quo_nat _ 2)) ?_; refine dv 3 ?_; refine dv 4 ?_
  refine dv 5 ?_ (hC := (quo_in 2 (by omega) (by simp only [InR]; omega)))
  refine WD.cast (t := 33) (u' := .int .i64 ((k / 2 : Nat) : Int)) rfl (cint (quo_nat _ 2)) ?_; refine dv 6 ?_; refine dldo 7 (u32_ob (lbp xs k ((xs.length + 1) / 2)) (k := k / 2) (by omega)) ?_
  refine dv 8 ?_; refine dv 9 ?_; refine dv 10 ?_; refine dlr 11 ([.v (.int .i64 ((nth xs (k) : Nat) : Int))]) (i64_at xs (k := k) (by omega)) ?_
  refine dv 12 ?_; refine dv 13 ?_; refine dv 14 ?_
  refine WD.cast (t := 42) (u' := .int .u32 ((nth (lbp xs k ((xs.length + 1) / 2)) (k / 2) + 65536 * nth xs k : Nat) : Int)) rfl (cint (by omega)) ?_
  refine dv 15 ?_
  refine dsto 16 (u32_put (lbp xs k ((xs.length + 1) / 2)) (k := k / 2) (v := nth (lbp xs k ((xs.length + 1) / 2)) (k / 2) + 65536 * nth xs k) (by omega)) (u32_le (lbp xs k ((xs.length + 1) / 2)) (by omega)) ?_
  refine dz0 ?_; refine rl ?_; refine o1 ?_; refine o1 ?_; refine WL.cast (t := 15) (u' := .int .i64 ((k + 1 : Nat) : Int)) rfl (cint (by omega)) ?_
  refine o1 ?_; refine nl ?_; exact ⟨k + 1, by omega, by omega, su0 h0 [0] _ _ (by decide) ⟨rfl, rfl, rfl, trivial⟩ ⟨oeU rfl rfl (lbp_odd rfl (by omega) (by omega)), rfl⟩⟩
 refine ex ?_; refine sq ?_; refine rl ?_; refine o1 ?_; refine o1 ?_; refine nl ?_; refine rt ?_
 exact en (.inl rfl) rfl (pk1 (.one (.sl (trs := u32T (lb xs)) rfl rfl (by rw [lbp_all rfl (by omega), Nat.mul_one, List.take_of_length_le (by simp [u32T_len, lb_len])]) (by simp [u32T_len, lb_len])))) (by decide) (fun _ => .inl ⟨rfl, nofr_u32 _⟩) (by subst hz; unfold sU; rw [lb_len]; rfl)
theorem c_times3 {xs ys : List Nat} (hx : xs.length ≤ 1099511627776) (hy : ys.length ≤ 1099511627776) (hlx : Lim 65536 xs) (hly : Lim 65536 ys) : Spec false Tryz.prog 142 [] [.one (.t (sI false xs)), .one (.t (sI false ys))] (Ret (.one (.t (sI false (dg 65536 (vl 65536 xs * vl 65536 ys)))))) := by
 refine fn0 Tryz.func142 rfl Tryz.ntmps142 rfl ttok rfl fun N w c0 h0 => ?_
 refine sq ?_; refine rl ?_; refine o1 ?_; refine nl ?_; refine sq ?_; refine rl ?_; (iterate 5 refine o1 ?_)
 refine WL.cast (t := 14) (u' := .int .i64 ((xs.length + ys.length : Nat) : Int)) rfl (cint (by omega)) ?_
 refine o1 ?_; refine WL.cast (t := 15) (u' := .int .i64 ((xs.length + ys.length + 1 : Nat) : Int)) rfl (cint (by omega)) ?_
 refine mk (m := xs.length + ys.length + 1) 0 (by omega) (i64_zero _) ?_
 refine o1 ?_; refine nl ?_; refine sq ?_; refine sq ?_; refine rl ?_; refine o1 ?_; refine nl ?_; refine bl ?_
 refine lp (γ := Nat × List Nat) (fun s => frL [(0, .one (.t (sI false xs))), (1, .one (.t (sI false ys))), (5, .one (.sl 0 0 (xs.length + ys.length + 1))), (6, .one (tv (.int .i64 ((s.1 : Nat) : Int))))]) (fun s => [(⟨3, 1, (i64T s.2).map .t⟩ : Ob)].map some) (fun s => s.1 ≤ xs.length ∧ Lim 65536 s.2 ∧ s.2.length = xs.length + ys.length + 1 ∧ vl 65536 s.2 = vl 65536 (xs.take s.1) * vl 65536 ys) (fun s => xs.length - s.1) (0, List.replicate (xs.length + ys.length + 1) 0) ⟨Nat.zero_le _, Lim.replicate (by omega) _, List.length_replicate, by rw [vl_replicate]; simp [vl]⟩ (su0 h0 [0] _ _ (by decide) ⟨rfl, rfl, rfl, rfl, trivial⟩ ⟨oeI rfl rfl rfl, rfl⟩) ?_
 rintro ⟨i, os⟩ ⟨hi, hol, hos, hv⟩; dsimp only at hi hol hos hv ⊢; refine sq ?_; refine sq ?_; refine rl ?_; (iterate 4 refine o1 ?_); refine nl ?_; refine cdp rfl (fun h1 => ?_) (fun h1 => ?_)
 ·refine sk ?_; refine sq ?_; refine bl ?_; refine sq ?_; refine rl ?_; refine o1 ?_; refine nl ?_; refine sq ?_; refine rl ?_; refine o1 ?_; refine nl ?_; refine bl ?_
  have hil := hlx.nth (by omega) i
  refine lp (γ := Nat × Nat × List Nat) (fun s => frL [(0, .one (.t (sI false xs))), (1, .one (.t (sI false ys))), (5, .one (.sl 0 0 (xs.length + ys.length + 1))), (6, .one (tv (.int .i64 ((i : Nat) : Int)))), (7, .one (tv (.int .i64 ((s.2.1 : Nat) : Int)))), (8, .one (tv (.int .i64 ((s.1 : Nat) : Int))))]) (fun s => [(⟨3, 1, (i64T s.2.2).map .t⟩ : Ob)].map some) (fun s => s.1 ≤ ys.length + 1 ∧ Lim 65536 s.2.2 ∧ s.2.2.length = xs.length + ys.length + 1 ∧ vl 65536 s.2.2 + 65536 ^ (i + s.1) * s.2.1 = vl 65536 (xs.take i) * vl 65536 ys + 65536 ^ i * (nth xs i * vl 65536 (ys.take s.1)) ∧ s.2.1 ≤ 65535) (fun s => ys.length + 1 - s.1) (0, 0, os) ⟨Nat.zero_le _, hol, hos, by dsimp only; rw [hv]; simp [vl], Nat.zero_le _⟩ (su0 h0 [0] _ _ (by decide) ⟨rfl, rfl, rfl, rfl, rfl, rfl, trivial⟩ ⟨oeI rfl rfl rfl, rfl⟩) ?_
  rintro ⟨k, cr, os2⟩ ⟨hk, hol2, hos2, hv2, hcb⟩; dsimp only at hk hol2 hos2 hv2 hcb ⊢; refine sq ?_; refine sq ?_; refine rl ?_; (iterate 5 refine o1 ?_)
  refine WL.split (t := 27) rfl (fun h2 => ?_) (fun h2 => ?_)
  ·refine no_ ?_; refine no_ ?_; refine o1 ?_; refine nl ?_; refine cdt rfl ?_; refine sk ?_; refine sq ?_; refine bl ?_; refine sq ?_
   have hkl : k ≤ ys.length := by first | omega | exact times_in hlx hly (by omega) hk hv2 (by omega)
   have hon := hol2.nth (by omega) (i + k)
   have hyn := hly.nth (by omega) k
   have hmul := Nat.mul_le_mul (Nat.le_of_lt_succ hil) (Nat.le_of_lt_succ hyn)
   refine rl ?_; (iterate 4 refine o1 ?_); refine WL.cast (t := 36) (u' := .int .i64 ((i + k : Nat) : Int)) rfl (cint (by omega)) ?_
   refine o1 ?_; refine ldo (i64_ob os2 (k := i + k) (by omega)) ?_
   refine o1 ?_; refine o1 ?_; refine WL.cast (t := 40) (u' := .int .i64 ((nth os2 (i + k) + cr : Nat) : Int)) rfl (cint (by omega)) ?_
   refine o1 ?_; refine nl ?_; refine sq ?_; refine sq ?_; refine rl ?_; (iterate 4 refine o1 ?_); refine nl ?_; refine cdp rfl (fun h3 => ?_) (fun h3 => ?_)
   ·refine rd [] (fun i => [11].contains i) mixed ?_
    refine dv 0 ?_; refine dv 1 ?_; refine dv 2 ?_; refine dv 3 ?_; refine dlr 4 ([.v (.int .i64 ((nth xs (i) : Nat) : Int))]) (i64_at xs (k := i) (by omega)) ?_
    refine dv 5 ?_; refine dv 6 ?_; refine dv 7 ?_; refine dlr 8 ([.v (.int .i64 ((nth ys (k) : Nat) : Int))]) (i64_at ys (k := k) (by omega)) ?_
    refine dv 9 ?_; refine WD.cast (t := 54) (u' := .int .i64 ((nth xs i * nth ys k : Nat) : Int)) rfl (cint (Int.natCast_mul _ _).symm) ?_; refine dv 10 ?_
    refine WD.cast (t := 55) (u' := .int .i64 ((nth os2 (i + k) + cr + nth xs i * nth ys k : Nat) : Int)) rfl (cint (by omega)) ?_
    refine d_v 11 (by kernel_rfl) rfl rfl ttok rfl (by trivial) ?_ (fun h => by first | rfl | cases h)
    refine dz0 ?_; refine sq ?_; refine rl ?_; (iterate 4 refine o1 ?_); refine WL.cast (t := 59) (u' := .int .i64 ((i + k : Nat) : Int)) rfl (cint (by omega)) ?_
    refine o1 ?_; refine o1 ?_; refine WL.cast (t := 61) (u' := .int .i64 (((nth os2 (i + k) + cr + nth xs i * nth ys k) % 65536 : Nat) : Int)) rfl (cint (rem_nat _ 65536)) ?_; refine o1 ?_
    refine sto (i64_put os2 (k := i + k) (v := (nth os2 (i + k) + cr + nth xs i * nth ys k) % 65536) (by omega)) (i64_le os2 (by omega)) ?_
    refine nl ?_; refine rl ?_; refine o1 ?_; refine o1 ?_ (hC := (quo_in 65536 (by omega) (by simp only [InR]; omega)))
    refine WL.cast (t := 64) (u' := .int .i64 (((nth os2 (i + k) + cr + nth xs i * nth ys k) / 65536 : Nat) : Int)) rfl (cint (quo_nat _ 65536)) ?_; refine o1 ?_; refine nl ?_; refine rl ?_
    refine o1 ?_; refine o1 ?_; refine WL.cast (t := 32) (u' := .int .i64 ((k + 1 : Nat) : Int)) rfl (cint (by omega)) ?_
    refine o1 ?_; refine nl ?_; have hst := times_step (x := nth os2 (i + k) + cr + nth xs i * nth ys k) (by omega) hv2 (by rfl)
    exact ⟨(k + 1, (nth os2 (i + k) + cr + nth xs i * nth ys k) / 65536, os2.set (i + k) ((nth os2 (i + k) + cr + nth xs i * nth ys k) % 65536)), by dsimp only; omega, ⟨by dsimp only; omega, hol2.set _ (Nat.mod_lt _ (by omega)), by rw [List.length_set]; exact hos2, hst, by dsimp only; omega⟩, su0 h0 [0] _ _ (by decide) ⟨rfl, rfl, rfl, rfl, rfl, rfl, trivial⟩ ⟨oeI rfl rfl rfl, rfl⟩⟩
   refine sk ?_; refine sq ?_; refine rl ?_; (iterate 4 refine o1 ?_); refine WL.cast (t := 59) (u' := .int .i64 ((i + k : Nat) : Int)) rfl (cint (by omega)) ?_
   refine o1 ?_; refine o1 ?_; refine WL.cast (t := 61) (u' := .int .i64 (((nth os2 (i + k) + cr) % 65536 : Nat) : Int)) rfl (cint (rem_nat _ 65536)) ?_; refine o1 ?_
   refine sto (i64_put os2 (k := i + k) (v := (nth os2 (i + k) + cr) % 65536) (by omega)) (i64_le os2 (by omega)) ?_
   refine nl ?_; refine rl ?_; refine o1 ?_; refine o1 ?_ (hC := (quo_in 65536 (by omega) (by simp only [InR]; omega)))
   refine WL.cast (t := 64) (u' := .int .i64 (((nth os2 (i + k) + cr) / 65536 : Nat) : Int)) rfl (cint (quo_nat _ 65536)) ?_; refine o1 ?_; refine nl ?_; refine rl ?_; refine o1 ?_; refine o1 ?_
   refine WL.cast (t := 32) (u' := .int .i64 ((k + 1 : Nat) : Int)) rfl (cint (by omega)) ?_
   refine o1 ?_; refine nl ?_; have hny : nth ys k = 0 := nth_out (by omega)
   have hst := times_step (x := nth os2 (i + k) + cr) (by omega) hv2 (by rw [hny, Nat.mul_zero, Nat.add_zero])
   exact ⟨(k + 1, (nth os2 (i + k) + cr) / 65536, os2.set (i + k) ((nth os2 (i + k) + cr) % 65536)), by dsimp only; omega, ⟨by dsimp only; omega, hol2.set _ (Nat.mod_lt _ (by omega)), by rw [List.length_set]; exact hos2, hst, by dsimp only; omega⟩, su0 h0 [0] _ _ (by decide) ⟨rfl, rfl, rfl, rfl, rfl, rfl, trivial⟩ ⟨oeI rfl rfl rfl, rfl⟩⟩
  (iterate 3 refine o1 ?_); refine nl ?_; refine cdp rfl (fun h4 => ?_) (fun h4 => ?_)
  ·refine sk ?_; refine sq ?_; refine bl ?_; refine sq ?_; have hkl : k ≤ ys.length := by first | omega | exact times_in hlx hly (by omega) hk hv2 (by omega)
   have hon := hol2.nth (by omega) (i + k)
   have hyn := hly.nth (by omega) k
   have hmul := Nat.mul_le_mul (Nat.le_of_lt_succ hil) (Nat.le_of_lt_succ hyn)
   refine rl ?_; (iterate 4 refine o1 ?_); refine WL.cast (t := 36) (u' := .int .i64 ((i + k : Nat) : Int)) rfl (cint (by omega)) ?_
   refine o1 ?_; refine ldo (i64_ob os2 (k := i + k) (by omega)) ?_
   refine o1 ?_; refine o1 ?_; refine WL.cast (t := 40) (u' := .int .i64 ((nth os2 (i + k) + cr : Nat) : Int)) rfl (cint (by omega)) ?_
   refine o1 ?_; refine nl ?_; refine sq ?_; refine sq ?_; refine rl ?_; (iterate 4 refine o1 ?_); refine nl ?_; refine cdp rfl (fun h5 => ?_) (fun h5 => ?_)
   ·refine rd [] (fun i => [11].contains i) mixed ?_
    refine dv 0 ?_; refine dv 1 ?_; refine dv 2 ?_; refine dv 3 ?_; refine dlr 4 ([.v (.int .i64 ((nth xs (i) : Nat) : Int))]) (i64_at xs (k := i) (by omega)) ?_
    refine dv 5 ?_; refine dv 6 ?_; refine dv 7 ?_; refine dlr 8 ([.v (.int .i64 ((nth ys (k) : Nat) : Int))]) (i64_at ys (k := k) (by omega)) ?_
    refine dv 9 ?_; refine WD.cast (t := 54) (u' := .int .i64 ((nth xs i * nth ys k : Nat) : Int)) rfl (cint (Int.natCast_mul _ _).symm) ?_; refine dv 10 ?_
    refine WD.cast (t := 55) (u' := .int .i64 ((nth os2 (i + k) + cr + nth xs i * nth ys k : Nat) : Int)) rfl (cint (by omega)) ?_
    refine d_v 11 (by kernel_rfl) rfl rfl ttok rfl (by trivial) ?_ (fun h => by first | rfl | cases h)
    refine dz0 ?_; refine sq ?_; refine rl ?_; (iterate 4 refine o1 ?_); refine WL.cast (t := 59) (u' := .int .i64 ((i + k : Nat) : Int)) rfl (cint (by omega)) ?_
    refine o1 ?_; refine o1 ?_; refine WL.cast (t := 61) (u' := .int .i64 (((nth os2 (i + k) + cr + nth xs i * nth ys k) % 65536 : Nat) : Int)) rfl (cint (rem_nat _ 65536)) ?_; refine o1 ?_
    refine sto (i64_put os2 (k := i + k) (v := (nth os2 (i + k) + cr + nth xs i * nth ys k) % 65536) (by omega)) (i64_le os2 (by omega)) ?_
    refine nl ?_; refine rl ?_; refine o1 ?_; refine o1 ?_ (hC := (quo_in 65536 (by omega) (by simp only [InR]; omega)))
    refine WL.cast (t := 64) (u' := .int .i64 (((nth os2 (i + k) + cr + nth xs i * nth ys k) / 65536 : Nat) : Int)) rfl (cint (quo_nat _ 65536)) ?_; refine o1 ?_; refine nl ?_; refine rl ?_
    refine o1 ?_; refine o1 ?_; refine WL.cast (t := 32) (u' := .int .i64 ((k + 1 : Nat) : Int)) rfl (cint (by omega)) ?_
    refine o1 ?_; refine nl ?_; have hst := times_step (x := nth os2 (i + k) + cr + nth xs i * nth ys k) (by omega) hv2 (by rfl)
    exact ⟨(k + 1, (nth os2 (i + k) + cr + nth xs i * nth ys k) / 65536, os2.set (i + k) ((nth os2 (i + k) + cr + nth xs i * nth ys k) % 65536)), by dsimp only; omega, ⟨by dsimp only; omega, hol2.set _ (Nat.mod_lt _ (by omega)), by rw [List.length_set]; exact hos2, hst, by dsimp only; omega⟩, su0 h0 [0] _ _ (by decide) ⟨rfl, rfl, rfl, rfl, rfl, rfl, trivial⟩ ⟨oeI rfl rfl rfl, rfl⟩⟩
   refine sk ?_; refine sq ?_; refine rl ?_; (iterate 4 refine o1 ?_); refine WL.cast (t := 59) (u' := .int .i64 ((i + k : Nat) : Int)) rfl (cint (by omega)) ?_
   refine o1 ?_; refine o1 ?_; refine WL.cast (t := 61) (u' := .int .i64 (((nth os2 (i + k) + cr) % 65536 : Nat) : Int)) rfl (cint (rem_nat _ 65536)) ?_; refine o1 ?_
   refine sto (i64_put os2 (k := i + k) (v := (nth os2 (i + k) + cr) % 65536) (by omega)) (i64_le os2 (by omega)) ?_
   refine nl ?_; refine rl ?_; refine o1 ?_; refine o1 ?_ (hC := (quo_in 65536 (by omega) (by simp only [InR]; omega)))
   refine WL.cast (t := 64) (u' := .int .i64 (((nth os2 (i + k) + cr) / 65536 : Nat) : Int)) rfl (cint (quo_nat _ 65536)) ?_; refine o1 ?_; refine nl ?_; refine rl ?_; refine o1 ?_; refine o1 ?_
   refine WL.cast (t := 32) (u' := .int .i64 ((k + 1 : Nat) : Int)) rfl (cint (by omega)) ?_
   refine o1 ?_; refine nl ?_; have hny : nth ys k = 0 := nth_out (by omega)
   have hst := times_step (x := nth os2 (i + k) + cr) (by omega) hv2 (by rw [hny, Nat.mul_zero, Nat.add_zero])
   exact ⟨(k + 1, (nth os2 (i + k) + cr) / 65536, os2.set (i + k) ((nth os2 (i + k) + cr) % 65536)), by dsimp only; omega, ⟨by dsimp only; omega, hol2.set _ (Nat.mod_lt _ (by omega)), by rw [List.length_set]; exact hos2, hst, by dsimp only; omega⟩, su0 h0 [0] _ _ (by decide) ⟨rfl, rfl, rfl, rfl, rfl, rfl, trivial⟩ ⟨oeI rfl rfl rfl, rfl⟩⟩
  refine ex ?_; refine rl ?_; refine o1 ?_; refine o1 ?_; refine WL.cast (t := 22) (u' := .int .i64 ((i + 1 : Nat) : Int)) rfl (cint (by omega)) ?_
  refine o1 ?_; refine nl ?_; have hcr0 : cr = 0 := by omega
  rw [hcr0, Nat.mul_zero, Nat.add_zero, times_next (by omega)] at hv2
  exact ⟨(i + 1, os2), by dsimp only; omega, ⟨by dsimp only; omega, hol2, hos2, hv2⟩, su0 h0 [0] _ _ (by decide) ⟨rfl, rfl, rfl, rfl, trivial⟩ ⟨oeI rfl rfl rfl, rfl⟩⟩
 refine ex ?_; refine sq ?_; refine rl ?_; rw [vl_take_all 65536 (by omega)] at hv
 refine WL.sub (fzI (i := 5) (zs' := os) rfl rfl rfl (by omega) rfl) ?_
 refine o1 ?_; refine ca (c_cut3 (by omega)) ok172 ⟨a1 rfl, rfl⟩ (.one (.t (sI false (trim os)))) ?_
 refine o1 ?_; refine nl ?_; refine rt ?_; exact en (.inl rfl) rfl (pk1 (.one (.id rfl))) (by decide) (fun h => by cases h) (by rw [dg_of (by omega) hol hv]; rfl)
theorem c_less3 {u v : Nat} (hx : (dg 65536 (u)).length ≤ 4398046511104) (hy : (dg 65536 (v)).length ≤ 4398046511104) : Spec true Tryz.prog 191 [] [.one (.t (sI false (dg 65536 u))), .one (.t (sI false (dg 65536 v)))] (Ret (.one (tv (.bool (decide (u < v)))))) := by
 refine fn0 Tryz.func191 rfl Tryz.ntmps191 rfl ttok rfl fun N w c0 h0 => ?_
 refine sq ?_; refine rl ?_; refine o1 ?_; refine nl ?_; refine sq ?_; refine sq ?_; refine rl ?_; (iterate 5 refine o1 ?_); refine nl ?_; refine cdp rfl (fun h1 => ?_) (fun h1 => ?_)
 ·refine sq ?_; refine rl ?_; (iterate 6 refine o1 ?_); refine nl ?_; refine rt ?_
  refine en (.inl rfl) rfl (pk1 (pkv _)) (by decide) (fun _ => trivial) (congrArg (fun z => FV.one (tv (.bool z))) ?_)
  exact less_len rfl rfl (by omega)
 refine sk ?_; refine sq ?_; refine sq ?_; refine rl ?_; (iterate 4 refine o1 ?_); refine nl ?_; refine bl ?_
 refine lp (γ := Nat) (fun k => frL [(0, .one (.t (sI false (dg 65536 u)))), (1, .one (.t (sI false (dg 65536 v)))), (5, .one (tv (.int .i64 ((k : Nat) - 1))))]) (fun k => ([] : List Ob).map some) (fun k => (∀ j, k ≤ j → nth (dg 65536 (u)) j = nth (dg 65536 (v)) j) ∧ k ≤ (dg 65536 (u)).length) (fun k => k) (dg 65536 (u)).length ⟨fun j hj => by rw [nth_out (by omega), nth_out (by omega)], Nat.le_refl _⟩ (su0 h0 [] _ _ (by decide) ⟨rfl, rfl, rfl, trivial⟩ rfl) fun k hk => ?_
 refine sq ?_; refine sq ?_; refine rl ?_; refine o1 ?_; refine o1 ?_; refine nl ?_; refine cdp rfl (fun h2 => ?_) (fun h2 => ?_)
 ·refine sk ?_; refine sq ?_; refine bl ?_; refine sq ?_; refine rd [] (fun i => [].contains i) mixed ?_
  refine dv 0 ?_; refine dv 1 ?_; refine WD.cast (t := 24) (u' := .int .i64 ((k - 1 : Nat) : Int)) rfl (cint (by omega)) ?_
  refine dv 2 ?_; refine dlr 3 ([.v (.int .i64 ((nth (dg 65536 (u)) (k - 1) : Nat) : Int))]) (i64_at (dg 65536 (u)) (k := k - 1) (by omega)) ?_
  refine dv 4 ?_; refine dv 5 ?_; refine WD.cast (t := 28) (u' := .int .i64 ((k - 1 : Nat) : Int)) rfl (cint (by omega)) ?_
  refine dv 6 ?_; refine dlr 7 ([.v (.int .i64 ((nth (dg 65536 (v)) (k - 1) : Nat) : Int))]) (i64_at (dg 65536 (v)) (k := k - 1) (by omega)) ?_
  refine dv 8 ?_; refine dz0 ?_; refine cdp rfl (fun h3 => ?_) (fun h3 => ?_)
  ·refine sq ?_; refine rd [] (fun i => [9].contains i) mixed ?_
   refine dv 0 ?_; refine dv 1 ?_; refine WD.cast (t := 33) (u' := .int .i64 ((k - 1 : Nat) : Int)) rfl (cint (by omega)) ?_
   refine dv 2 ?_; refine dlr 3 ([.v (.int .i64 ((nth (dg 65536 (u)) (k - 1) : Nat) : Int))]) (i64_at (dg 65536 (u)) (k := k - 1) (by omega)) ?_
   refine dv 4 ?_; refine dv 5 ?_; refine WD.cast (t := 37) (u' := .int .i64 ((k - 1 : Nat) : Int)) rfl (cint (by omega)) ?_
   refine dv 6 ?_; refine dlr 7 ([.v (.int .i64 ((nth (dg 65536 (v)) (k - 1) : Nat) : Int))]) (i64_at (dg 65536 (v)) (k := k - 1) (by omega)) ?_
   refine dv 8 ?_; refine d_v 9 (by kernel_rfl) rfl rfl ttok rfl (by trivial) ?_ (fun h => by first | rfl | cases h)
   refine dz0 ?_; refine rt ?_; refine en (.inl rfl) rfl (pk1 (pkv _)) (by decide) (fun _ => trivial) (congrArg (fun z => FV.one (tv (.bool z))) ?_)
   exact less_at (k := k - 1) (fun j hj => hk.1 j (by omega)) (by omega)
  refine sk ?_; refine rl ?_; (iterate 3 refine o1 ?_); refine nl ?_
  exact ⟨k - 1, by omega, ⟨fun j hj => (Nat.eq_or_lt_of_le hj).elim (fun h9 => by rw [← h9]; omega) (fun h9 => hk.1 j (by omega)), by omega⟩, su0 h0 [] _ _ (by decide) ⟨rfl, rfl, congrArg (fun z => some (FV.one (tv (.int .i64 z)))) (by omega), trivial⟩ rfl⟩
 refine ex ?_; refine sq ?_; refine rl ?_; refine o1 ?_; refine nl ?_; refine rt ?_
 refine en (.inl rfl) rfl (pk1 (pkv _)) (by decide) (fun _ => trivial) (congrArg (fun z => FV.one (tv (.bool z))) ?_)
 have he := eq_all (fun j => hk.1 j (by omega))
 rw [vl_dg (by omega), vl_dg (by omega)] at he
 rw [he, decide_eq_false (Nat.lt_irrefl v)]
theorem c_take3 {u v n : Nat} (hx : (dg 65536 (u)).length ≤ 1099511627776) (hy : (dg 65536 (v)).length ≤ 1099511627776) (hn : n ≤ 65536) (hnv : n * v ≤ u) : Spec false Tryz.prog 180 [] [.one (.t (sI false (dg 65536 u))), .one (.t (sI false (dg 65536 v))), .one (tv (.int .i64 ((n : Nat) : Int)))] (Ret (.one (.t (sI false (dg 65536 (u - n * v)))))) := by
 refine fn0 Tryz.func180 rfl Tryz.ntmps180 rfl ttok rfl fun N w c0 h0 => ?_
 have hlu := Lim_dg (B := 65536) (by omega) u
 have hlv := Lim_dg (B := 65536) (by omega) v
 refine sq ?_; refine rl ?_; refine o1 ?_; refine nl ?_; refine sq ?_; refine rl ?_; refine o1 ?_; refine nl ?_; refine sq ?_; refine rl ?_; refine o1 ?_; refine nl ?_; refine sq ?_; refine sq ?_
 refine rl ?_; refine o1 ?_; refine nl ?_; refine bl ?_
 refine lp (γ := Nat × Nat × List Nat) (fun s => frL [(0, .one (.t (sI false (dg 65536 u)))), (1, .one (.t (sI false (dg 65536 v)))), (2, .one (tv (.int .i64 ((n : Nat) : Int)))), (7, .one (.sl 0 0 s.1)), (8, .one (tv (.int .i64 ((s.2.1 : Nat) : Int)))), (9, .one (tv (.int .i64 ((s.1 : Nat) : Int))))]) (fun s => [(⟨3, 1, (i64T s.2.2).map .t⟩ : Ob)].map some) (fun s => s.2.2.length = s.1 ∧ Lim 65536 s.2.2 ∧ vl 65536 s.2.2 + n * vl 65536 ((dg 65536 (v)).take s.1) = vl 65536 ((dg 65536 (u)).take s.1) + 65536 ^ s.1 * s.2.1 ∧ s.2.1 ≤ 65536 ∧ s.1 ≤ (dg 65536 (u)).length) (fun s => (dg 65536 (u)).length - s.1) (0, 0, []) ⟨rfl, Lim.nil, by simp [vl], Nat.zero_le _, Nat.zero_le _⟩ ((nr (i := 7) 0 3 1 rfl rfl rfl rfl).trans (su0 h0 [0] _ _ (by decide) ⟨rfl, rfl, rfl, rfl, rfl, rfl, trivial⟩ ⟨oet (l := []) rfl, rfl⟩)) ?_
 rintro ⟨k, br, os⟩ ⟨hos, hol, hv, hc1, hkm⟩; dsimp only at hos hol hv hc1 hkm ⊢; have hn1 := hlu.nth (by omega) k
 have hn2 := hlv.nth (by omega) k
 have hmul := Nat.mul_le_mul hn (Nat.le_of_lt_succ hn2)
 refine sq ?_; refine sq ?_; refine rl ?_; (iterate 4 refine o1 ?_); refine nl ?_; refine cdp rfl (fun h1 => ?_) (fun h1 => ?_)
 ·refine sk ?_; refine sq ?_; refine bl ?_; refine sq ?_; refine rl ?_; (iterate 3 refine o1 ?_)
  refine ldf ([.v (.int .i64 ((nth (dg 65536 (u)) (k) : Nat) : Int))]) (i64_at (dg 65536 (u)) (k := k) (by omega)) ?_
  (iterate 3 refine o1 ?_); refine nl ?_; refine sq ?_; refine sq ?_; refine rl ?_; (iterate 4 refine o1 ?_); refine nl ?_; refine cdp rfl (fun h2 => ?_) (fun h2 => ?_)
  ·refine rl ?_; (iterate 5 refine o1 ?_); refine ldf ([.v (.int .i64 ((nth (dg 65536 (v)) (k) : Nat) : Int))]) (i64_at (dg 65536 (v)) (k := k) (by omega)) ?_
   (iterate 3 refine o1 ?_); refine nl ?_; refine sq ?_; refine rl ?_; refine o1 ?_; refine nl ?_; refine sq ?_; refine sq ?_; refine rl ?_; refine o1 ?_; refine o1 ?_; refine nl ?_
   refine cdp rfl (fun h3 => ?_) (fun h3 => ?_)
   ·refine sq ?_; refine rl ?_; refine o1 ?_; refine o1 ?_
    refine WL.cast (t := 38) (u' := .int .i64 ((65535 + n * nth (dg 65536 (v)) k + br - nth (dg 65536 (u)) k : Nat) : Int)) rfl (cint (by omega)) ?_
    refine o1 ?_ (hC := (quo_in 65536 (by omega) (by simp only [InR]; omega)))
    refine WL.cast (t := 39) (u' := .int .i64 (((65535 + n * nth (dg 65536 (v)) k + br - nth (dg 65536 (u)) k) / 65536 : Nat) : Int)) rfl (cint (quo_nat _ 65536)) ?_; refine o1 ?_; refine nl ?_
    refine rl ?_; (iterate 5 refine o1 ?_); refine nl ?_; refine rl ?_; refine o1 ?_; refine o1 ?_
    refine WL.cast (t := 45) (u' := .int .i64 ((nth (dg 65536 (u)) k + 65536 * ((65535 + n * nth (dg 65536 (v)) k + br - nth (dg 65536 (u)) k) / 65536) - br - n * nth (dg 65536 (v)) k : Nat) : Int)) rfl (cint (by omega)) ?_
    refine bs 1 ?_; refine w_app (j := 2) ttok rfl rfl rfl rfl (.sl rfl (by rw [List.length_map, i64T_len, hos]; omega)) (.sl rfl rfl rfl) rfl rfl rfl (by omega) (by omega) ?_
    refine o1 ?_; refine nl ?_; refine rl ?_; refine o1 ?_; refine o1 ?_; refine WL.cast (t := 16) (u' := .int .i64 ((k + 1 : Nat) : Int)) rfl (cint (by omega)) ?_
    refine o1 ?_; refine nl ?_
    have hst := take_step (d := nth (dg 65536 (u)) k + 65536 * ((65535 + n * nth (dg 65536 (v)) k + br - nth (dg 65536 (u)) k) / 65536) - br - n * nth (dg 65536 (v)) k) (br := br) (br' := (65535 + n * nth (dg 65536 (v)) k + br - nth (dg 65536 (u)) k) / 65536) hos hv (by omega)
    exact ⟨(k + 1, (65535 + n * nth (dg 65536 (v)) k + br - nth (dg 65536 (u)) k) / 65536, os ++ [nth (dg 65536 (u)) k + 65536 * ((65535 + n * nth (dg 65536 (v)) k + br - nth (dg 65536 (u)) k) / 65536) - br - n * nth (dg 65536 (v)) k]), by dsimp only; omega, ⟨by simp [hos], hol.append (Lim.cons (by omega) Lim.nil), hst, by dsimp only; omega, by dsimp only; omega⟩, su0 h0 [2] _ _ (by decide) ⟨rfl, rfl, rfl, rfl, rfl, rfl, trivial⟩ ⟨oeI rfl (i64T_app _ [nth (dg 65536 (u)) k + 65536 * ((65535 + n * nth (dg 65536 (v)) k + br - nth (dg 65536 (u)) k) / 65536) - br - n * nth (dg 65536 (v)) k]) rfl, rfl⟩⟩
   refine sk ?_; refine rl ?_; refine o1 ?_; refine o1 ?_; refine WL.cast (t := 45) (u' := .int .i64 ((nth (dg 65536 (u)) k - br - n * nth (dg 65536 (v)) k : Nat) : Int)) rfl (cint (by omega)) ?_
   refine bs 1 ?_; refine w_app (j := 2) ttok rfl rfl rfl rfl (.sl rfl (by rw [List.length_map, i64T_len, hos]; omega)) (.sl rfl rfl rfl) rfl rfl rfl (by omega) (by omega) ?_
   refine o1 ?_; refine nl ?_; refine rl ?_; refine o1 ?_; refine o1 ?_; refine WL.cast (t := 16) (u' := .int .i64 ((k + 1 : Nat) : Int)) rfl (cint (by omega)) ?_
   refine o1 ?_; refine nl ?_; have hst := take_step (d := nth (dg 65536 (u)) k - br - n * nth (dg 65536 (v)) k) (br := br) (br' := 0) hos hv (by omega)
   exact ⟨(k + 1, 0, os ++ [nth (dg 65536 (u)) k - br - n * nth (dg 65536 (v)) k]), by dsimp only; omega, ⟨by simp [hos], hol.append (Lim.cons (by omega) Lim.nil), hst, by dsimp only; omega, by dsimp only; omega⟩, su0 h0 [2] _ _ (by decide) ⟨rfl, rfl, rfl, rfl, rfl, rfl, trivial⟩ ⟨oeI rfl (i64T_app _ [nth (dg 65536 (u)) k - br - n * nth (dg 65536 (v)) k]) rfl, rfl⟩⟩
  refine sk ?_; refine sq ?_; refine rl ?_; refine o1 ?_; refine nl ?_; refine sq ?_; refine sq ?_; refine rl ?_; refine o1 ?_; refine o1 ?_; refine nl ?_
  refine cdp rfl (fun h4 => ?_) (fun h4 => ?_)
  ·refine sq ?_; refine rl ?_; refine o1 ?_; refine o1 ?_; refine WL.cast (t := 38) (u' := .int .i64 ((65535 + br - nth (dg 65536 (u)) k : Nat) : Int)) rfl (cint (by omega)) ?_
   refine o1 ?_ (hC := (quo_in 65536 (by omega) (by simp only [InR]; omega)))
   refine WL.cast (t := 39) (u' := .int .i64 (((65535 + br - nth (dg 65536 (u)) k) / 65536 : Nat) : Int)) rfl (cint (quo_nat _ 65536)) ?_; refine o1 ?_; refine nl ?_; refine rl ?_
   (iterate 5 refine o1 ?_); refine nl ?_; refine rl ?_; refine o1 ?_; refine o1 ?_
   refine WL.cast (t := 45) (u' := .int .i64 ((nth (dg 65536 (u)) k + 65536 * ((65535 + br - nth (dg 65536 (u)) k) / 65536) - br : Nat) : Int)) rfl (cint (by omega)) ?_
   refine bs 1 ?_; refine w_app (j := 2) ttok rfl rfl rfl rfl (.sl rfl (by rw [List.length_map, i64T_len, hos]; omega)) (.sl rfl rfl rfl) rfl rfl rfl (by omega) (by omega) ?_
   refine o1 ?_; refine nl ?_; refine rl ?_; refine o1 ?_; refine o1 ?_; refine WL.cast (t := 16) (u' := .int .i64 ((k + 1 : Nat) : Int)) rfl (cint (by omega)) ?_
   refine o1 ?_; refine nl ?_; have hny : nth (dg 65536 (v)) k = 0 := nth_out (by omega)
   have hst := take_step (d := nth (dg 65536 (u)) k + 65536 * ((65535 + br - nth (dg 65536 (u)) k) / 65536) - br) (br := br) (br' := (65535 + br - nth (dg 65536 (u)) k) / 65536) hos hv (by rw [hny, Nat.mul_zero]; omega)
   exact ⟨(k + 1, (65535 + br - nth (dg 65536 (u)) k) / 65536, os ++ [nth (dg 65536 (u)) k + 65536 * ((65535 + br - nth (dg 65536 (u)) k) / 65536) - br]), by dsimp only; omega, ⟨by simp [hos], hol.append (Lim.cons (by omega) Lim.nil), hst, by dsimp only; omega, by dsimp only; omega⟩, su0 h0 [2] _ _ (by decide) ⟨rfl, rfl, rfl, rfl, rfl, rfl, trivial⟩ ⟨oeI rfl (i64T_app _ [nth (dg 65536 (u)) k + 65536 * ((65535 + br - nth (dg 65536 (u)) k) / 65536) - br]) rfl, rfl⟩⟩
  refine sk ?_; refine rl ?_; refine o1 ?_; refine o1 ?_; refine WL.cast (t := 45) (u' := .int .i64 ((nth (dg 65536 (u)) k - br : Nat) : Int)) rfl (cint (by omega)) ?_
  refine bs 1 ?_; refine w_app (j := 2) ttok rfl rfl rfl rfl (.sl rfl (by rw [List.length_map, i64T_len, hos]; omega)) (.sl rfl rfl rfl) rfl rfl rfl (by omega) (by omega) ?_
  refine o1 ?_; refine nl ?_; refine rl ?_; refine o1 ?_; refine o1 ?_; refine WL.cast (t := 16) (u' := .int .i64 ((k + 1 : Nat) : Int)) rfl (cint (by omega)) ?_
  refine o1 ?_; refine nl ?_; have hny : nth (dg 65536 (v)) k = 0 := nth_out (by omega)
  have hst := take_step (d := nth (dg 65536 (u)) k - br) (br := br) (br' := 0) hos hv (by rw [hny, Nat.mul_zero]; omega)
  exact ⟨(k + 1, 0, os ++ [nth (dg 65536 (u)) k - br]), by dsimp only; omega, ⟨by simp [hos], hol.append (Lim.cons (by omega) Lim.nil), hst, by dsimp only; omega, by dsimp only; omega⟩, su0 h0 [2] _ _ (by decide) ⟨rfl, rfl, rfl, rfl, rfl, rfl, trivial⟩ ⟨oeI rfl (i64T_app _ [nth (dg 65536 (u)) k - br]) rfl, rfl⟩⟩
 refine ex ?_; refine sq ?_; refine rl ?_; have hve : vl 65536 os = u - n * v := take_end rfl (by omega) hol hv hnv
 refine WL.sub (fzI (i := 7) (zs' := os) rfl rfl rfl (by omega) rfl) ?_
 refine o1 ?_; refine ca (c_cut3 (by omega)) ok172 ⟨a1 rfl, rfl⟩ (.one (.t (sI false (trim os)))) ?_
 refine o1 ?_; refine nl ?_; refine rt ?_; exact en (.inl rfl) rfl (pk1 (.one (.id rfl))) (by decide) (fun h => by cases h) (by rw [dg_of (by omega) hol hve]; rfl)
theorem c_often3 {u v : Nat} (hx : (dg 65536 (u)).length ≤ 1099511627776) (hy : (dg 65536 (v)).length ≤ 1099511627776) (huv : u < 65536 * v) : Spec true Tryz.prog 179 [] [.one (.t (sI false (dg 65536 u))), .one (.t (sI false (dg 65536 v)))] (Ret (.one (tv (.int .i64 ((u / v : Nat) : Int))))) := by
 refine fn0 Tryz.func179 rfl Tryz.ntmps179 rfl ttok rfl fun N w c0 h0 => ?_
 refine sq ?_; refine rl ?_; refine o1 ?_; refine nl ?_; refine sq ?_; refine rl ?_; refine o1 ?_; refine o1 ?_; refine nl ?_; refine sq ?_; refine bl ?_
 refine lp (γ := Nat × Nat) (fun s => frL [(0, .one (.t (sI false (dg 65536 u)))), (1, .one (.t (sI false (dg 65536 v)))), (5, .one (tv (.int .i64 ((s.1 : Nat) : Int)))), (6, .one (tv (.int .i64 ((s.2 : Nat) : Int))))]) (fun s => ([] : List Ob).map some) (fun s => s.1 * v ≤ u ∧ u < s.2 * v ∧ s.1 < s.2 ∧ s.2 ≤ 65536) (fun s => s.2 - s.1) (0, 65536) ⟨by simp, huv, by decide, Nat.le_refl _⟩ (su0 h0 [] _ _ (by decide) ⟨rfl, rfl, rfl, rfl, trivial⟩ rfl) ?_
 rintro ⟨lo, hi⟩ ⟨h91, h92, h93, h94⟩; dsimp only at h91 h92 h93 h94 ⊢; refine sq ?_; refine sq ?_; refine rl ?_; (iterate 3 refine o1 ?_)
 refine WL.cast (t := 10) (u' := .int .i64 ((hi - lo : Nat) : Int)) rfl (cint (by omega)) ?_
 refine o1 ?_; refine nl ?_; refine cdp rfl (fun h1 => ?_) (fun h1 => ?_)
 ·refine sk ?_; refine bl ?_; refine sq ?_; refine rl ?_; (iterate 3 refine o1 ?_); refine WL.cast (t := 14) (u' := .int .i64 ((lo + hi : Nat) : Int)) rfl (cint (by omega)) ?_
  refine o1 ?_ (hC := (quo_in 2 (by omega) (by simp only [InR]; omega)))
  refine WL.cast (t := 15) (u' := .int .i64 (((lo + hi) / 2 : Nat) : Int)) rfl (cint (quo_nat _ 2)) ?_; refine o1 ?_; refine nl ?_; refine sq ?_; refine rl ?_; (iterate 3 refine o1 ?_)
  refine bs 0 ?_; refine WL.sub (fzI (i := 19) (zs := [(lo + hi) / 2]) (zs' := [(lo + hi) / 2]) rfl rfl rfl rfl rfl) ?_; have h1l : [(lo + hi) / 2].length = 1 := rfl
  have hn2 := half_mul_len (xs := (dg 65536 (v))) (ys := [(lo + hi) / 2]) (Lim_dg (by omega) _) (Lim.cons (d := (lo + hi) / 2) (by omega) Lim.nil)
  refine ca (c_times3 (by omega) (by omega) (Lim_dg (by omega) _) (Lim.cons (d := (lo + hi) / 2) (by omega) Lim.nil)) ok142 ⟨a1 rfl, a1 rfl, rfl⟩ (.one (.t (sI false (dg 65536 (vl 65536 (dg 65536 (v)) * vl 65536 [(lo + hi) / 2]))))) ?_
  refine ca (c_less3 (by omega) (by omega)) ok191 ⟨a1 rfl, a1 rfl, rfl⟩ (.one (tv (.bool (decide (u < vl 65536 (dg 65536 (v)) * vl 65536 [(lo + hi) / 2]))))) ?_
  refine nl ?_; refine cdp rfl (fun h3 => ?_) (fun h3 => ?_)
  ·refine rl ?_; refine o1 ?_; refine o1 ?_; refine nl ?_; rw [vl_dg (by omega), vl_one, Nat.mul_comm] at h3
   exact ⟨(lo, (lo + hi) / 2), by dsimp only; omega, ⟨by dsimp only; omega, by dsimp only; omega, by dsimp only; omega, by dsimp only; omega⟩, su0 h0 [] _ _ (by decide) ⟨rfl, rfl, rfl, rfl, trivial⟩ rfl⟩
  refine rl ?_; refine o1 ?_; refine o1 ?_; refine nl ?_; rw [vl_dg (by omega), vl_one, Nat.mul_comm] at h3
  exact ⟨((lo + hi) / 2, hi), by dsimp only; omega, ⟨by dsimp only; omega, by dsimp only; omega, by dsimp only; omega, by dsimp only; omega⟩, su0 h0 [] _ _ (by decide) ⟨rfl, rfl, rfl, rfl, trivial⟩ rfl⟩
 refine ex ?_; refine sq ?_; refine rl ?_; refine o1 ?_; refine o1 ?_; refine nl ?_; refine rt ?_
 exact en (.inl rfl) rfl (pk1 (pkv _)) (by decide) (fun _ => trivial) (congrArg (fun z => FV.one (tv (.int .i64 ((z : Nat) : Int)))) (often_end h91 h92 (by omega)).symm)
theorem c_cutq {xs zs : List Nat} (hx : xs.length ≤ 4398046511104) (hz : trim xs = zs) : Spec false Tryz.prog 172 [] [.one (.t (sI false xs))] (Ret (.one (.t (sI false zs)))) := by
 subst hz
 exact c_cut3 hx
theorem c_parts3 {u v : Nat} (hx : (dg 65536 (u)).length ≤ 549755813888) (hy : (dg 65536 (v)).length ≤ 549755813888) (hvp : 0 < v) : Spec false Tryz.prog 166 [] [.one (.t (sI false (dg 65536 u))), .one (.t (sI false (dg 65536 v)))] (Ret (.tup [.one (.t (sI false (dg 65536 (u / v)))), .one (.t (sI false (dg 65536 (u % v))))])) := by
 refine fn0 Tryz.func166 rfl Tryz.ntmps166 rfl ttok rfl fun N w c0 h0 => ?_
 have hlu := Lim_dg (B := 65536) (by omega) u
 refine sq ?_; refine rl ?_; refine o1 ?_; refine o1 ?_; refine nl ?_; refine sq ?_; refine rl ?_; refine o1 ?_; refine o1 ?_
 refine WL.cast (t := 11) (u' := .int .i64 (((dg 65536 (u)).length : Nat) : Int)) rfl (cint rfl) ?_; refine mk (m := (dg 65536 (u)).length) 0 (by omega) (i64_zero _) ?_
 refine o1 ?_; refine nl ?_; refine sq ?_; refine rl ?_; refine o1 ?_; refine nl ?_; refine sq ?_; refine sq ?_; refine rl ?_; (iterate 4 refine o1 ?_); refine nl ?_; refine bl ?_
 refine lp (γ := Nat × List Nat × Nat) (fun s => frL [(0, .one (.t (sI false (dg 65536 u)))), (1, .one (.t (sI false (dg 65536 v)))), (6, .one (.sl 0 0 (dg 65536 (u)).length)), (7, .one (.t (sI false (dg 65536 s.2.2)))), (8, .one (tv (.int .i64 ((s.1 : Nat) - 1))))]) (fun s => [(⟨3, 1, (i64T s.2.1).map .t⟩ : Ob)].map some) (fun s => s.2.1.length = (dg 65536 (u)).length ∧ Lim 65536 s.2.1 ∧ vl 65536 ((dg 65536 (u)).drop s.1) = v * vl 65536 (s.2.1.drop s.1) + s.2.2 ∧ s.2.2 < v ∧ s.1 ≤ (dg 65536 (u)).length) (fun s => s.1) ((dg 65536 (u)).length, List.replicate (dg 65536 (u)).length 0, 0) ⟨List.length_replicate, Lim.replicate (by omega) _, by dsimp only; rw [List.drop_of_length_le (Nat.le_refl _), List.drop_of_length_le (by rw [List.length_replicate]; exact Nat.le_refl _)]; simp [vl], hvp, Nat.le_refl _⟩ (((nr (i := 7) 1 3 1 rfl rfl rfl rfl).trans (fzI (i := 7) (k := 1) (zs := []) (zs' := dg 65536 0) rfl rfl rfl rfl (dg_zero _).symm)).trans (su0 h0 [0] _ _ (by decide) ⟨rfl, rfl, rfl, rfl, rfl, trivial⟩ ⟨oeI rfl rfl rfl, rfl⟩)) ?_
 rintro ⟨k, os, r⟩ ⟨hos, hol, hv, hr, hkm⟩; dsimp only at hos hol hv hr hkm ⊢; have hrl := dg_length_mono (B := 65536) (by omega) (Nat.le_of_lt hr)
 have hau := hlu.nth (by omega) (k - 1)
 have hce := cons_len (a := nth (dg 65536 (u)) (k - 1)) hau hr
 have hql : (nth (dg 65536 (u)) (k - 1) + 65536 * r) / v < 65536 := (Nat.div_lt_iff_lt_mul hvp).2 (by omega)
 refine sq ?_; refine sq ?_; refine rl ?_; refine o1 ?_; refine o1 ?_; refine nl ?_; refine cdp rfl (fun h1 => ?_) (fun h1 => ?_)
 ·refine sk ?_; refine sq ?_; refine bl ?_; refine sq ?_; refine rl ?_; refine o1 ?_; refine o1 ?_; refine WL.cast (t := 21) (u' := .int .i64 ((k - 1 : Nat) : Int)) rfl (cint (by omega)) ?_
  refine o1 ?_; refine ldf ([.v (.int .i64 ((nth (dg 65536 (u)) (k - 1) : Nat) : Int))]) (i64_at (dg 65536 (u)) (k := k - 1) (by omega)) ?_
  refine bs 1 ?_; refine o1 ?_; refine nl ?_; refine sq ?_; refine rl ?_; refine o1 ?_; refine o1 ?_
  refine w_app (j := 2) ttok rfl rfl rfl rfl (.sl rfl (rfl)) .fz (rd_i64 _) (lone_i64 _) rfl (by omega) (by omega) ?_
  refine WL.sub (fzI (i := 27) (k := 2) (zs := [nth (dg 65536 (u)) (k - 1)] ++ dg 65536 r) (zs' := [nth (dg 65536 (u)) (k - 1)] ++ dg 65536 r) rfl rfl (congrArg (fun l => some (⟨3, 1, l⟩ : Ob)) (i64T_app [nth (dg 65536 (u)) (k - 1)] (dg 65536 r))) (by rw [List.length_append]; rfl) rfl) ?_
  refine ca (c_cutq (zs := (dg 65536 (nth (dg 65536 (u)) (k - 1) + 65536 * r))) (by rw [List.length_append]; exact Nat.le_trans (Nat.add_le_add_left hrl 1) (by omega)) (trim_cons_dg (by omega))) ok172 ⟨a1 rfl, rfl⟩ (.one (.t (sI false (dg 65536 (nth (dg 65536 (u)) (k - 1) + 65536 * r))))) ?_
  refine o1 ?_; refine nl ?_; refine sq ?_; refine rl ?_; refine o1 ?_; refine o1 ?_; refine WL.cast (t := 30) (u' := .int .i64 ((k - 1 : Nat) : Int)) rfl (cint (by omega)) ?_
  refine o1 ?_; refine o1 ?_; refine ca (c_often3 (by omega) (by omega) (by omega)) ok179 ⟨a1 rfl, a1 rfl, rfl⟩ (.one (tv (.int .i64 (((nth (dg 65536 (u)) (k - 1) + 65536 * r) / v : Nat) : Int)))) ?_
  refine o1 ?_; refine sto (i64_put os (k := k - 1) (v := (nth (dg 65536 (u)) (k - 1) + 65536 * r) / v) (by omega)) (i64_le os (by omega)) ?_
  refine nl ?_; refine rl ?_; (iterate 4 refine o1 ?_); refine WL.cast (t := 38) (u' := .int .i64 ((k - 1 : Nat) : Int)) rfl (cint (by omega)) ?_
  refine o1 ?_; refine ldo (i64_ob (os.set (k - 1) ((nth (dg 65536 (u)) (k - 1) + 65536 * r) / v)) (k := k - 1) (by rw [List.length_set]; omega)) ?_
  refine WL.cast (t := 40) (u' := .int .i64 (((nth (dg 65536 (u)) (k - 1) + 65536 * r) / v : Nat) : Int)) rfl (cint (by rw [nth_set_self (by omega)])) ?_
  refine ca (c_take3 (by omega) (by omega) (by omega) (Nat.div_mul_le_self _ _)) ok180 ⟨a1 rfl, a1 rfl, a1 rfl, rfl⟩ (.one (.t (sI false (dg 65536 (nth (dg 65536 (u)) (k - 1) + 65536 * r - (nth (dg 65536 (u)) (k - 1) + 65536 * r) / v * v))))) ?_
  refine o1 ?_; refine nl ?_; refine rl ?_; (iterate 3 refine o1 ?_); refine nl ?_
  have hst := parts_step (k := k) (q := (nth (dg 65536 (u)) (k - 1) + 65536 * r) / v) (by omega) (by omega) (by omega) hv rfl rfl
  have hmod := Nat.mod_lt (nth (dg 65536 (u)) (k - 1) + 65536 * r) hvp
  have hdm := Nat.div_add_mod' (nth (dg 65536 (u)) (k - 1) + 65536 * r) v
  exact ⟨(k - 1, os.set (k - 1) ((nth (dg 65536 (u)) (k - 1) + 65536 * r) / v), nth (dg 65536 (u)) (k - 1) + 65536 * r - (nth (dg 65536 (u)) (k - 1) + 65536 * r) / v * v), by dsimp only; omega, ⟨by rw [List.length_set]; exact hos, hol.set _ hql, hst, by dsimp only; omega, by dsimp only; omega⟩, su0 h0 [0] _ _ (by decide) ⟨rfl, rfl, rfl, rfl, congrArg (fun z => some (FV.one (tv (.int .i64 z)))) (by omega), trivial⟩ ⟨oeI rfl rfl rfl, rfl⟩⟩
 refine ex ?_; refine sq ?_; refine rl ?_; have hk0 : k = 0 := by omega
 rw [hk0, List.drop_zero, List.drop_zero, vl_dg (by omega)] at hv
 obtain ⟨hq1, hq2⟩ := parts_end hv hr
 refine WL.sub (fzI (i := 6) (zs' := os) rfl rfl rfl (by omega) rfl) ?_
 refine o1 ?_; refine ca (c_cutq (zs := (dg 65536 (u / v))) (by omega) (by rw [dg_of (by omega) hol rfl, hq1])) ok172 ⟨a1 rfl, rfl⟩ (.one (.t (sI false (dg 65536 (u / v))))) ?_
 (iterate 3 refine o1 ?_); refine nl ?_; refine rt ?_; exact en (.inl rfl) rfl (pkt (.cons (.one (.id rfl)) (.cons (.one (.id rfl)) .nil))) (by decide) (fun h => by cases h) (by rw [hq2]; rfl)
theorem c_Gcd3 {a b : Zi} {k k' : Int} (ha : Zn a k) (hb : Zn b k') : Spec true Tryz.prog 135 [] [gF a, gF b] (Ret (kO ((Int.gcd k k' : Nat) : Int))) := by
 refine fn0 Tryz.func135 rfl Tryz.ntmps135 rfl ttok rfl fun N w c0 h0 => ?_
 have hkl := ha.len
 have hkl' := hb.len
 refine sq ?_; refine rl ?_; refine bx 0 ?_; refine bx 1 ?_; refine al 2 ?_; refine nl ?_; refine sq ?_; refine rd [0, 1, 2] (fun i => [9].contains i) mixed ?_
 refine dld 0 ?_; refine dld 4 ?_; refine dca 1 rfl (c_plain3 ha) ok137 ⟨a1g rfl, rfl⟩ (kF (k)) ?_; refine df 2 ?_
 have hn1 := dg_half_len (v := vl 4294967296 (dg 4294967296 (k).natAbs)) (L := (dg 4294967296 (k).natAbs).length) (by rw [vl_dg (by omega)]; exact Nat.le_refl _)
 refine dca 3 rfl (c_halves3 (by omega) (Lim_dg (by omega) _)) ok143 ⟨a1 rfl, rfl⟩ (.one (.t (sI false (dg 65536 (vl 4294967296 (dg 4294967296 (k).natAbs)))))) ?_
 refine dca 5 rfl (c_plain3 hb) ok137 ⟨a1g rfl, rfl⟩ (kF (k')) ?_; refine df 6 ?_
 have hn2 := dg_half_len (v := vl 4294967296 (dg 4294967296 (k').natAbs)) (L := (dg 4294967296 (k').natAbs).length) (by rw [vl_dg (by omega)]; exact Nat.le_refl _)
 refine dca 7 rfl (c_halves3 (by omega) (Lim_dg (by omega) _)) ok143 ⟨a1 rfl, rfl⟩ (.one (.t (sI false (dg 65536 (vl 4294967296 (dg 4294967296 (k').natAbs)))))) ?_
 refine d_v 8 (by kernel_rfl) rfl rfl ttok rfl (by trivial) ?_ (fun h => by first | rfl | cases h)
 refine d_v 9 (by kernel_rfl) rfl rfl ttok rfl (by trivial) ?_ (fun h => by first | rfl | cases h)
 refine dz0 ?_; refine sq ?_; refine bl ?_
 refine lp (γ := Nat × Nat) (fun s => frL [(4, .one (.pt 0 0)), (5, .one (.t (sI false (dg 65536 s.1)))), (6, .one (.t (sI false (dg 65536 s.2))))]) (fun s => [(⟨47, 0, [tv (.bool false), tv (.slice none 0 0)]⟩ : Ob)].map some) (fun s => Nat.gcd s.1 s.2 = Int.gcd k k' ∧ (dg 65536 s.1).length ≤ 549755813888 ∧ (dg 65536 s.2).length ≤ 549755813888) (fun s => s.2) (vl 4294967296 (dg 4294967296 (k).natAbs), vl 4294967296 (dg 4294967296 (k').natAbs)) ⟨by dsimp only; rw [vl_dg (by omega), vl_dg (by omega)]; rfl, by dsimp only; omega, by dsimp only; omega⟩ (su0 h0 [2] _ _ (by decide) ⟨rfl, rfl, rfl, trivial⟩ ⟨oe rfl rfl, rfl⟩) ?_
 rintro ⟨ga, gb⟩ ⟨hg, hga, hgb⟩; dsimp only at hg hga hgb ⊢; have hbz : gb = 0 ↔ (dg 65536 gb).length = 0 := by rw [List.length_eq_zero_iff, dg_eq_nil (by omega)]
 refine sq ?_; refine sq ?_; refine rl ?_; (iterate 3 refine o1 ?_); refine nl ?_; refine cdp rfl (fun h3 => ?_) (fun h3 => ?_)
 ·refine sk ?_; refine bl ?_; refine sq ?_; have hb0 : 0 < gb := by omega
  refine rl ?_; refine o1 ?_; refine o1 ?_; have hn4 := dg_length_mono (B := 65536) (by omega) (Nat.div_le_self (ga) (gb))
  have hn5 := dg_length_mono (B := 65536) (by omega) (Nat.mod_le (ga) (gb))
  refine ca (c_parts3 (by omega) (by omega) hb0) ok166 ⟨a1 rfl, a1 rfl, rfl⟩ (.tup [.one (.t (sI false (dg 65536 ((ga) / (gb))))), .one (.t (sI false (dg 65536 ((ga) % (gb)))))]) ?_
  (iterate 5 refine o1 ?_); refine nl ?_; refine sq ?_; refine rl ?_; refine o1 ?_; refine o1 ?_; refine nl ?_; refine rl ?_; refine o1 ?_; refine o1 ?_; refine nl ?_; have hmod := Nat.mod_lt ga hb0
  have hml := dg_length_mono (B := 65536) (by omega) (Nat.le_of_lt hmod)
  exact ⟨(gb, ga % gb), by dsimp only; omega, ⟨by dsimp only; rw [← hg, Nat.gcd_comm gb (ga % gb), ← Nat.gcd_rec, Nat.gcd_comm], by dsimp only; omega, by dsimp only; omega⟩, su0 h0 [0] _ _ (by decide) ⟨rfl, rfl, rfl, trivial⟩ ⟨oe rfl rfl, rfl⟩⟩
 refine ex ?_; refine sq ?_; have hb00 : gb = 0 := by omega
 rw [hb00, Nat.gcd_zero_right] at hg; refine rl ?_; refine o1 ?_; have hn6 := dg_limb_len2 (ga)
 refine ca (c_limbs3 (zs := (dg 4294967296 (ga))) (by omega) (Lim_dg (by omega) _) (lb_dg _)) ok141 ⟨a1 rfl, rfl⟩ (.one (.t (sU false (dg 4294967296 (ga))))) ?_
 refine cak 1 (c_made3 (K := ((Int.gcd k k' : Nat) : Int)) (by omega) (Lim_dg (by omega) _) (by rw [vl_dg (by omega), hg]; rfl)) ok108 ⟨a1 rfl, a1 rfl, rfl⟩ ?_
 refine st ?_; refine nl ?_; refine rt ?_
 exact en (.inl rfl) rfl (pk1 (.agg (.cons (.id rfl) (.cons (.sl (trs := u32T (dg 4294967296 (((Int.gcd k k' : Nat) : Int)).natAbs)) rfl rfl (tk_u32 _) (ln_u32 _)) .nil)))) (by decide) (fun _ => nofr_z (((Int.gcd k k' : Nat) : Int))) rfl
theorem c_DivMod3 {a b : Zi} {k k' : Int} (ha : Zn a k) (hb : Zn b k') : Spec false Tryz.prog 138 [] [gF a, gF b] (Ret (.tup [kF (if k' = 0 then 0 else k.fdiv k'), kF (if k' = 0 then 0 else k.fmod k'), .one (tv (.int .i64 (if k' = 0 then 20 else 0)))])) := by
 refine fn0 Tryz.func138 rfl Tryz.ntmps138 rfl ttok rfl fun N w c0 h0 => ?_
 have hkl := ha.len
 have hkl' := hb.len
 refine sq ?_; refine rl ?_; refine bx 0 ?_; refine bx 1 ?_; refine al 2 ?_; refine al 3 ?_; refine o1 ?_; refine nl ?_; refine sq ?_; refine rl ?_; refine ld ?_
 refine ca (c_plain3 ha) ok137 ⟨a1g rfl, rfl⟩ (kF (k)) ?_; refine st ?_; refine nl ?_; refine sq ?_; refine rl ?_; refine ld ?_; refine ca (c_plain3 hb) ok137 ⟨a1g rfl, rfl⟩ (kF (k')) ?_; refine st ?_
 refine nl ?_; refine sq ?_; refine sq ?_; refine rl ?_; refine o1 ?_; refine ld ?_; refine o1 ?_; refine o1 ?_; refine nl ?_; refine cdp rfl (fun h1 => ?_) (fun h1 => ?_)
 ·refine sq ?_; refine rl ?_; refine o1 ?_; refine o1 ?_; refine st ?_; refine st ?_; refine o1 ?_; refine nl ?_; refine rt ?_; have hk0 : k' = 0 := by have := natabs_zero (k := k') (by omega); omega
  exact en (.inl rfl) rfl (pkt3 (.cons (.agg (.cons (.id rfl) (.cons .nilf .nil))) (.cons (.agg (.cons (.id rfl) (.cons .nilf .nil))) (.cons (pkv _) .nil)))) (by decide) (fun h => by cases h) (by rw [if_pos hk0, if_pos hk0, if_pos hk0, ← kF_zero]; rfl)
 refine sk ?_; refine sq ?_; have hkn : k' ≠ 0 := natabs_nz (by omega)
 have hva : 0 < vl 4294967296 (dg 4294967296 (k').natAbs) := by rw [vl_dg (by omega)]; omega
 refine rd [0, 1, 2, 3] (fun i => [11].contains i) mixed ?_
 refine dv 0 ?_; refine dld 1 ?_; refine dv 3 ?_; refine dld 4 ?_
 have hn2 := dg_half_len (v := vl 4294967296 (dg 4294967296 (k).natAbs)) (L := (dg 4294967296 (k).natAbs).length) (by rw [vl_dg (by omega)]; exact Nat.le_refl _)
 refine dca 2 rfl (c_halves3 (by omega) (Lim_dg (by omega) _)) ok143 ⟨a1 rfl, rfl⟩ (.one (.t (sI false (dg 65536 (vl 4294967296 (dg 4294967296 (k).natAbs)))))) ?_
 have hn3 := dg_half_len (v := vl 4294967296 (dg 4294967296 (k').natAbs)) (L := (dg 4294967296 (k').natAbs).length) (by rw [vl_dg (by omega)]; exact Nat.le_refl _)
 refine dca 5 rfl (c_halves3 (by omega) (Lim_dg (by omega) _)) ok143 ⟨a1 rfl, rfl⟩ (.one (.t (sI false (dg 65536 (vl 4294967296 (dg 4294967296 (k').natAbs)))))) ?_
 have hn4 := dg_length_mono (B := 65536) (by omega) (Nat.div_le_self (vl 4294967296 (dg 4294967296 (k).natAbs)) (vl 4294967296 (dg 4294967296 (k').natAbs)))
 have hn5 := dg_length_mono (B := 65536) (by omega) (Nat.mod_le (vl 4294967296 (dg 4294967296 (k).natAbs)) (vl 4294967296 (dg 4294967296 (k').natAbs)))
 refine dca 6 rfl (c_parts3 (by omega) (by omega) hva) ok166 ⟨a1 rfl, a1 rfl, rfl⟩ (.tup [.one (.t (sI false (dg 65536 ((vl 4294967296 (dg 4294967296 (k).natAbs)) / (vl 4294967296 (dg 4294967296 (k').natAbs)))))), .one (.t (sI false (dg 65536 ((vl 4294967296 (dg 4294967296 (k).natAbs)) % (vl 4294967296 (dg 4294967296 (k').natAbs))))))]) ?_
 refine df 7 ?_; refine df 8 ?_; refine df 9 ?_; refine d_v 10 (by kernel_rfl) rfl rfl ttok rfl (by trivial) ?_ (fun h => by first | rfl | cases h)
 refine d_v 11 (by kernel_rfl) rfl rfl ttok rfl (by trivial) ?_ (fun h => by first | rfl | cases h)
 refine dz0 ?_
 refine md (γ := Unit) (fun _ => frL [(3, .one (.pt 0 0)), (4, .one (.pt 1 0)), (5, .one (.pt 2 0)), (6, .one (tv (.int .i64 0))), (9, .one (.pt 3 0)), (10, .one (.pt 4 0))]) (fun _ => ([⟨47, 0, [tv (.bool (sgz (k'))), .t (sU false (dg 4294967296 (k').natAbs))]⟩, ⟨47, 0, [tv (.bool false), tv (.slice none 0 0)]⟩, ⟨47, 0, [tv (.bool false), tv (.slice none 0 0)]⟩, ⟨47, 0, [tv (.bool (sgz (sgn (sgz k != sgz k') (k.natAbs / k'.natAbs)))), .t (sU false (dg 4294967296 (sgn (sgz k != sgz k') (k.natAbs / k'.natAbs)).natAbs))]⟩, ⟨47, 0, [tv (.bool (sgz (sgn (sgz k) (k.natAbs % k'.natAbs)))), .t (sU false (dg 4294967296 (sgn (sgz k) (k.natAbs % k'.natAbs)).natAbs))]⟩] : List Ob).map some) (fun _ => True) ?_ fun _ _ => ?_
 ·have hnq := dg_limb_len2 ((vl 4294967296 (dg 4294967296 (k).natAbs)) / (vl 4294967296 (dg 4294967296 (k').natAbs)))
  have hLq := c_limbs3 (xs := dg 65536 ((vl 4294967296 (dg 4294967296 (k).natAbs)) / (vl 4294967296 (dg 4294967296 (k').natAbs)))) (zs := dg 4294967296 ((vl 4294967296 (dg 4294967296 (k).natAbs)) / (vl 4294967296 (dg 4294967296 (k').natAbs)))) (by omega) (Lim_dg (by omega) _) (lb_dg _)
  have hMq := c_made3 (b := sgz k != sgz k') (xs := dg 4294967296 ((vl 4294967296 (dg 4294967296 (k).natAbs)) / (vl 4294967296 (dg 4294967296 (k').natAbs)))) (K := sgn (sgz k != sgz k') (k.natAbs / k'.natAbs)) (by omega) (Lim_dg (by omega) _) (by simp only [vl_dg (B := 4294967296) (by omega)] <;> rfl)
  have hnr := dg_limb_len2 ((vl 4294967296 (dg 4294967296 (k).natAbs)) % (vl 4294967296 (dg 4294967296 (k').natAbs)))
  have hLr := c_limbs3 (xs := dg 65536 ((vl 4294967296 (dg 4294967296 (k).natAbs)) % (vl 4294967296 (dg 4294967296 (k').natAbs)))) (zs := dg 4294967296 ((vl 4294967296 (dg 4294967296 (k).natAbs)) % (vl 4294967296 (dg 4294967296 (k').natAbs)))) (by omega) (Lim_dg (by omega) _) (lb_dg _)
  have hMr := c_made3 (b := sgz k) (xs := dg 4294967296 ((vl 4294967296 (dg 4294967296 (k).natAbs)) % (vl 4294967296 (dg 4294967296 (k').natAbs)))) (K := sgn (sgz k) (k.natAbs % k'.natAbs)) (by omega) (Lim_dg (by omega) _) (by simp only [vl_dg (B := 4294967296) (by omega)] <;> rfl)
  generalize dg 4294967296 ((vl 4294967296 (dg 4294967296 (k).natAbs)) / (vl 4294967296 (dg 4294967296 (k').natAbs))) = zq at hLq hMq
  generalize dg 4294967296 ((vl 4294967296 (dg 4294967296 (k).natAbs)) % (vl 4294967296 (dg 4294967296 (k').natAbs))) = zr at hLr hMr; refine rd [0, 1, 2, 3] (fun i => [16].contains i) mixed ?_
  refine dv 0 ?_; refine dld 1 ?_; refine dv 2 ?_; refine dld 3 ?_; refine dv 4 ?_; refine dv 5 ?_; refine dv 8 ?_; refine dld 9 ?_; refine dv 10 ?_
  refine WO.three (i := 6) (j := 13) (m := 14) (by kernel_rfl) ?_ ?_ ?_
  ·refine oca 6 rfl (hLq) ok141 ⟨a1 rfl, rfl⟩ (.one (.t (sU false zq))) ?_; refine WO.three (i := 7) (j := 13) (m := 14) (by kernel_rfl) ?_ ?_ ?_
   ·refine oca 7 rfl (hMq) ok108 ⟨a1 rfl, a1 rfl, rfl⟩ (kF (sgn (sgz k != sgz k') (k.natAbs / k'.natAbs))) ?_; refine WO.three (i := 11) (j := 13) (m := 14) (by kernel_rfl) ?_ ?_ ?_
    ·refine oca 11 rfl (hLr) ok141 ⟨a1 rfl, rfl⟩ (.one (.t (sU false zr))) ?_; refine WO.three (i := 12) (j := 13) (m := 14) (by kernel_rfl) ?_ ?_ ?_
     ·refine oca 12 rfl (hMr) ok108 ⟨a1 rfl, a1 rfl, rfl⟩ (kF (sgn (sgz k) (k.natAbs % k'.natAbs))) ?_; refine WO.two (i := 13) (j := 14) (by kernel_rfl) ?_ ?_
      ·refine o_al (key := 4) 13 rfl rfl ttok rfl ⟨rfl, rfl, rfl, rfl, trivial⟩ ?_; refine d_al (key := 5) 14 (by kernel_rfl) rfl rfl ttok rfl ⟨rfl, rfl, rfl, rfl, trivial⟩ ?_
       refine d_stn 15 (by kernel_rfl) rfl rfl ttok rfl rfl rfl rfl ⟨rfl, rfl, rfl, rfl, trivial⟩ ?_
       refine dst 16 ?_; refine dz0 ?_
       exact ⟨(), trivial, su0 h0 [1, 2, 3, 4, 5] _ _ (by decide) ⟨rfl, rfl, rfl, rfl, rfl, rfl, trivial⟩ ⟨oe rfl rfl, oe rfl rfl, oe rfl rfl, oe rfl rfl, oe rfl rfl, rfl⟩⟩
      refine o_al (key := 4) 14 rfl rfl ttok rfl ⟨rfl, rfl, rfl, rfl, trivial⟩ ?_; refine d_al (key := 5) 13 (by kernel_rfl) rfl rfl ttok rfl ⟨rfl, rfl, rfl, rfl, trivial⟩ ?_
      refine d_stn 15 (by kernel_rfl) rfl rfl ttok rfl rfl rfl rfl ⟨rfl, rfl, rfl, rfl, trivial⟩ ?_
      refine dst 16 ?_; refine dz0 ?_
      exact ⟨(), trivial, su0 h0 [1, 2, 3, 5, 4] _ _ (by decide) ⟨rfl, rfl, rfl, rfl, rfl, rfl, trivial⟩ ⟨oe rfl rfl, oe rfl rfl, oe rfl rfl, oe rfl rfl, oe rfl rfl, rfl⟩⟩
     ·refine o_al (key := 4) 13 rfl rfl ttok rfl ⟨rfl, rfl, rfl, rfl, trivial⟩ ?_; refine WO.two (i := 12) (j := 14) (by kernel_rfl) ?_ ?_
      ·refine oca 12 rfl (hMr) ok108 ⟨a1 rfl, a1 rfl, rfl⟩ (kF (sgn (sgz k) (k.natAbs % k'.natAbs))) ?_
       refine d_al (key := 5) 14 (by kernel_rfl) rfl rfl ttok rfl ⟨rfl, rfl, rfl, rfl, trivial⟩ ?_
       refine d_stn 15 (by kernel_rfl) rfl rfl ttok rfl rfl rfl rfl ⟨rfl, rfl, rfl, rfl, trivial⟩ ?_
       refine dst 16 ?_; refine dz0 ?_
       exact ⟨(), trivial, su0 h0 [1, 2, 3, 4, 5] _ _ (by decide) ⟨rfl, rfl, rfl, rfl, rfl, rfl, trivial⟩ ⟨oe rfl rfl, oe rfl rfl, oe rfl rfl, oe rfl rfl, oe rfl rfl, rfl⟩⟩
      refine o_al (key := 5) 14 rfl rfl ttok rfl ⟨rfl, rfl, rfl, rfl, trivial⟩ ?_; refine dca 12 rfl (hMr) ok108 ⟨a1 rfl, a1 rfl, rfl⟩ (kF (sgn (sgz k) (k.natAbs % k'.natAbs))) ?_
      refine d_stn 15 (by kernel_rfl) rfl rfl ttok rfl rfl rfl rfl ⟨rfl, rfl, rfl, rfl, trivial⟩ ?_
      refine dst 16 ?_; refine dz0 ?_
      exact ⟨(), trivial, su0 h0 [1, 2, 3, 4, 5] _ _ (by decide) ⟨rfl, rfl, rfl, rfl, rfl, rfl, trivial⟩ ⟨oe rfl rfl, oe rfl rfl, oe rfl rfl, oe rfl rfl, oe rfl rfl, rfl⟩⟩
     refine o_al (key := 4) 14 rfl rfl ttok rfl ⟨rfl, rfl, rfl, rfl, trivial⟩ ?_; refine WO.two (i := 12) (j := 13) (by kernel_rfl) ?_ ?_
     ·refine oca 12 rfl (hMr) ok108 ⟨a1 rfl, a1 rfl, rfl⟩ (kF (sgn (sgz k) (k.natAbs % k'.natAbs))) ?_
      refine d_al (key := 5) 13 (by kernel_rfl) rfl rfl ttok rfl ⟨rfl, rfl, rfl, rfl, trivial⟩ ?_
      refine d_stn 15 (by kernel_rfl) rfl rfl ttok rfl rfl rfl rfl ⟨rfl, rfl, rfl, rfl, trivial⟩ ?_
      refine dst 16 ?_; refine dz0 ?_
      exact ⟨(), trivial, su0 h0 [1, 2, 3, 5, 4] _ _ (by decide) ⟨rfl, rfl, rfl, rfl, rfl, rfl, trivial⟩ ⟨oe rfl rfl, oe rfl rfl, oe rfl rfl, oe rfl rfl, oe rfl rfl, rfl⟩⟩
     refine o_al (key := 5) 13 rfl rfl ttok rfl ⟨rfl, rfl, rfl, rfl, trivial⟩ ?_; refine dca 12 rfl (hMr) ok108 ⟨a1 rfl, a1 rfl, rfl⟩ (kF (sgn (sgz k) (k.natAbs % k'.natAbs))) ?_
     refine d_stn 15 (by kernel_rfl) rfl rfl ttok rfl rfl rfl rfl ⟨rfl, rfl, rfl, rfl, trivial⟩ ?_
     refine dst 16 ?_; refine dz0 ?_
     exact ⟨(), trivial, su0 h0 [1, 2, 3, 5, 4] _ _ (by decide) ⟨rfl, rfl, rfl, rfl, rfl, rfl, trivial⟩ ⟨oe rfl rfl, oe rfl rfl, oe rfl rfl, oe rfl rfl, oe rfl rfl, rfl⟩⟩
    ·refine o_al (key := 4) 13 rfl rfl ttok rfl ⟨rfl, rfl, rfl, rfl, trivial⟩ ?_; refine WO.two (i := 11) (j := 14) (by kernel_rfl) ?_ ?_
     ·refine oca 11 rfl (hLr) ok141 ⟨a1 rfl, rfl⟩ (.one (.t (sU false zr))) ?_; refine WO.two (i := 12) (j := 14) (by kernel_rfl) ?_ ?_
      ·refine oca 12 rfl (hMr) ok108 ⟨a1 rfl, a1 rfl, rfl⟩ (kF (sgn (sgz k) (k.natAbs % k'.natAbs))) ?_
       refine d_al (key := 5) 14 (by kernel_rfl) rfl rfl ttok rfl ⟨rfl, rfl, rfl, rfl, trivial⟩ ?_
       refine d_stn 15 (by kernel_rfl) rfl rfl ttok rfl rfl rfl rfl ⟨rfl, rfl, rfl, rfl, trivial⟩ ?_
       refine dst 16 ?_; refine dz0 ?_
       exact ⟨(), trivial, su0 h0 [1, 2, 3, 4, 5] _ _ (by decide) ⟨rfl, rfl, rfl, rfl, rfl, rfl, trivial⟩ ⟨oe rfl rfl, oe rfl rfl, oe rfl rfl, oe rfl rfl, oe rfl rfl, rfl⟩⟩
      refine o_al (key := 5) 14 rfl rfl ttok rfl ⟨rfl, rfl, rfl, rfl, trivial⟩ ?_; refine dca 12 rfl (hMr) ok108 ⟨a1 rfl, a1 rfl, rfl⟩ (kF (sgn (sgz k) (k.natAbs % k'.natAbs))) ?_
      refine d_stn 15 (by kernel_rfl) rfl rfl ttok rfl rfl rfl rfl ⟨rfl, rfl, rfl, rfl, trivial⟩ ?_
      refine dst 16 ?_; refine dz0 ?_
      exact ⟨(), trivial, su0 h0 [1, 2, 3, 4, 5] _ _ (by decide) ⟨rfl, rfl, rfl, rfl, rfl, rfl, trivial⟩ ⟨oe rfl rfl, oe rfl rfl, oe rfl rfl, oe rfl rfl, oe rfl rfl, rfl⟩⟩
     refine o_al (key := 5) 14 rfl rfl ttok rfl ⟨rfl, rfl, rfl, rfl, trivial⟩ ?_; refine dca 11 rfl (hLr) ok141 ⟨a1 rfl, rfl⟩ (.one (.t (sU false zr))) ?_
     refine dca 12 rfl (hMr) ok108 ⟨a1 rfl, a1 rfl, rfl⟩ (kF (sgn (sgz k) (k.natAbs % k'.natAbs))) ?_
     refine d_stn 15 (by kernel_rfl) rfl rfl ttok rfl rfl rfl rfl ⟨rfl, rfl, rfl, rfl, trivial⟩ ?_
     refine dst 16 ?_; refine dz0 ?_
     exact ⟨(), trivial, su0 h0 [1, 2, 3, 4, 5] _ _ (by decide) ⟨rfl, rfl, rfl, rfl, rfl, rfl, trivial⟩ ⟨oe rfl rfl, oe rfl rfl, oe rfl rfl, oe rfl rfl, oe rfl rfl, rfl⟩⟩
    refine o_al (key := 4) 14 rfl rfl ttok rfl ⟨rfl, rfl, rfl, rfl, trivial⟩ ?_; refine WO.two (i := 11) (j := 13) (by kernel_rfl) ?_ ?_
    ·refine oca 11 rfl (hLr) ok141 ⟨a1 rfl, rfl⟩ (.one (.t (sU false zr))) ?_; refine WO.two (i := 12) (j := 13) (by kernel_rfl) ?_ ?_
     ·refine oca 12 rfl (hMr) ok108 ⟨a1 rfl, a1 rfl, rfl⟩ (kF (sgn (sgz k) (k.natAbs % k'.natAbs))) ?_
      refine d_al (key := 5) 13 (by kernel_rfl) rfl rfl ttok rfl ⟨rfl, rfl, rfl, rfl, trivial⟩ ?_
      refine d_stn 15 (by kernel_rfl) rfl rfl ttok rfl rfl rfl rfl ⟨rfl, rfl, rfl, rfl, trivial⟩ ?_
      refine dst 16 ?_; refine dz0 ?_
      exact ⟨(), trivial, su0 h0 [1, 2, 3, 5, 4] _ _ (by decide) ⟨rfl, rfl, rfl, rfl, rfl, rfl, trivial⟩ ⟨oe rfl rfl, oe rfl rfl, oe rfl rfl, oe rfl rfl, oe rfl rfl, rfl⟩⟩
     refine o_al (key := 5) 13 rfl rfl ttok rfl ⟨rfl, rfl, rfl, rfl, trivial⟩ ?_; refine dca 12 rfl (hMr) ok108 ⟨a1 rfl, a1 rfl, rfl⟩ (kF (sgn (sgz k) (k.natAbs % k'.natAbs))) ?_
     refine d_stn 15 (by kernel_rfl) rfl rfl ttok rfl rfl rfl rfl ⟨rfl, rfl, rfl, rfl, trivial⟩ ?_
     refine dst 16 ?_; refine dz0 ?_
     exact ⟨(), trivial, su0 h0 [1, 2, 3, 5, 4] _ _ (by decide) ⟨rfl, rfl, rfl, rfl, rfl, rfl, trivial⟩ ⟨oe rfl rfl, oe rfl rfl, oe rfl rfl, oe rfl rfl, oe rfl rfl, rfl⟩⟩
    refine o_al (key := 5) 13 rfl rfl ttok rfl ⟨rfl, rfl, rfl, rfl, trivial⟩ ?_; refine dca 11 rfl (hLr) ok141 ⟨a1 rfl, rfl⟩ (.one (.t (sU false zr))) ?_
    refine dca 12 rfl (hMr) ok108 ⟨a1 rfl, a1 rfl, rfl⟩ (kF (sgn (sgz k) (k.natAbs % k'.natAbs))) ?_
    refine d_stn 15 (by kernel_rfl) rfl rfl ttok rfl rfl rfl rfl ⟨rfl, rfl, rfl, rfl, trivial⟩ ?_
    refine dst 16 ?_; refine dz0 ?_
    exact ⟨(), trivial, su0 h0 [1, 2, 3, 5, 4] _ _ (by decide) ⟨rfl, rfl, rfl, rfl, rfl, rfl, trivial⟩ ⟨oe rfl rfl, oe rfl rfl, oe rfl rfl, oe rfl rfl, oe rfl rfl, rfl⟩⟩
   ·refine o_al (key := 4) 13 rfl rfl ttok rfl ⟨rfl, rfl, rfl, rfl, trivial⟩ ?_; refine WO.two (i := 7) (j := 14) (by kernel_rfl) ?_ ?_
    ·refine oca 7 rfl (hMq) ok108 ⟨a1 rfl, a1 rfl, rfl⟩ (kF (sgn (sgz k != sgz k') (k.natAbs / k'.natAbs))) ?_; refine WO.two (i := 11) (j := 14) (by kernel_rfl) ?_ ?_
     ·refine oca 11 rfl (hLr) ok141 ⟨a1 rfl, rfl⟩ (.one (.t (sU false zr))) ?_; refine WO.two (i := 12) (j := 14) (by kernel_rfl) ?_ ?_
      ·refine oca 12 rfl (hMr) ok108 ⟨a1 rfl, a1 rfl, rfl⟩ (kF (sgn (sgz k) (k.natAbs % k'.natAbs))) ?_
       refine d_al (key := 5) 14 (by kernel_rfl) rfl rfl ttok rfl ⟨rfl, rfl, rfl, rfl, trivial⟩ ?_
       refine d_stn 15 (by kernel_rfl) rfl rfl ttok rfl rfl rfl rfl ⟨rfl, rfl, rfl, rfl, trivial⟩ ?_
       refine dst 16 ?_; refine dz0 ?_
       exact ⟨(), trivial, su0 h0 [1, 2, 3, 4, 5] _ _ (by decide) ⟨rfl, rfl, rfl, rfl, rfl, rfl, trivial⟩ ⟨oe rfl rfl, oe rfl rfl, oe rfl rfl, oe rfl rfl, oe rfl rfl, rfl⟩⟩
      refine o_al (key := 5) 14 rfl rfl ttok rfl ⟨rfl, rfl, rfl, rfl, trivial⟩ ?_; refine dca 12 rfl (hMr) ok108 ⟨a1 rfl, a1 rfl, rfl⟩ (kF (sgn (sgz k) (k.natAbs % k'.natAbs))) ?_
      refine d_stn 15 (by kernel_rfl) rfl rfl ttok rfl rfl rfl rfl ⟨rfl, rfl, rfl, rfl, trivial⟩ ?_
      refine dst 16 ?_; refine dz0 ?_
      exact ⟨(), trivial, su0 h0 [1, 2, 3, 4, 5] _ _ (by decide) ⟨rfl, rfl, rfl, rfl, rfl, rfl, trivial⟩ ⟨oe rfl rfl, oe rfl rfl, oe rfl rfl, oe rfl rfl, oe rfl rfl, rfl⟩⟩
     refine o_al (key := 5) 14 rfl rfl ttok rfl ⟨rfl, rfl, rfl, rfl, trivial⟩ ?_; refine dca 11 rfl (hLr) ok141 ⟨a1 rfl, rfl⟩ (.one (.t (sU false zr))) ?_
     refine dca 12 rfl (hMr) ok108 ⟨a1 rfl, a1 rfl, rfl⟩ (kF (sgn (sgz k) (k.natAbs % k'.natAbs))) ?_
     refine d_stn 15 (by kernel_rfl) rfl rfl ttok rfl rfl rfl rfl ⟨rfl, rfl, rfl, rfl, trivial⟩ ?_
     refine dst 16 ?_; refine dz0 ?_
     exact ⟨(), trivial, su0 h0 [1, 2, 3, 4, 5] _ _ (by decide) ⟨rfl, rfl, rfl, rfl, rfl, rfl, trivial⟩ ⟨oe rfl rfl, oe rfl rfl, oe rfl rfl, oe rfl rfl, oe rfl rfl, rfl⟩⟩
    refine o_al (key := 5) 14 rfl rfl ttok rfl ⟨rfl, rfl, rfl, rfl, trivial⟩ ?_; refine dca 7 rfl (hMq) ok108 ⟨a1 rfl, a1 rfl, rfl⟩ (kF (sgn (sgz k != sgz k') (k.natAbs / k'.natAbs))) ?_
    refine dca 11 rfl (hLr) ok141 ⟨a1 rfl, rfl⟩ (.one (.t (sU false zr))) ?_; refine dca 12 rfl (hMr) ok108 ⟨a1 rfl, a1 rfl, rfl⟩ (kF (sgn (sgz k) (k.natAbs % k'.natAbs))) ?_
    refine d_stn 15 (by kernel_rfl) rfl rfl ttok rfl rfl rfl rfl ⟨rfl, rfl, rfl, rfl, trivial⟩ ?_
    refine dst 16 ?_; refine dz0 ?_
    exact ⟨(), trivial, su0 h0 [1, 2, 3, 4, 5] _ _ (by decide) ⟨rfl, rfl, rfl, rfl, rfl, rfl, trivial⟩ ⟨oe rfl rfl, oe rfl rfl, oe rfl rfl, oe rfl rfl, oe rfl rfl, rfl⟩⟩
   refine o_al (key := 4) 14 rfl rfl ttok rfl ⟨rfl, rfl, rfl, rfl, trivial⟩ ?_; refine WO.two (i := 7) (j := 13) (by kernel_rfl) ?_ ?_
   ·refine oca 7 rfl (hMq) ok108 ⟨a1 rfl, a1 rfl, rfl⟩ (kF (sgn (sgz k != sgz k') (k.natAbs / k'.natAbs))) ?_; refine WO.two (i := 11) (j := 13) (by kernel_rfl) ?_ ?_
    ·refine oca 11 rfl (hLr) ok141 ⟨a1 rfl, rfl⟩ (.one (.t (sU false zr))) ?_; refine WO.two (i := 12) (j := 13) (by kernel_rfl) ?_ ?_
     ·refine oca 12 rfl (hMr) ok108 ⟨a1 rfl, a1 rfl, rfl⟩ (kF (sgn (sgz k) (k.natAbs % k'.natAbs))) ?_
      refine d_al (key := 5) 13 (by kernel_rfl) rfl rfl ttok rfl ⟨rfl, rfl, rfl, rfl, trivial⟩ ?_
      refine d_stn 15 (by kernel_rfl) rfl rfl ttok rfl rfl rfl rfl ⟨rfl, rfl, rfl, rfl, trivial⟩ ?_
      refine dst 16 ?_; refine dz0 ?_
      exact ⟨(), trivial, su0 h0 [1, 2, 3, 5, 4] _ _ (by decide) ⟨rfl, rfl, rfl, rfl, rfl, rfl, trivial⟩ ⟨oe rfl rfl, oe rfl rfl, oe rfl rfl, oe rfl rfl, oe rfl rfl, rfl⟩⟩
     refine o_al (key := 5) 13 rfl rfl ttok rfl ⟨rfl, rfl, rfl, rfl, trivial⟩ ?_; refine dca 12 rfl (hMr) ok108 ⟨a1 rfl, a1 rfl, rfl⟩ (kF (sgn (sgz k) (k.natAbs % k'.natAbs))) ?_
     refine d_stn 15 (by kernel_rfl) rfl rfl ttok rfl rfl rfl rfl ⟨rfl, rfl, rfl, rfl, trivial⟩ ?_
     refine dst 16 ?_; refine dz0 ?_
     exact ⟨(), trivial, su0 h0 [1, 2, 3, 5, 4] _ _ (by decide) ⟨rfl, rfl, rfl, rfl, rfl, rfl, trivial⟩ ⟨oe rfl rfl, oe rfl rfl, oe rfl rfl, oe rfl rfl, oe rfl rfl, rfl⟩⟩
    refine o_al (key := 5) 13 rfl rfl ttok rfl ⟨rfl, rfl, rfl, rfl, trivial⟩ ?_; refine dca 11 rfl (hLr) ok141 ⟨a1 rfl, rfl⟩ (.one (.t (sU false zr))) ?_
    refine dca 12 rfl (hMr) ok108 ⟨a1 rfl, a1 rfl, rfl⟩ (kF (sgn (sgz k) (k.natAbs % k'.natAbs))) ?_
    refine d_stn 15 (by kernel_rfl) rfl rfl ttok rfl rfl rfl rfl ⟨rfl, rfl, rfl, rfl, trivial⟩ ?_
    refine dst 16 ?_; refine dz0 ?_
    exact ⟨(), trivial, su0 h0 [1, 2, 3, 5, 4] _ _ (by decide) ⟨rfl, rfl, rfl, rfl, rfl, rfl, trivial⟩ ⟨oe rfl rfl, oe rfl rfl, oe rfl rfl, oe rfl rfl, oe rfl rfl, rfl⟩⟩
   refine o_al (key := 5) 13 rfl rfl ttok rfl ⟨rfl, rfl, rfl, rfl, trivial⟩ ?_; refine dca 7 rfl (hMq) ok108 ⟨a1 rfl, a1 rfl, rfl⟩ (kF (sgn (sgz k != sgz k') (k.natAbs / k'.natAbs))) ?_
   refine dca 11 rfl (hLr) ok141 ⟨a1 rfl, rfl⟩ (.one (.t (sU false zr))) ?_; refine dca 12 rfl (hMr) ok108 ⟨a1 rfl, a1 rfl, rfl⟩ (kF (sgn (sgz k) (k.natAbs % k'.natAbs))) ?_
   refine d_stn 15 (by kernel_rfl) rfl rfl ttok rfl rfl rfl rfl ⟨rfl, rfl, rfl, rfl, trivial⟩ ?_
   refine dst 16 ?_; refine dz0 ?_
   exact ⟨(), trivial, su0 h0 [1, 2, 3, 5, 4] _ _ (by decide) ⟨rfl, rfl, rfl, rfl, rfl, rfl, trivial⟩ ⟨oe rfl rfl, oe rfl rfl, oe rfl rfl, oe rfl rfl, oe rfl rfl, rfl⟩⟩
  ·refine o_al (key := 4) 13 rfl rfl ttok rfl ⟨rfl, rfl, rfl, rfl, trivial⟩ ?_; refine WO.two (i := 6) (j := 14) (by kernel_rfl) ?_ ?_
   ·refine oca 6 rfl (hLq) ok141 ⟨a1 rfl, rfl⟩ (.one (.t (sU false zq))) ?_; refine WO.two (i := 7) (j := 14) (by kernel_rfl) ?_ ?_
    ·refine oca 7 rfl (hMq) ok108 ⟨a1 rfl, a1 rfl, rfl⟩ (kF (sgn (sgz k != sgz k') (k.natAbs / k'.natAbs))) ?_; refine WO.two (i := 11) (j := 14) (by kernel_rfl) ?_ ?_
     ·refine oca 11 rfl (hLr) ok141 ⟨a1 rfl, rfl⟩ (.one (.t (sU false zr))) ?_; refine WO.two (i := 12) (j := 14) (by kernel_rfl) ?_ ?_
      ·refine oca 12 rfl (hMr) ok108 ⟨a1 rfl, a1 rfl, rfl⟩ (kF (sgn (sgz k) (k.natAbs % k'.natAbs))) ?_
       refine d_al (key := 5) 14 (by kernel_rfl) rfl rfl ttok rfl ⟨rfl, rfl, rfl, rfl, trivial⟩ ?_
       refine d_stn 15 (by kernel_rfl) rfl rfl ttok rfl rfl rfl rfl ⟨rfl, rfl, rfl, rfl, trivial⟩ ?_
       refine dst 16 ?_; refine dz0 ?_
       exact ⟨(), trivial, su0 h0 [1, 2, 3, 4, 5] _ _ (by decide) ⟨rfl, rfl, rfl, rfl, rfl, rfl, trivial⟩ ⟨oe rfl rfl, oe rfl rfl, oe rfl rfl, oe rfl rfl, oe rfl rfl, rfl⟩⟩
      refine o_al (key := 5) 14 rfl rfl ttok rfl ⟨rfl, rfl, rfl, rfl, trivial⟩ ?_; refine dca 12 rfl (hMr) ok108 ⟨a1 rfl, a1 rfl, rfl⟩ (kF (sgn (sgz k) (k.natAbs % k'.natAbs))) ?_
      refine d_stn 15 (by kernel_rfl) rfl rfl ttok rfl rfl rfl rfl ⟨rfl, rfl, rfl, rfl, trivial⟩ ?_
      refine dst 16 ?_; refine dz0 ?_
      exact ⟨(), trivial, su0 h0 [1, 2, 3, 4, 5] _ _ (by decide) ⟨rfl, rfl, rfl, rfl, rfl, rfl, trivial⟩ ⟨oe rfl rfl, oe rfl rfl, oe rfl rfl, oe rfl rfl, oe rfl rfl, rfl⟩⟩
     refine o_al (key := 5) 14 rfl rfl ttok rfl ⟨rfl, rfl, rfl, rfl, trivial⟩ ?_; refine dca 11 rfl (hLr) ok141 ⟨a1 rfl, rfl⟩ (.one (.t (sU false zr))) ?_
     refine dca 12 rfl (hMr) ok108 ⟨a1 rfl, a1 rfl, rfl⟩ (kF (sgn (sgz k) (k.natAbs % k'.natAbs))) ?_
     refine d_stn 15 (by kernel_rfl) rfl rfl ttok rfl rfl rfl rfl ⟨rfl, rfl, rfl, rfl, trivial⟩ ?_
     refine dst 16 ?_; refine dz0 ?_
     exact ⟨(), trivial, su0 h0 [1, 2, 3, 4, 5] _ _ (by decide) ⟨rfl, rfl, rfl, rfl, rfl, rfl, trivial⟩ ⟨oe rfl rfl, oe rfl rfl, oe rfl rfl, oe rfl rfl, oe rfl rfl, rfl⟩⟩
    refine o_al (key := 5) 14 rfl rfl ttok rfl ⟨rfl, rfl, rfl, rfl, trivial⟩ ?_; refine dca 7 rfl (hMq) ok108 ⟨a1 rfl, a1 rfl, rfl⟩ (kF (sgn (sgz k != sgz k') (k.natAbs / k'.natAbs))) ?_
    refine dca 11 rfl (hLr) ok141 ⟨a1 rfl, rfl⟩ (.one (.t (sU false zr))) ?_; refine dca 12 rfl (hMr) ok108 ⟨a1 rfl, a1 rfl, rfl⟩ (kF (sgn (sgz k) (k.natAbs % k'.natAbs))) ?_
    refine d_stn 15 (by kernel_rfl) rfl rfl ttok rfl rfl rfl rfl ⟨rfl, rfl, rfl, rfl, trivial⟩ ?_
    refine dst 16 ?_; refine dz0 ?_
    exact ⟨(), trivial, su0 h0 [1, 2, 3, 4, 5] _ _ (by decide) ⟨rfl, rfl, rfl, rfl, rfl, rfl, trivial⟩ ⟨oe rfl rfl, oe rfl rfl, oe rfl rfl, oe rfl rfl, oe rfl rfl, rfl⟩⟩
   refine o_al (key := 5) 14 rfl rfl ttok rfl ⟨rfl, rfl, rfl, rfl, trivial⟩ ?_; refine dca 6 rfl (hLq) ok141 ⟨a1 rfl, rfl⟩ (.one (.t (sU false zq))) ?_
   refine dca 7 rfl (hMq) ok108 ⟨a1 rfl, a1 rfl, rfl⟩ (kF (sgn (sgz k != sgz k') (k.natAbs / k'.natAbs))) ?_; refine dca 11 rfl (hLr) ok141 ⟨a1 rfl, rfl⟩ (.one (.t (sU false zr))) ?_
   refine dca 12 rfl (hMr) ok108 ⟨a1 rfl, a1 rfl, rfl⟩ (kF (sgn (sgz k) (k.natAbs % k'.natAbs))) ?_; refine d_stn 15 (by kernel_rfl) rfl rfl ttok rfl rfl rfl rfl ⟨rfl, rfl, rfl, rfl, trivial⟩ ?_
   refine dst 16 ?_; refine dz0 ?_
   exact ⟨(), trivial, su0 h0 [1, 2, 3, 4, 5] _ _ (by decide) ⟨rfl, rfl, rfl, rfl, rfl, rfl, trivial⟩ ⟨oe rfl rfl, oe rfl rfl, oe rfl rfl, oe rfl rfl, oe rfl rfl, rfl⟩⟩
  refine o_al (key := 4) 14 rfl rfl ttok rfl ⟨rfl, rfl, rfl, rfl, trivial⟩ ?_; refine WO.two (i := 6) (j := 13) (by kernel_rfl) ?_ ?_
  ·refine oca 6 rfl (hLq) ok141 ⟨a1 rfl, rfl⟩ (.one (.t (sU false zq))) ?_; refine WO.two (i := 7) (j := 13) (by kernel_rfl) ?_ ?_
   ·refine oca 7 rfl (hMq) ok108 ⟨a1 rfl, a1 rfl, rfl⟩ (kF (sgn (sgz k != sgz k') (k.natAbs / k'.natAbs))) ?_; refine WO.two (i := 11) (j := 13) (by kernel_rfl) ?_ ?_
    ·refine oca 11 rfl (hLr) ok141 ⟨a1 rfl, rfl⟩ (.one (.t (sU false zr))) ?_; refine WO.two (i := 12) (j := 13) (by kernel_rfl) ?_ ?_
     ·refine oca 12 rfl (hMr) ok108 ⟨a1 rfl, a1 rfl, rfl⟩ (kF (sgn (sgz k) (k.natAbs % k'.natAbs))) ?_
      refine d_al (key := 5) 13 (by kernel_rfl) rfl rfl ttok rfl ⟨rfl, rfl, rfl, rfl, trivial⟩ ?_
      refine d_stn 15 (by kernel_rfl) rfl rfl ttok rfl rfl rfl rfl ⟨rfl, rfl, rfl, rfl, trivial⟩ ?_
      refine dst 16 ?_; refine dz0 ?_
      exact ⟨(), trivial, su0 h0 [1, 2, 3, 5, 4] _ _ (by decide) ⟨rfl, rfl, rfl, rfl, rfl, rfl, trivial⟩ ⟨oe rfl rfl, oe rfl rfl, oe rfl rfl, oe rfl rfl, oe rfl rfl, rfl⟩⟩
     refine o_al (key := 5) 13 rfl rfl ttok rfl ⟨rfl, rfl, rfl, rfl, trivial⟩ ?_; refine dca 12 rfl (hMr) ok108 ⟨a1 rfl, a1 rfl, rfl⟩ (kF (sgn (sgz k) (k.natAbs % k'.natAbs))) ?_
     refine d_stn 15 (by kernel_rfl) rfl rfl ttok rfl rfl rfl rfl ⟨rfl, rfl, rfl, rfl, trivial⟩ ?_
     refine dst 16 ?_; refine dz0 ?_
     exact ⟨(), trivial, su0 h0 [1, 2, 3, 5, 4] _ _ (by decide) ⟨rfl, rfl, rfl, rfl, rfl, rfl, trivial⟩ ⟨oe rfl rfl, oe rfl rfl, oe rfl rfl, oe rfl rfl, oe rfl rfl, rfl⟩⟩
    refine o_al (key := 5) 13 rfl rfl ttok rfl ⟨rfl, rfl, rfl, rfl, trivial⟩ ?_; refine dca 11 rfl (hLr) ok141 ⟨a1 rfl, rfl⟩ (.one (.t (sU false zr))) ?_
    refine dca 12 rfl (hMr) ok108 ⟨a1 rfl, a1 rfl, rfl⟩ (kF (sgn (sgz k) (k.natAbs % k'.natAbs))) ?_
    refine d_stn 15 (by kernel_rfl) rfl rfl ttok rfl rfl rfl rfl ⟨rfl, rfl, rfl, rfl, trivial⟩ ?_
    refine dst 16 ?_; refine dz0 ?_
    exact ⟨(), trivial, su0 h0 [1, 2, 3, 5, 4] _ _ (by decide) ⟨rfl, rfl, rfl, rfl, rfl, rfl, trivial⟩ ⟨oe rfl rfl, oe rfl rfl, oe rfl rfl, oe rfl rfl, oe rfl rfl, rfl⟩⟩
   refine o_al (key := 5) 13 rfl rfl ttok rfl ⟨rfl, rfl, rfl, rfl, trivial⟩ ?_; refine dca 7 rfl (hMq) ok108 ⟨a1 rfl, a1 rfl, rfl⟩ (kF (sgn (sgz k != sgz k') (k.natAbs / k'.natAbs))) ?_
   refine dca 11 rfl (hLr) ok141 ⟨a1 rfl, rfl⟩ (.one (.t (sU false zr))) ?_; refine dca 12 rfl (hMr) ok108 ⟨a1 rfl, a1 rfl, rfl⟩ (kF (sgn (sgz k) (k.natAbs % k'.natAbs))) ?_
   refine d_stn 15 (by kernel_rfl) rfl rfl ttok rfl rfl rfl rfl ⟨rfl, rfl, rfl, rfl, trivial⟩ ?_
   refine dst 16 ?_; refine dz0 ?_
   exact ⟨(), trivial, su0 h0 [1, 2, 3, 5, 4] _ _ (by decide) ⟨rfl, rfl, rfl, rfl, rfl, rfl, trivial⟩ ⟨oe rfl rfl, oe rfl rfl, oe rfl rfl, oe rfl rfl, oe rfl rfl, rfl⟩⟩
  refine o_al (key := 5) 13 rfl rfl ttok rfl ⟨rfl, rfl, rfl, rfl, trivial⟩ ?_; refine dca 6 rfl (hLq) ok141 ⟨a1 rfl, rfl⟩ (.one (.t (sU false zq))) ?_
  refine dca 7 rfl (hMq) ok108 ⟨a1 rfl, a1 rfl, rfl⟩ (kF (sgn (sgz k != sgz k') (k.natAbs / k'.natAbs))) ?_; refine dca 11 rfl (hLr) ok141 ⟨a1 rfl, rfl⟩ (.one (.t (sU false zr))) ?_
  refine dca 12 rfl (hMr) ok108 ⟨a1 rfl, a1 rfl, rfl⟩ (kF (sgn (sgz k) (k.natAbs % k'.natAbs))) ?_; refine d_stn 15 (by kernel_rfl) rfl rfl ttok rfl rfl rfl rfl ⟨rfl, rfl, rfl, rfl, trivial⟩ ?_
  refine dst 16 ?_; refine dz0 ?_
  exact ⟨(), trivial, su0 h0 [1, 2, 3, 5, 4] _ _ (by decide) ⟨rfl, rfl, rfl, rfl, rfl, rfl, trivial⟩ ⟨oe rfl rfl, oe rfl rfl, oe rfl rfl, oe rfl rfl, oe rfl rfl, rfl⟩⟩
 have hlq : (dg 4294967296 (sgn (sgz k != sgz k') (k.natAbs / k'.natAbs)).natAbs).length ≤ (dg 4294967296 (k).natAbs).length := by rw [sgn_abs]; exact dg_le_len (Nat.div_le_self _ _)
 have hlr : (dg 4294967296 (sgn (sgz k) (k.natAbs % k'.natAbs)).natAbs).length ≤ (dg 4294967296 (k).natAbs).length := by rw [sgn_abs]; exact dg_le_len (Nat.mod_le _ _)
 refine sq ?_; refine sq ?_; refine rd [0, 1, 2, 3, 4] (fun i => [].contains i) mixed ?_
 refine dld 0 ?_; refine dca 1 rfl (c_Sign3 (Zn.of (k := sgn (sgz k) (k.natAbs % k'.natAbs)) (by omega))) ok91 ⟨a1g rfl, rfl⟩ (.one (tv (.int .i64 (sgn (sgz k) (k.natAbs % k'.natAbs)).sign))) ?_
 refine df 2 ?_; refine df 3 ?_; refine WD.split (t := 47) rfl rfl (fun h6 => ?_) (fun h6 => ?_)
 ·refine dld 4 ?_; refine dld 6 ?_
  refine dca 5 rfl (c_Sign3 (Zn.of (k := sgn (sgz k) (k.natAbs % k'.natAbs)) (by omega))) ok91 ⟨a1g rfl, rfl⟩ (.one (tv (.int .i64 (sgn (sgz k) (k.natAbs % k'.natAbs)).sign))) ?_
  refine dca 7 rfl (c_Sign3 (Zn.of (k := k') (by omega))) ok91 ⟨a1g rfl, rfl⟩ (.one (tv (.int .i64 (k').sign))) ?_
  refine df 8 ?_; refine df 9 ?_; refine dz0 ?_; refine cdp rfl (fun h7 => ?_) (fun h7 => ?_)
  ·refine sq ?_; refine rd [0, 1, 2, 3, 4] (fun i => [2, 3].contains i) mixed ?_
   refine dld 0 ?_; have hol : (dg 4294967296 (1 : Int).natAbs).length ≤ 1 := dg_length_le (by omega) (by decide)
   refine dca 1 rfl (c_Of3 (n := 1) (by omega) (by omega)) ok66 ⟨a1 rfl, rfl⟩ (kF (1 : Int)) ?_
   refine dca 2 rfl (c_Sub3 (Zn.of (k := sgn (sgz k != sgz k') (k.natAbs / k'.natAbs)) (by omega)) (Zn.of (k := (1 : Int)) (by omega))) ok168 ⟨a1g rfl, a1g rfl, rfl⟩ (kF (sgn (sgz k != sgz k') (k.natAbs / k'.natAbs) - (1 : Int))) ?_
   refine dst 3 ?_; refine dz0 ?_; refine rl ?_; refine ld ?_; refine ld ?_
   refine ca (c_Add3 (Zn.of (k := sgn (sgz k) (k.natAbs % k'.natAbs)) (by omega)) (Zn.of (k := k') (by omega))) ok96 ⟨a1g rfl, a1g rfl, rfl⟩ (kF (sgn (sgz k) (k.natAbs % k'.natAbs) + k')) ?_
   refine st ?_; refine nl ?_; refine sq ?_; refine rd [0, 2, 3, 4] (fun i => [3, 4].contains i) mixed ?_
   refine dld 0 ?_; refine dld 1 ?_; refine d_stn 2 (by kernel_rfl) rfl rfl ttok rfl rfl rfl rfl ⟨rfl, rfl, rfl, rfl, trivial⟩ ?_
   refine dst 3 ?_; refine d_v 4 (by kernel_rfl) rfl rfl ttok rfl (by trivial) ?_ (fun h => by first | rfl | cases h)
   refine dz0 ?_; refine rt ?_; obtain ⟨hd1, hd2⟩ := dm_adj1 (a := k) (b := k') hkn rfl rfl h6 h7
   exact en (.inl rfl) rfl (pkt3 (.cons (.agg (.cons (.id rfl) (.cons (.id rfl) .nil))) (.cons (.agg (.cons (.id rfl) (.cons (.id rfl) .nil))) (.cons (pkv _) .nil)))) (by decide) (fun h => by cases h) (by rw [if_neg hkn, if_neg hkn, if_neg hkn, ← hd1, ← hd2]; rfl)
  refine sk ?_; refine sq ?_; refine rd [0, 2, 3, 4] (fun i => [3, 4].contains i) mixed ?_
  refine dld 0 ?_; refine dld 1 ?_; refine d_stn 2 (by kernel_rfl) rfl rfl ttok rfl rfl rfl rfl ⟨rfl, rfl, rfl, rfl, trivial⟩ ?_
  refine dst 3 ?_; refine d_v 4 (by kernel_rfl) rfl rfl ttok rfl (by trivial) ?_ (fun h => by first | rfl | cases h)
  refine dz0 ?_; refine rt ?_; obtain ⟨hd1, hd2⟩ := dm_adj2 (a := k) (b := k') hkn rfl rfl (.inr (Decidable.byContradiction h7))
  exact en (.inl rfl) rfl (pkt3 (.cons (.agg (.cons (.id rfl) (.cons (.id rfl) .nil))) (.cons (.agg (.cons (.id rfl) (.cons (.id rfl) .nil))) (.cons (pkv _) .nil)))) (by decide) (fun h => by cases h) (by rw [if_neg hkn, if_neg hkn, if_neg hkn, ← hd1, ← hd2]; rfl)
 refine dno 4 ?_; refine dno 6 ?_; refine dno 5 ?_; refine dno 7 ?_; refine dno 8 ?_; refine df 9 ?_; refine dz0 ?_; refine cdf rfl ?_; refine sk ?_; refine sq ?_
 refine rd [0, 2, 3, 4] (fun i => [3, 4].contains i) mixed ?_
 refine dld 0 ?_; refine dld 1 ?_; refine d_stn 2 (by kernel_rfl) rfl rfl ttok rfl rfl rfl rfl ⟨rfl, rfl, rfl, rfl, trivial⟩ ?_
 refine dst 3 ?_; refine d_v 4 (by kernel_rfl) rfl rfl ttok rfl (by trivial) ?_ (fun h => by first | rfl | cases h)
 refine dz0 ?_; refine rt ?_; obtain ⟨hd1, hd2⟩ := dm_adj2 (a := k) (b := k') hkn rfl rfl (.inl (Decidable.byContradiction h6))
 exact en (.inl rfl) rfl (pkt3 (.cons (.agg (.cons (.id rfl) (.cons (.id rfl) .nil))) (.cons (.agg (.cons (.id rfl) (.cons (.id rfl) .nil))) (.cons (pkv _) .nil)))) (by decide) (fun h => by cases h) (by rw [if_neg hkn, if_neg hkn, if_neg hkn, ← hd1, ← hd2]; rfl)
theorem c_Zero4 : Spec false Tryz.prog 107 [] [] (Ret (qF (.of 0))) := by
 refine fn0 Tryz.func107 rfl Tryz.ntmps107 rfl ttok rfl fun N w c0 h0 => ?_
 refine sq ?_; refine rl ?_; refine al 0 ?_; refine nl ?_; refine sq ?_; refine rl ?_; have hn1 := of_len (n := (0 : Int)) (by omega) (by omega)
 refine ca (c_Of3 (n := (0 : Int)) (by omega) (by omega)) ok66 ⟨a1 rfl, rfl⟩ (kF ((0 : Int))) ?_
 have hn2 := of_len (n := (1 : Int)) (by omega) (by omega)
 refine ca (c_Of3 (n := (1 : Int)) (by omega) (by omega)) ok66 ⟨a1 rfl, rfl⟩ (kF ((1 : Int))) ?_
 refine o1 ?_; refine st ?_; refine nl ?_; refine rt ?_
 exact en (.inl rfl) rfl (pk1 (.agg (.cons (.id rfl) (.cons (.id rfl) (.cons (.id rfl) (.cons (.id rfl) .nil)))))) (by decide) (fun h => by cases h) (qF_make (q := 0) rfl rfl)
theorem c_DivModn {a b : Zi} {k k' : Int} (ha : Zn a k) (hb : Zn b k') (h0 : k' ≠ 0) : Spec false Tryz.prog 138 [] [gF a, gF b] (Ret (.tup [kF (k.fdiv k'), kF (k.fmod k'), .one (tv (.int .i64 0))])) := by
 have h := c_DivMod3 ha hb
 rwa [if_neg h0, if_neg h0, if_neg h0] at h
theorem c_New4 {a b : Zi} {k k' : Int} (ha : Zn a k) (hb : Zn b k') : Spec false Tryz.prog 95 [] [gF a, gF b] (Ret (.tup [qF (.of (Rat.divInt k k')), .one (tv (.int .i64 (if k' = 0 then 20 else 0)))])) := by
 refine fn0 Tryz.func95 rfl Tryz.ntmps95 rfl ttok rfl fun N w c0 h0 => ?_
 have hkl := ha.len
 have hkl' := hb.len
 refine sq ?_; refine rl ?_; refine bx 0 ?_; refine bx 1 ?_; refine al 2 ?_; refine o1 ?_; refine nl ?_; refine sq ?_; refine sq ?_; refine rl ?_; refine ld ?_
 refine ca (c_Sign3 hb) ok91 ⟨a1g rfl, rfl⟩ (.one (tv (.int .i64 (k').sign))) ?_; refine o1 ?_; refine nl ?_; refine cdp rfl (fun h1 => ?_) (fun h1 => ?_)
 ·refine sq ?_; refine rl ?_; refine ca (c_Zero4) ok107 rfl (qF (.of 0)) ?_; refine st ?_; refine o1 ?_; refine nl ?_; refine rt ?_; have hk0 : k' = 0 := Int.sign_eq_zero_iff_zero.1 h1
  have hd0 : Rat.divInt k k' = 0 := by rw [hk0]; simp
  exact en (.inl rfl) rfl (pkt (.cons (.agg (.cons (.id rfl) (.cons (.id rfl) (.cons (.id rfl) (.cons (.id rfl) .nil))))) (.cons (pkv _) .nil))) (by decide) (fun h => by cases h) (by rw [if_pos hk0, hd0]; rfl)
 refine sk ?_; refine sq ?_; refine sq ?_; have hk0 : k' ≠ 0 := fun h9 => h1 (by rw [h9]; rfl)
 refine rl ?_; refine ld ?_; refine ca (c_Sign3 hb) ok91 ⟨a1g rfl, rfl⟩ (.one (tv (.int .i64 (k').sign))) ?_; refine o1 ?_; refine nl ?_; refine cdp rfl (fun h2 => ?_) (fun h2 => ?_)
 ·refine sq ?_; refine rl ?_; refine ld ?_; have hn3 := negz_len (k)
  refine ca (c_Neg3 ha) ok93 ⟨a1g rfl, rfl⟩ (kF (-k)) ?_; refine st ?_; refine nl ?_; refine rl ?_; refine ld ?_; have hn4 := negz_len (k')
  refine ca (c_Neg3 hb) ok93 ⟨a1g rfl, rfl⟩ (kF (-k')) ?_; refine st ?_; refine nl ?_; refine sq ?_; have hkn : k' < 0 := Int.sign_neg_iff.1 h2
  refine rl ?_; refine ld ?_; refine ld ?_; have hn5 := gcd_len (k := -k) (k' := -k') (by omega)
  refine ca (c_Gcd3 (Zn.of (k := -k) (by omega)) (Zn.of (k := -k') (by omega))) ok135 ⟨a1g rfl, a1g rfl, rfl⟩ (kF (((Int.gcd (-k) (-k') : Nat) : Int))) ?_
  refine al 3 ?_; refine st ?_; refine nl ?_; refine sq ?_; refine rl ?_; refine ld ?_; refine ld ?_
  refine ca (c_DivModn (Zn.of (k := -k) (by omega)) (Zn.of (k := ((Int.gcd (-k) (-k') : Nat) : Int)) (by omega)) (gcd_nz (by omega))) ok138 ⟨a1g rfl, a1g rfl, rfl⟩ (.tup [kF ((-k).fdiv ((Int.gcd (-k) (-k') : Nat) : Int)), kF ((-k).fmod ((Int.gcd (-k) (-k') : Nat) : Int)), .one (tv (.int .i64 0))]) ?_
  (iterate 4 refine o1 ?_); refine al 4 ?_; refine al 5 ?_; refine st ?_; refine st ?_; refine o1 ?_; refine nl ?_; refine sq ?_; refine rl ?_; refine ld ?_; refine ld ?_
  refine ca (c_DivModn (Zn.of (k := -k') (by omega)) (Zn.of (k := ((Int.gcd (-k) (-k') : Nat) : Int)) (by omega)) (gcd_nz (by omega))) ok138 ⟨a1g rfl, a1g rfl, rfl⟩ (.tup [kF ((-k').fdiv ((Int.gcd (-k) (-k') : Nat) : Int)), kF ((-k').fmod ((Int.gcd (-k) (-k') : Nat) : Int)), .one (tv (.int .i64 0))]) ?_
  (iterate 4 refine o1 ?_); refine al 6 ?_; refine al 7 ?_; refine st ?_; refine st ?_; refine o1 ?_; refine nl ?_; refine sq ?_; refine rl ?_; refine ld ?_; refine ld ?_; refine o1 ?_
  refine st ?_; refine o1 ?_; refine nl ?_; refine rt ?_; obtain ⟨hp9, hn9⟩ := new_laws (a := k) hk0
  obtain ⟨e1, e2⟩ := hn9 hkn
  exact en (.inl rfl) rfl (pkt (.cons (.agg (.cons (.id rfl) (.cons (.id rfl) (.cons (.id rfl) (.cons (.id rfl) .nil))))) (.cons (pkv _) .nil))) (by decide) (fun h => by cases h) (by rw [if_neg hk0]; exact congrArg (fun f => FV.tup [f, .one (tv (.int .i64 0))]) (qF_make e1 e2))
 refine sk ?_; refine sq ?_; have hkp : 0 < k' := by have h9 := mt Int.sign_neg_iff.2 h2; omega
 refine rl ?_; refine ld ?_; refine ld ?_; have hn6 := gcd_len (k := k) (k' := k') (by omega)
 refine ca (c_Gcd3 ha hb) ok135 ⟨a1g rfl, a1g rfl, rfl⟩ (kF (((Int.gcd k k' : Nat) : Int))) ?_; refine al 3 ?_; refine st ?_; refine nl ?_; refine sq ?_; refine rl ?_; refine ld ?_; refine ld ?_
 refine ca (c_DivModn ha (Zn.of (k := ((Int.gcd k k' : Nat) : Int)) (by omega)) (gcd_nz (by omega))) ok138 ⟨a1g rfl, a1g rfl, rfl⟩ (.tup [kF ((k).fdiv ((Int.gcd k k' : Nat) : Int)), kF ((k).fmod ((Int.gcd k k' : Nat) : Int)), .one (tv (.int .i64 0))]) ?_
 (iterate 4 refine o1 ?_); refine al 4 ?_; refine al 5 ?_; refine st ?_; refine st ?_; refine o1 ?_; refine nl ?_; refine sq ?_; refine rl ?_; refine ld ?_; refine ld ?_
 refine ca (c_DivModn hb (Zn.of (k := ((Int.gcd k k' : Nat) : Int)) (by omega)) (gcd_nz (by omega))) ok138 ⟨a1g rfl, a1g rfl, rfl⟩ (.tup [kF ((k').fdiv ((Int.gcd k k' : Nat) : Int)), kF ((k').fmod ((Int.gcd k k' : Nat) : Int)), .one (tv (.int .i64 0))]) ?_
 (iterate 4 refine o1 ?_); refine al 6 ?_; refine al 7 ?_; refine st ?_; refine st ?_; refine o1 ?_; refine nl ?_; refine sq ?_; refine rl ?_; refine ld ?_; refine ld ?_; refine o1 ?_
 refine st ?_; refine o1 ?_; refine nl ?_; refine rt ?_; obtain ⟨hp9, hn9⟩ := new_laws (a := k) hk0
 obtain ⟨e1, e2⟩ := hp9 hkp
 exact en (.inl rfl) rfl (pkt (.cons (.agg (.cons (.id rfl) (.cons (.id rfl) (.cons (.id rfl) (.cons (.id rfl) .nil))))) (.cons (pkv _) .nil))) (by decide) (fun h => by cases h) (by rw [if_neg hk0]; exact congrArg (fun f => FV.tup [f, .one (tv (.int .i64 0))]) (qF_make e1 e2))
theorem c_Of4 {n d : Int} (h1 : -9223372036854775808 ≤ n) (h2 : n ≤ 9223372036854775807) (h3 : -9223372036854775808 ≤ d) (h4 : d ≤ 9223372036854775807) : Spec false Tryz.prog 67 [] [.one (tv (.int .i64 n)), .one (tv (.int .i64 d))] (Ret (.tup [qF (.of (Rat.divInt n d)), .one (tv (.int .i64 (if d = 0 then 20 else 0)))])) := by
 refine fn0 Tryz.func67 rfl Tryz.ntmps67 rfl ttok rfl fun N w c0 h0 => ?_
 refine sq ?_; refine rl ?_; refine al 0 ?_; refine o1 ?_; refine nl ?_; refine sq ?_; refine rl ?_; refine o1 ?_; have hn1 := of_len (n := n) (by omega) (by omega)
 refine ca (c_Of3 (n := n) (by omega) (by omega)) ok66 ⟨a1 rfl, rfl⟩ (kF (n)) ?_
 refine o1 ?_; have hn2 := of_len (n := d) (by omega) (by omega)
 refine ca (c_Of3 (n := d) (by omega) (by omega)) ok66 ⟨a1 rfl, rfl⟩ (kF (d)) ?_
 refine ca (c_New4 (Zn.of (k := n) (by omega)) (Zn.of (k := d) (by omega))) ok95 ⟨a1g rfl, a1g rfl, rfl⟩ (.tup [qF (.of (Rat.divInt (n) (d))), .one (tv (.int .i64 (if (d) = 0 then 20 else 0)))]) ?_
 refine o1 ?_; refine o1 ?_; refine st ?_; refine o1 ?_; refine nl ?_; refine rt ?_
 exact en (.inl rfl) rfl (pkt (.cons (.agg (.cons (.id rfl) (.cons (.id rfl) (.cons (.id rfl) (.cons (.id rfl) .nil))))) (.cons (pkv _) .nil))) (by decide) (fun h => by cases h) rfl
theorem f_By {n d : Int} (h1 : -9223372036854775808 ≤ n) (h2 : n ≤ 9223372036854775807) (h3 : -9223372036854775808 ≤ d) (h4 : d ≤ 9223372036854775807) : Spec true Tryz.prog 32 [] [.one (tv (.int .i64 n)), .one (tv (.int .i64 d))] (Ret (qO (Rat.divInt n d))) := by
 refine fn0 Tryz.func32 rfl Tryz.ntmps32 rfl ttok rfl fun N w c0 h0 => ?_
 have hs := by_sz h1 h2 h3 h4
 have hl : (Fr4.of (Rat.divInt n d)).len 1099511627776 := ⟨Nat.le_trans hs.1 (by omega), Nat.le_trans hs.2 (by omega)⟩
 refine sq ?_; refine rl ?_; refine al 0 ?_; refine nl ?_; refine sq ?_; refine rl ?_; refine o1 ?_; refine o1 ?_
 refine ca (c_Of4 h1 h2 h3 h4) ok67 ⟨a1 rfl, a1 rfl, rfl⟩ (.tup [qF (.of (Rat.divInt n d)), .one (tv (.int .i64 (if d = 0 then 20 else 0)))]) ?_; (iterate 3 refine o1 ?_); refine al 1 ?_; refine st ?_
 refine o1 ?_; refine nl ?_; refine sq ?_; refine rl ?_; refine ld ?_; refine cak 2 (c_OfRat (a := .of (Rat.divInt n d)) hl) ok68 ⟨a1g rfl, rfl⟩ ?_; refine st ?_; refine nl ?_; refine rt ?_
 exact en (.inl rfl) rfl (pk1 (.agg (.cons (.id rfl) (.cons (.sl (trs := u32T (dg 4294967296 (Rat.divInt n d).num.natAbs)) rfl rfl (tk_u32 _) (ln_u32 _)) (.cons (.id rfl) (.cons (.sl (trs := u32T (dg 4294967296 (Rat.divInt n d).den)) rfl rfl (tk_u32 _) (ln_u32 _)) .nil)))))) (by decide) (fun _ => nofr_q _) rfl
theorem l_short {a : Fr4} : Spec true Tryz.prog 23 [] [qF a] (Ret (.one (tv (.bool (shortM a))))) := by
 refine fn0 Tryz.func23 rfl Tryz.ntmps23 rfl ttok rfl fun N w c0 h0 => ?_
 refine sq ?_; refine rl ?_; refine bx 0 ?_; refine o1 ?_; refine nl ?_; refine sq ?_; refine rl ?_; refine o1 ?_; refine o1 ?_; refine ld ?_; (iterate 3 refine o1 ?_)
 refine WL.split (t := 8) rfl (fun h1 => ?_) (fun h1 => ?_)
 ·refine o1 ?_; refine o1 ?_; refine ld ?_; (iterate 4 refine o1 ?_); refine nl ?_; refine rt ?_
  exact en (.inl rfl) rfl (pk1 (pkv _)) (by decide) (fun _ => trivial) (congrArg (fun z => FV.one (tv (.bool z))) (by simp only [shortM, decide_eq_true h1, Bool.not_true, Bool.not_false, Bool.or_true, Bool.true_or, Bool.false_or, Bool.or_false, Bool.false_eq_true, if_true, if_false, ite_true, ite_false, Bool.and_true, Bool.true_and, Bool.false_and, Bool.and_false]))
 (iterate 5 refine no_ ?_); refine o1 ?_; refine o1 ?_; refine nl ?_; refine rt ?_
 exact en (.inl rfl) rfl (pk1 (pkv _)) (by decide) (fun _ => trivial) (congrArg (fun z => FV.one (tv (.bool z))) (by simp only [shortM, decide_eq_false h1, Bool.not_true, Bool.not_false, Bool.or_true, Bool.true_or, Bool.false_or, Bool.or_false, Bool.false_eq_true, if_true, if_false, ite_true, ite_false, Bool.and_true, Bool.true_and, Bool.false_and, Bool.and_false]))
theorem l_few {c : Fr4} {bk fw : Int} {ys : List (Fr4 × Fr4)} : Spec true Tryz.prog 8 [] [.agg ((c.tr false ++ [.v (.int .i64 bk), .v (.int .i64 fw)] : List Tr).map .t), .one (.t (sMy ys))] (Ret (.one (tv (.bool (fewM c ys))))) := by
 refine fn0 Tryz.func8 rfl Tryz.ntmps8 rfl ttok rfl fun N w c0 h0 => ?_
 refine sq ?_; refine rl ?_; refine bx 0 ?_; refine o1 ?_; refine nl ?_; refine sq ?_; refine sq ?_; refine rl ?_; refine o1 ?_; refine nl ?_; refine bl ?_
 refine lp (γ := Nat) (fun k => frL [(1, .one (.t (sMy ys))), (2, .one (.pt 0 0)), (5, .one (tv (.int .i64 ((k : Nat) : Int))))]) (fun _ => [(⟨28, 0, (c.tr false ++ [.v (.int .i64 bk), .v (.int .i64 fw)] : List Tr).map .t⟩ : Ob)].map some) (fun k => k ≤ ys.length ∧ k ≤ 50 ∧ ∀ j, j < k → (shortM (nthY ys j).1 && shortM (nthY ys j).2) = true) (fun k => ys.length - k) 0 ⟨Nat.zero_le _, Nat.zero_le _, fun j hj => absurd hj (Nat.not_lt_zero j)⟩ (su0 h0 [0] _ _ (by decide) ⟨rfl, rfl, rfl, trivial⟩ ⟨oe rfl rfl, rfl⟩) fun k hk => ?_
 refine sq ?_; refine sq ?_; refine rl ?_; (iterate 5 refine o1 ?_); refine WL.split (t := 10) rfl (fun h1 => ?_) (fun h1 => ?_)
 ·(iterate 3 refine o1 ?_); refine nl ?_; refine cdp rfl (fun h2 => ?_) (fun h2 => ?_)
  ·refine sk ?_; refine sq ?_; refine bl ?_; refine sq ?_; refine rl ?_; (iterate 4 refine o1 ?_)
   refine ldf ((nthY ys (k)).1.tr false) (flat_sub' (f := ytr) (z := 8) (o := 0) ytr_len (nthY_get (by omega)) (Nat.le_of_ble_eq_true rfl) rfl) ?_
   refine ca (l_short (a := (nthY ys (k)).1)) ok23 ⟨a1g rfl, rfl⟩ (.one (tv (.bool (shortM (nthY ys (k)).1)))) ?_; refine WL.splitb (t := 21) rfl (fun h3 => ?_) (fun h3 => ?_)
   ·(iterate 6 refine o1 ?_); refine ldf ((nthY ys (k)).2.tr false) (flat_sub' (f := ytr) (z := 8) (o := 4) ytr_len (nthY_get (by omega)) (Nat.le_of_ble_eq_true rfl) rfl) ?_
    refine ca (l_short (a := (nthY ys (k)).2)) ok23 ⟨a1g rfl, rfl⟩ (.one (tv (.bool (shortM (nthY ys (k)).2)))) ?_; refine WL.splitb (t := 29) rfl (fun h4 => ?_) (fun h4 => ?_)
    ·refine o1 ?_; refine o1 ?_; refine nl ?_; refine cdf rfl ?_; refine sk ?_; refine rl ?_; refine o1 ?_; refine o1 ?_
     refine WL.cast (t := 15) (u' := .int .i64 ((k + 1 : Nat) : Int)) rfl (cint (by omega)) ?_
     refine o1 ?_; refine nl ?_
     exact ⟨k + 1, by omega, ⟨by omega, by omega, fun j hj => by rcases Nat.lt_succ_iff_lt_or_eq.1 hj with h9 | h9; exact hk.2.2 j h9; subst h9; rw [h3, h4]; rfl⟩, su0 h0 [0] _ _ (by decide) ⟨rfl, rfl, rfl, trivial⟩ ⟨oe rfl rfl, rfl⟩⟩
    refine o1 ?_; refine o1 ?_; refine nl ?_; refine cdt rfl ?_; refine sq ?_; refine rl ?_; refine o1 ?_; refine nl ?_; refine rt ?_
    exact en (.inl rfl) rfl (pk1 (pkv _)) (by decide) (fun _ => trivial) (congrArg (fun z => FV.one (tv (.bool z))) (fewM_no (c := c) (k := k) (by omega) (by omega) (by simp only [h3, h4, Bool.not_true, Bool.not_false, Bool.or_true, Bool.true_or, Bool.false_or, Bool.or_false, Bool.false_eq_true, if_true, if_false, ite_true, ite_false, Bool.and_true, Bool.true_and, Bool.false_and, Bool.and_false])))
   refine o1 ?_; refine o1 ?_; (iterate 7 refine no_ ?_); refine o1 ?_; refine nl ?_; refine cdt rfl ?_; refine sq ?_; refine rl ?_; refine o1 ?_; refine nl ?_; refine rt ?_
   exact en (.inl rfl) rfl (pk1 (pkv _)) (by decide) (fun _ => trivial) (congrArg (fun z => FV.one (tv (.bool z))) (fewM_no (c := c) (k := k) (by omega) (by omega) (by simp only [h3, Bool.not_true, Bool.not_false, Bool.or_true, Bool.true_or, Bool.false_or, Bool.or_false, Bool.false_eq_true, if_true, if_false, ite_true, ite_false, Bool.and_true, Bool.true_and, Bool.false_and, Bool.and_false])))
  refine ex ?_; refine sq ?_; refine rl ?_; refine o1 ?_; refine ld ?_; refine ca (l_short (a := c)) ok23 ⟨a1g rfl, rfl⟩ (.one (tv (.bool (shortM c)))) ?_; refine o1 ?_
  refine WL.splitb (t := 35) rfl (fun h5 => ?_) (fun h5 => ?_)
  ·(iterate 4 refine o1 ?_); refine WL.split (t := 39) rfl (fun h6 => ?_) (fun h6 => ?_)
   ·(iterate 8 refine no_ ?_); (iterate 3 refine o1 ?_); refine nl ?_; refine rt ?_; have hfy := fewM_yes (c := c) (k := k) hk.2.2 hk.1 (by omega)
    exact en (.inl rfl) rfl (pk1 (pkv _)) (by decide) (fun _ => trivial) (congrArg (fun z => FV.one (tv (.bool z))) (by rw [← hfy]; simp only [h5, decide_eq_true h6, Bool.not_true, Bool.not_false, Bool.or_true, Bool.true_or, Bool.false_or, Bool.or_false, Bool.false_eq_true, if_true, if_false, ite_true, ite_false, Bool.and_true, Bool.true_and, Bool.false_and, Bool.and_false]))
   (iterate 4 refine o1 ?_); refine WL.split (t := 43) rfl (fun h7 => ?_) (fun h7 => ?_)
   ·(iterate 7 refine o1 ?_); refine nl ?_; refine rt ?_; have hfy := fewM_yes (c := c) (k := k) hk.2.2 hk.1 (by omega)
    exact en (.inl rfl) rfl (pk1 (pkv _)) (by decide) (fun _ => trivial) (congrArg (fun z => FV.one (tv (.bool z))) (by rw [← hfy]; simp only [h5, decide_eq_false h6, decide_eq_true h7, Bool.not_true, Bool.not_false, Bool.or_true, Bool.true_or, Bool.false_or, Bool.or_false, Bool.false_eq_true, if_true, if_false, ite_true, ite_false, Bool.and_true, Bool.true_and, Bool.false_and, Bool.and_false]))
   (iterate 3 refine no_ ?_); (iterate 4 refine o1 ?_); refine nl ?_; refine rt ?_; have hfy := fewM_yes (c := c) (k := k) hk.2.2 hk.1 (by omega)
   exact en (.inl rfl) rfl (pk1 (pkv _)) (by decide) (fun _ => trivial) (congrArg (fun z => FV.one (tv (.bool z))) (by rw [← hfy]; simp only [h5, decide_eq_false h6, decide_eq_false h7, Bool.not_true, Bool.not_false, Bool.or_true, Bool.true_or, Bool.false_or, Bool.or_false, Bool.false_eq_true, if_true, if_false, ite_true, ite_false, Bool.and_true, Bool.true_and, Bool.false_and, Bool.and_false]))
  (iterate 13 refine no_ ?_); refine o1 ?_; refine o1 ?_; refine nl ?_; refine rt ?_; have hfy := fewM_yes (c := c) (k := k) hk.2.2 hk.1 (by omega)
  exact en (.inl rfl) rfl (pk1 (pkv _)) (by decide) (fun _ => trivial) (congrArg (fun z => FV.one (tv (.bool z))) (by rw [← hfy]; simp only [h5, Bool.not_true, Bool.not_false, Bool.or_true, Bool.true_or, Bool.false_or, Bool.or_false, Bool.false_eq_true, if_true, if_false, ite_true, ite_false, Bool.and_true, Bool.true_and, Bool.false_and, Bool.and_false]))
 refine no_ ?_; refine no_ ?_; refine o1 ?_; refine nl ?_; refine cdf rfl ?_; refine ex ?_; refine sq ?_; refine rl ?_; refine o1 ?_; refine ld ?_
 refine ca (l_short (a := c)) ok23 ⟨a1g rfl, rfl⟩ (.one (tv (.bool (shortM c)))) ?_; refine o1 ?_; refine WL.splitb (t := 35) rfl (fun h8 => ?_) (fun h8 => ?_)
 ·(iterate 4 refine o1 ?_); refine WL.split (t := 39) rfl (fun h9 => ?_) (fun h9 => ?_)
  ·(iterate 8 refine no_ ?_); (iterate 3 refine o1 ?_); refine nl ?_; refine rt ?_; have hfy := fewM_yes (c := c) (k := k) hk.2.2 hk.1 (by omega)
   exact en (.inl rfl) rfl (pk1 (pkv _)) (by decide) (fun _ => trivial) (congrArg (fun z => FV.one (tv (.bool z))) (by rw [← hfy]; simp only [h8, decide_eq_true h9, Bool.not_true, Bool.not_false, Bool.or_true, Bool.true_or, Bool.false_or, Bool.or_false, Bool.false_eq_true, if_true, if_false, ite_true, ite_false, Bool.and_true, Bool.true_and, Bool.false_and, Bool.and_false]))
  (iterate 4 refine o1 ?_); refine WL.split (t := 43) rfl (fun h10 => ?_) (fun h10 => ?_)
  ·(iterate 7 refine o1 ?_); refine nl ?_; refine rt ?_; have hfy := fewM_yes (c := c) (k := k) hk.2.2 hk.1 (by omega)
   exact en (.inl rfl) rfl (pk1 (pkv _)) (by decide) (fun _ => trivial) (congrArg (fun z => FV.one (tv (.bool z))) (by rw [← hfy]; simp only [h8, decide_eq_false h9, decide_eq_true h10, Bool.not_true, Bool.not_false, Bool.or_true, Bool.true_or, Bool.false_or, Bool.or_false, Bool.false_eq_true, if_true, if_false, ite_true, ite_false, Bool.and_true, Bool.true_and, Bool.false_and, Bool.and_false]))
  (iterate 3 refine no_ ?_); (iterate 4 refine o1 ?_); refine nl ?_; refine rt ?_; have hfy := fewM_yes (c := c) (k := k) hk.2.2 hk.1 (by omega)
  exact en (.inl rfl) rfl (pk1 (pkv _)) (by decide) (fun _ => trivial) (congrArg (fun z => FV.one (tv (.bool z))) (by rw [← hfy]; simp only [h8, decide_eq_false h9, decide_eq_false h10, Bool.not_true, Bool.not_false, Bool.or_true, Bool.true_or, Bool.false_or, Bool.or_false, Bool.false_eq_true, if_true, if_false, ite_true, ite_false, Bool.and_true, Bool.true_and, Bool.false_and, Bool.and_false]))
 (iterate 13 refine no_ ?_); refine o1 ?_; refine o1 ?_; refine nl ?_; refine rt ?_; have hfy := fewM_yes (c := c) (k := k) hk.2.2 hk.1 (by omega)
 exact en (.inl rfl) rfl (pk1 (pkv _)) (by decide) (fun _ => trivial) (congrArg (fun z => FV.one (tv (.bool z))) (by rw [← hfy]; simp only [h8, Bool.not_true, Bool.not_false, Bool.or_true, Bool.true_or, Bool.false_or, Bool.or_false, Bool.false_eq_true, if_true, if_false, ite_true, ite_false, Bool.and_true, Bool.true_and, Bool.false_and, Bool.and_false]))
theorem l_use {a b : Us} (ha : Sz 700 a.n ∧ Sz 700 a.p ∧ Sz 700 a.q) (hb : Sz 700 b.n ∧ Sz 700 b.p ∧ Sz 700 b.q) : Spec true Tryz.prog 12 [] [.agg ((utr false a).map .t), .agg ((utr false b).map .t)] (Ret (.one (tv (.bool (decide (a = b)))))) := by
 refine fn0 Tryz.func12 rfl Tryz.ntmps12 rfl ttok rfl fun N w c0 h0 => ?_
 obtain ⟨h01, h02, h03⟩ := ha; obtain ⟨h11, h12, h13⟩ := hb
 refine sq ?_; refine rl ?_; refine bx 0 ?_; refine bx 1 ?_; refine o1 ?_; refine nl ?_; refine sq ?_; refine rl ?_; refine o1 ?_; refine ld ?_; refine o1 ?_; refine ld ?_; refine o1 ?_; refine o1 ?_
 refine WL.split (t := 10) rfl (fun h1 => ?_) (fun h1 => ?_)
 ·refine o1 ?_; refine ld ?_; refine o1 ?_; refine ld ?_; (iterate 3 refine o1 ?_); refine WL.split (t := 17) rfl (fun h2 => ?_) (fun h2 => ?_)
  ·refine o1 ?_; refine ld ?_; refine o1 ?_; refine ld ?_
   refine ca (c_IsRat (a := .of a.n) (b := .of b.n) (ofl (by assumption)) (ofl (by assumption))) ok17 ⟨a1g rfl, a1g rfl, rfl⟩ (.one (tv (.bool (decide (Fr4.of a.n = Fr4.of b.n))))) ?_
   refine o1 ?_; refine o1 ?_; refine WL.split (t := 24) rfl (fun h3 => ?_) (fun h3 => ?_)
   ·refine o1 ?_; refine ld ?_; refine o1 ?_; refine ld ?_
    refine ca (c_IsRat (a := .of a.p) (b := .of b.p) (ofl (by assumption)) (ofl (by assumption))) ok17 ⟨a1g rfl, a1g rfl, rfl⟩ (.one (tv (.bool (decide (Fr4.of a.p = Fr4.of b.p))))) ?_
    refine o1 ?_; refine o1 ?_; refine WL.split (t := 31) rfl (fun h4 => ?_) (fun h4 => ?_)
    ·refine o1 ?_; refine ld ?_; refine o1 ?_; refine ld ?_
     refine ca (c_IsRat (a := .of a.q) (b := .of b.q) (ofl (by assumption)) (ofl (by assumption))) ok17 ⟨a1g rfl, a1g rfl, rfl⟩ (.one (tv (.bool (decide (Fr4.of a.q = Fr4.of b.q))))) ?_
     refine o1 ?_; refine o1 ?_; refine nl ?_; refine rt ?_; exact en (.inl rfl) rfl (pk1 (pkv _)) (by decide) (fun _ => trivial) (congrArg (fun z => FV.one (tv (.bool z))) (by simp_all [us_eq]))
    (iterate 5 refine no_ ?_); refine o1 ?_; refine o1 ?_; refine nl ?_; refine rt ?_
    exact en (.inl rfl) rfl (pk1 (pkv _)) (by decide) (fun _ => trivial) (congrArg (fun z => FV.one (tv (.bool z))) (by simp_all [us_eq]))
   (iterate 5 refine no_ ?_); refine o1 ?_; refine o1 ?_; (iterate 5 refine no_ ?_); refine o1 ?_; refine o1 ?_; refine nl ?_; refine rt ?_
   exact en (.inl rfl) rfl (pk1 (pkv _)) (by decide) (fun _ => trivial) (congrArg (fun z => FV.one (tv (.bool z))) (by simp_all [us_eq]))
  (iterate 5 refine no_ ?_); refine o1 ?_; refine o1 ?_; (iterate 5 refine no_ ?_); refine o1 ?_; refine o1 ?_; (iterate 5 refine no_ ?_); refine o1 ?_; refine o1 ?_; refine nl ?_; refine rt ?_
  exact en (.inl rfl) rfl (pk1 (pkv _)) (by decide) (fun _ => trivial) (congrArg (fun z => FV.one (tv (.bool z))) (by simp_all [us_eq]))
 (iterate 5 refine no_ ?_); refine o1 ?_; refine o1 ?_; (iterate 5 refine no_ ?_); refine o1 ?_; refine o1 ?_; (iterate 5 refine no_ ?_); refine o1 ?_; refine o1 ?_; (iterate 5 refine no_ ?_)
 refine o1 ?_; refine o1 ?_; refine nl ?_; refine rt ?_; exact en (.inl rfl) rfl (pk1 (pkv _)) (by decide) (fun _ => trivial) (congrArg (fun z => FV.one (tv (.bool z))) (by simp_all [us_eq]))
theorem l_use_eq {a b : Us} (ha : Sz 700 a.n ∧ Sz 700 a.p ∧ Sz 700 a.q) (h : a = b) : Spec true Tryz.prog 12 [] [.agg ((utr false a).map .t), .agg ((utr false b).map .t)] (Ret (.one (tv (.bool true)))) := by
 subst h
 have h9 := l_use ha ha
 rwa [decide_eq_true rfl] at h9
theorem l_refM {rs : List Rw} {us : List Us} (hrs : RwOk rs) (hus : UsOk us) (hl : rs.length ≤ 1073741822) (hlu : us.length ≤ 1073741822) : Spec false Tryz.prog 11 [] [.agg (([sRw false false rs, sUs false false us] : List Tr).map .t)] (Ret (.agg [.t (sRr true rs), .t (sUr true us)])) := by
 refine fn0 Tryz.func11 rfl Tryz.ntmps11 rfl ttok rfl fun N w c0 h0 => ?_
 refine sq ?_; refine rl ?_; refine bx 0 ?_; refine al 1 ?_; refine nl ?_; refine sq ?_; refine rl ?_; refine al 2 ?_; refine nl ?_; refine sq ?_; refine sq ?_
 refine WP.sub ((nro (j := 2) (key := 3) (e := 68) (z := 24) rfl rfl rfl (.sl (.id .nil))).trans (nro (j := 2) (key := 4) (e := 51) (z := 14) rfl rfl rfl (.id (.sl .nil)))) ?_; refine rl ?_
 refine o1 ?_; refine nl ?_; refine bl ?_
 refine lp (γ := Nat) (fun k => frL [(1, .one (.pt 0 0)), (2, .one (.pt 1 0)), (3, .one (.pt 2 0)), (4, .one (tv (.int .i64 ((k : Nat) : Int))))]) (fun k => [(⟨35, 0, [.t (sRw false false rs), .t (sUs false false us)]⟩ : Ob), ⟨42, 0, [tv (.slice none 0 0), tv (.slice none 0 0)]⟩, ⟨42, 0, [.sl 3 0 (k), .sl 4 0 0]⟩, ⟨68, 24, rcl (rs.take k)⟩, ⟨51, 14, ucl []⟩].map some) (fun k => k ≤ rs.length) (fun k => rs.length - k) 0 (Nat.zero_le _) (su0 h0 [0, 1, 2, 3, 4] _ _ (by decide) ⟨rfl, rfl, rfl, rfl, trivial⟩ ⟨oe rfl rfl, oe rfl rfl, oe rfl rfl, oet rfl, oet rfl, rfl⟩) fun k hk => ?_
 refine sq ?_; refine sq ?_; refine rl ?_; refine o1 ?_; refine o1 ?_; refine ld ?_; refine o1 ?_; refine o1 ?_; refine nl ?_; refine cdp rfl (fun h1 => ?_) (fun h1 => ?_)
 ·refine sk ?_; refine sq ?_; refine bl ?_; refine sq ?_; obtain ⟨s1, s2, s3, s4, s5, s6⟩ := hrs _ (nthR_mem (rs := rs) (k := k) (by omega))
  refine rl ?_; refine o1 ?_; refine ld ?_; refine o1 ?_; refine o1 ?_
  refine ldf ((rtr false) (nthR rs (k))) (flat_sub' (f := (rtr false)) (z := 24) (o := 0) (rtr_len false) (nthR_get (by omega)) (Nat.le_of_ble_eq_true rfl) rfl) ?_
  refine al 5 ?_; refine st ?_; refine nl ?_; refine rd [0, 1, 2, 5] (fun i => [24].contains i) mixed ?_
  refine dv 0 ?_; refine dld 1 ?_; refine dv 2 ?_; refine dld 3 ?_; refine dv 5 ?_; refine dld 6 ?_; refine dv 8 ?_; refine dld 9 ?_; refine dv 11 ?_; refine dld 12 ?_; refine dv 14 ?_
  refine dld 15 ?_; refine dv 17 ?_; refine dld 18 ?_; refine dca 4 rfl (c_RefRat (a := .of (nthR rs (k)).l) (ofl (by assumption))) ok28 ⟨a1g rfl, rfl⟩ (qF (.of (nthR rs (k)).l)) ?_
  refine dca 7 rfl (c_RefRat (a := .of (nthR rs (k)).m) (ofl (by assumption))) ok28 ⟨a1g rfl, rfl⟩ (qF (.of (nthR rs (k)).m)) ?_
  refine dca 10 rfl (c_RefRat (a := .of (nthR rs (k)).u) (ofl (by assumption))) ok28 ⟨a1g rfl, rfl⟩ (qF (.of (nthR rs (k)).u)) ?_
  refine dca 13 rfl (c_RefRat (a := .of (nthR rs (k)).t) (ofl (by assumption))) ok28 ⟨a1g rfl, rfl⟩ (qF (.of (nthR rs (k)).t)) ?_
  refine dca 16 rfl (c_RefRat (a := .of (nthR rs (k)).e) (ofl (by assumption))) ok28 ⟨a1g rfl, rfl⟩ (qF (.of (nthR rs (k)).e)) ?_
  refine dca 19 rfl (c_RefRat (a := .of (nthR rs (k)).c) (ofl (by assumption))) ok28 ⟨a1g rfl, rfl⟩ (qF (.of (nthR rs (k)).c)) ?_
  refine df 20 ?_; refine d_bs (key := 6) 21 (by kernel_rfl) rfl rfl ttok rfl ⟨rfl, rfl, rfl, rfl, trivial⟩ ?_
  refine d_appK (j := 7) (n := k) (l := rcl (rs.take k)) 22 rfl ttok rfl rfl rfl (.sl rfl (by rw [rcl_len, List.length_take, Nat.min_eq_left (by omega)])) (.sl rfl rfl rfl) rfl rfl (by omega) (by omega) rfl ⟨rfl, rfl, rfl, rfl, trivial⟩ rfl (by kernel_rfl) rfl ?_
  refine dv 23 ?_; refine dst 24 ?_; refine dz0 ?_; refine rl ?_; refine o1 ?_; refine o1 ?_; refine WL.cast (t := 14) (u' := .int .i64 ((k + 1 : Nat) : Int)) rfl (cint (by omega)) ?_
  refine o1 ?_; refine nl ?_
  exact ⟨k + 1, by omega, by omega, su0 h0 [0, 1, 2, 7, 4] _ _ (by decide) ⟨rfl, rfl, rfl, rfl, trivial⟩ ⟨oe rfl rfl, oe rfl rfl, oe rfl rfl, oet (congrArg (fun l : List AV => some (⟨68, 24, l⟩ : Ob)) ((rcl_snoc _ _).trans (congrArg rcl (nthR_take (by omega)).symm))), oet rfl, rfl⟩⟩
 refine ex ?_; refine sq ?_; refine sq ?_; refine rl ?_; refine o1 ?_; refine nl ?_; refine bl ?_
 refine lp (γ := Nat) (fun k => frL [(1, .one (.pt 0 0)), (2, .one (.pt 1 0)), (3, .one (.pt 2 0)), (6, .one (tv (.int .i64 ((k : Nat) : Int))))]) (fun k => [(⟨35, 0, [.t (sRw false false rs), .t (sUs false false us)]⟩ : Ob), ⟨42, 0, [tv (.slice none 0 0), tv (.slice none 0 0)]⟩, ⟨42, 0, [.sl 3 0 rs.length, .sl 4 0 (k)]⟩, ⟨68, 24, rcl rs⟩, ⟨51, 14, ucl (us.take k)⟩].map some) (fun k => k ≤ us.length) (fun k => us.length - k) 0 (Nat.zero_le _) (su0 h0 [0, 1, 2, 3, 4] _ _ (by decide) ⟨rfl, rfl, rfl, rfl, trivial⟩ ⟨oe rfl rfl, oe rfl rfl, oe rfl (congrArg (fun n => some (⟨42, 0, [.sl 3 0 n, .sl 4 0 0]⟩ : Ob)) (show k = rs.length by omega)), oet (congrArg (fun l : List Rw => some (⟨68, 24, (l.flatMap (rtr false)).map .t⟩ : Ob)) (show rs.take k = rs from List.take_of_length_le (by omega))), oet rfl, rfl⟩) fun k2 hk2 => ?_
 refine sq ?_; refine sq ?_; refine rl ?_; refine o1 ?_; refine o1 ?_; refine ld ?_; refine o1 ?_; refine o1 ?_; refine nl ?_; refine cdp rfl (fun h2 => ?_) (fun h2 => ?_)
 ·refine sk ?_; refine sq ?_; refine bl ?_; refine sq ?_; obtain ⟨s1, s2, s3⟩ := hus _ (nthU_mem (us := us) (k := k2) (by omega))
  refine rl ?_; refine o1 ?_; refine ld ?_; refine o1 ?_; refine o1 ?_
  refine ldf ((utr false) (nthU us (k2))) (flat_sub' (f := (utr false)) (z := 14) (o := 0) (utr_len false) (nthU_get (by omega)) (Nat.le_of_ble_eq_true rfl) rfl) ?_
  refine al 5 ?_; refine st ?_; refine nl ?_; refine rd [0, 1, 2, 5] (fun i => [19].contains i) mixed ?_
  refine dv 0 ?_; refine dld 1 ?_; refine dv 2 ?_; refine dld 3 ?_; refine dv 4 ?_; refine dld 5 ?_; refine dv 6 ?_; refine dld 7 ?_; refine dv 9 ?_; refine dld 10 ?_; refine dv 12 ?_
  refine dld 13 ?_; refine dca 8 rfl (c_RefRat (a := .of (nthU us (k2)).n) (ofl (by assumption))) ok28 ⟨a1g rfl, rfl⟩ (qF (.of (nthU us (k2)).n)) ?_
  refine dca 11 rfl (c_RefRat (a := .of (nthU us (k2)).p) (ofl (by assumption))) ok28 ⟨a1g rfl, rfl⟩ (qF (.of (nthU us (k2)).p)) ?_
  refine dca 14 rfl (c_RefRat (a := .of (nthU us (k2)).q) (ofl (by assumption))) ok28 ⟨a1g rfl, rfl⟩ (qF (.of (nthU us (k2)).q)) ?_
  refine df 15 ?_; refine d_bs (key := 6) 16 (by kernel_rfl) rfl rfl ttok rfl ⟨rfl, rfl, rfl, rfl, trivial⟩ ?_
  refine d_appK (j := 7) (n := k2) (l := ucl (us.take k2)) 17 rfl ttok rfl rfl rfl (.sl rfl (by rw [ucl_len, List.length_take, Nat.min_eq_left (by omega)])) (.sl rfl rfl rfl) rfl rfl (by omega) (by omega) rfl ⟨rfl, rfl, rfl, rfl, trivial⟩ rfl (by kernel_rfl) rfl ?_
  refine dv 18 ?_; refine dst 19 ?_; refine dz0 ?_; refine rl ?_; refine o1 ?_; refine o1 ?_; refine WL.cast (t := 50) (u' := .int .i64 ((k2 + 1 : Nat) : Int)) rfl (cint (by omega)) ?_
  refine o1 ?_; refine nl ?_
  exact ⟨k2 + 1, by omega, by omega, su0 h0 [0, 1, 2, 3, 7] _ _ (by decide) ⟨rfl, rfl, rfl, rfl, trivial⟩ ⟨oe rfl rfl, oe rfl rfl, oe rfl rfl, oet rfl, oet (congrArg (fun l : List AV => some (⟨51, 14, l⟩ : Ob)) ((ucl_snoc _ _).trans (congrArg ucl (nthU_take (by omega)).symm))), rfl⟩⟩
 refine ex ?_; refine sq ?_; refine rl ?_; refine ld ?_; refine st ?_; refine nl ?_; refine rt ?_; have hk9 : k2 = us.length := by omega
 exact en (.inl rfl) rfl (pk1 (.agg (.cons (.sl (trs := rs.flatMap (rtr false)) rfl rfl (take_self _ _ (rflat_len false _)) (rflat_len false _)) (.cons (.sl (trs := (us.take k2).flatMap (utr false)) rfl rfl (take_self _ _ (by rw [uflat_len, List.length_take, Nat.min_eq_left (by omega)])) (by rw [uflat_len, List.length_take, Nat.min_eq_left (by omega)])) .nil)))) (by decide) (fun h => by cases h) (by rw [hk9, List.take_of_length_le (Nat.le_refl _)]; rfl)
theorem l_year {n m : Int} (h1 : -9223372036854775808 ≤ n) (h2 : n ≤ 9223372036854775807) (h3 : -9223372036854775808 ≤ m) (h4 : m ≤ 9223372036854775807) : Spec false Tryz.prog 31 [] [.one (tv (.int .i64 n)), .one (tv (.int .i64 m))] (Ret (.agg (((Fr4.of (Rat.divInt n 1)).tr true ++ (Fr4.of (Rat.divInt m 1)).tr true).map .t))) := by
 refine fn0 Tryz.func31 rfl Tryz.ntmps31 rfl ttok rfl fun N w c0 h0 => ?_
 refine sq ?_; refine rl ?_; refine al 0 ?_; refine nl ?_; refine sq ?_; refine rl ?_; refine o1 ?_
 refine cak 1 (f_By (n := n) (d := 1) (by omega) (by omega) (by omega) (by omega)) ok32 ⟨a1 rfl, a1 rfl, rfl⟩ ?_
 refine o1 ?_; refine cak 3 (f_By (n := m) (d := 1) (by omega) (by omega) (by omega) (by omega)) ok32 ⟨a1 rfl, a1 rfl, rfl⟩ ?_
 refine o1 ?_; refine st ?_; refine nl ?_; refine rt ?_
 exact en (.inl rfl) rfl (pk1 (.agg (.cons (.id rfl) (.cons (.sl (trs := u32T (dg 4294967296 (Rat.divInt n 1).num.natAbs)) rfl rfl (tk_u32 _) (ln_u32 _)) (.cons (.id rfl) (.cons (.sl (trs := u32T (dg 4294967296 (Rat.divInt n 1).den)) rfl rfl (tk_u32 _) (ln_u32 _)) (.cons (.id rfl) (.cons (.sl (trs := u32T (dg 4294967296 (Rat.divInt m 1).num.natAbs)) rfl rfl (tk_u32 _) (ln_u32 _)) (.cons (.id rfl) (.cons (.sl (trs := u32T (dg 4294967296 (Rat.divInt m 1).den)) rfl rfl (tk_u32 _) (ln_u32 _)) (.nil))))))))))) (by decide) (fun h => by cases h) rfl
end Go.Proofs.YtofllcodkcjajaaGreat
