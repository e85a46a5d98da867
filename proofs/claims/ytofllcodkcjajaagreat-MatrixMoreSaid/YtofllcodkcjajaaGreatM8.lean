/- Part 8 of a proof: Rat3 to Fi. -/
import Derived.Test.YtofllcodkcjajaaGreatM7
import Derived.Test.YtofllcodkcjajaaGreatM1
import Derived.KernelRfl
import Derived.Test.YtofllcodkcjajaaGreatProg
import Derived.Test.YtofllcodkcjajaaGreatM4
set_option maxRecDepth 100000
set_option linter.unusedVariables false
set_option linter.unusedSimpArgs false
namespace Go.Proofs.YtofllcodkcjajaaGreat
open Go Go.RowKit
theorem Hld.up {s B g k : Nat} {w W0 W : World} (h : Hld s w B g k W0 W) : B ≤ W.heap.size := h.2.2.1
theorem Hld.reset {s B g k : Nat} {w W0 W : World} (h : Hld s w B g k W0 W) {p : Addr} (hp : s ≤ p.block) (v : Value) : Hld s w (W.setCell p v).heap.size g k (W.setCell p v) (W.setCell p v) :=
 ((h.rebase (B' := s) (Nat.le_trans h.2.2.2.2.1 h.up) (Nat.le_refl _)).setCell (.inr hp) v).rebase (Nat.le_refl _) (by have h1 := h.up; have h2 := h.2.2.2.2.1; simp; omega)
theorem set_two {W : World} {t : Nat} {u0 u1 v0 v1 : Value} (h0 : W.cell? ⟨t, 0, none⟩ = some u0) (h1 : W.cell? ⟨t, 1, none⟩ = some u1) :
  ((W.setCell ⟨t, 0, none⟩ v0).setCell ⟨t, 1, none⟩ v1).cell? ⟨t, 0, none⟩ = some v0 ∧ ((W.setCell ⟨t, 0, none⟩ v0).setCell ⟨t, 1, none⟩ v1).cell? ⟨t, 1, none⟩ = some v1 ∧
   ∀ b o, b ≠ t → ((W.setCell ⟨t, 0, none⟩ v0).setCell ⟨t, 1, none⟩ v1).cell? ⟨b, o, none⟩ = W.cell? ⟨b, o, none⟩ := by
 have n1 : (⟨t, 1, none⟩ : Addr) ≠ ⟨t, 0, none⟩ := by intro e; injection e with _ e2; omega
 refine ⟨?_, ?_, fun b o hb => ?_⟩
 ·rw [World.cell?_setCell_other _ _ _ _ n1]
  exact World.cell?_setCell_same _ _ _ h0
 ·refine World.cell?_setCell_same _ _ _ (u := u1) ?_
  rw [World.cell?_setCell_other _ _ _ _ n1.symm]
  exact h1
 rw [World.cell?_setCell_far _ _ _ _ (show t ≠ b from fun e => hb e.symm), World.cell?_setCell_far _ _ _ _ (show t ≠ b from fun e => hb e.symm)]
theorem zin_nat (k : Nat) : zin false (dg 4294967296 k) = (k : Int) := by
 have h := zin_dg (k : Int)
 rwa [sgz_den, Int.natAbs_natCast] at h
theorem fdiv_gcd {N D : Int} (h0 : 0 < D) : (Rat.divInt N D).num = N.fdiv (Int.gcd N D) ∧ ((Rat.divInt N D).den : Int) = D.fdiv (Int.gcd N D) := by
 have hg : (0 : Int) ≤ (Int.gcd N D : Int) := by omega
 rw [Int.fdiv_eq_ediv_of_nonneg _ hg, Int.fdiv_eq_ediv_of_nonneg _ hg, Rat.num_divInt, Rat.den_divInt, Int.gcd_comm D N, Int.sign_eq_one_of_pos h0, if_neg (by omega), Int.one_mul]
 refine ⟨rfl, ?_⟩
 rw [Int.natCast_ediv, Int.natAbs_of_nonneg (by omega)]
theorem fdiv_gcd_neg {N D : Int} (h0 : D < 0) : (Rat.divInt N D).num = N.fdiv (-(Int.gcd N D : Int)) ∧ ((Rat.divInt N D).den : Int) = D.fdiv (-(Int.gcd N D : Int)) := by
 have hg : (0 : Int) ≤ (Int.gcd N D : Int) := by omega
 have h := fdiv_gcd (N := -N) (D := -D) (by omega)
 rw [Rat.neg_divInt_neg] at h
 have e : Int.gcd (-N) (-D) = Int.gcd N D := by rw [Int.gcd_neg, Int.neg_gcd]
 rw [e] at h
 rw [h.1, h.2]
 refine ⟨?_, ?_⟩
 ·rw [← Int.neg_fdiv_neg, Int.neg_neg]
 rw [← Int.neg_fdiv_neg, Int.neg_neg]
set_option maxHeartbeats 2000000 in
theorem rat_reduced_pos (na nb : Bool) (A B : Option Addr) (n m c d : Nat) (xs ys : List Nat) (w : World) (ha : U32 w w.heap.size A n c xs) (hb : U32 w w.heap.size B m d ys) (hn : n ≤ 549755813888) (hm : m ≤ 549755813888) (h0 : 0 < zin nb ys) :
  Calls Tryz.prog 115 #[.agg #[.bool na, .slice A n c], .agg #[.bool nb, .slice B m d]] w (OutQ (Rat.divInt (zin na xs) (zin nb ys)) w) := by
 obtain ⟨m1', m2'⟩ := fdiv_gcd (N := zin na xs) h0
 have M1 := Lib.hid m1'
 have M2 := Lib.hid m2'
 have HS := Lib.hid (Int.sign_eq_one_of_pos h0)
 clear m1' m2'
 go_enter Tryz.func115, Tryz.ntmps115
 go_upto_region 1 with fail
 refine at_wp (fun W0 => Hld (w.heap.size) w (w.heap.size + 2) (w.heap.size + 2) 4 W0 W0 ∧ W0.cell? ⟨w.heap.size, 0, none⟩ = some (.bool na) ∧ W0.cell? ⟨w.heap.size, 1, none⟩ = some (.slice A n c) ∧ W0.cell? ⟨w.heap.size + 1, 0, none⟩ = some (.bool nb) ∧ W0.cell? ⟨w.heap.size + 1, 1, none⟩ = some (.slice B m d)) ?_ ?_
 ·refine ⟨⟨by (repeat (first | exact Below.refl _ _ | assumption | refine Below.drew ?_ | refine Below.setCell ?_ (by first | exact Nat.le_refl _ | (simp; done) | (simp; omega) | omega) _ | refine Below.alloc ?_ (by first | exact Nat.le_refl _ | exact Below.size (by assumption) | (simp; done) | (simp; omega) | omega) _)), by simp, by simp, by omega, by omega, fun _ _ _ _ => rfl, fun o ho => ?_⟩, ?_, ?_, ?_, ?_⟩
  ·match o, ho with
   | 0, _ => constructor <;> go_simp
   | 1, _ => constructor <;> go_simp
   | 2, _ => constructor <;> go_simp
   | 3, _ => constructor <;> go_simp
  ·go_simp
  ·go_simp
  ·go_simp
  go_simp
 rintro W0 ⟨hH0, p0, p1, p2, p3⟩
 go_wp2_with fail
 refine (big_Gcd na nb A B n m c d xs ys _ (ha.now hH0.bel) (hb.now hH0.bel) hn hm).mono ?_
 rintro e w1 ⟨A1, n1, c1, rfl, h1, hb1⟩
 rw [sgz_den]
 rw [Int.natAbs_natCast] at h1
 have hH1 := hH0.call hb1
 have h1 := h1.base_le hH0.base
 have z1 := hH1.base
 have i0 : w.heap.size < w1.heap.size := by omega
 have i1 : w.heap.size + 1 < w1.heap.size := by omega
 go_upto_region 2 with fail
 refine at_wp (fun W0 => Hld w.heap.size w W0.heap.size (w.heap.size + 2) 4 W0 W0 ∧ (W0.cell? ⟨w.heap.size, 0, none⟩ = some (.bool na) ∧ W0.cell? ⟨w.heap.size, 1, none⟩ = some (.slice A n c) ∧ W0.cell? ⟨w.heap.size + 1, 0, none⟩ = some (.bool nb) ∧ W0.cell? ⟨w.heap.size + 1, 1, none⟩ = some (.slice B m d)) ∧ (w.heap.size + 2 < w1.heap.size ∧ w1.heap.size < W0.heap.size) ∧ (W0.cell? ⟨w1.heap.size, 0, none⟩ = some (.bool false) ∧ W0.cell? ⟨w1.heap.size, 1, none⟩ = some (.slice A1 n1 c1)) ∧ (W0.frozen? ⟨w1.heap.size, 0, none⟩ = false ∧ W0.frozen? ⟨w1.heap.size, 1, none⟩ = false) ∧ Own 109 W0 (w.heap.size + 3) A1 n1 c1 (dg 4294967296 (Int.gcd (zin na xs) (zin nb ys)))) ?_ ?_
 ·refine ⟨(hH1.alloc _).rebase (Nat.le_refl _) (by simp; omega), ⟨?_, ?_, ?_, ?_⟩, ⟨by omega, by simp⟩, ⟨?_, ?_⟩, ⟨?_, ?_⟩, h1.over (below_new _ _)⟩ <;> go_simp
 rintro W1 ⟨hH2, ⟨p4, p5, p6, p7⟩, ⟨r1, r2⟩, ⟨p8, p9⟩, ⟨f8, f9⟩, h2⟩
 clear h1 hH1 hb1 hH0 p0 p1 p2 p3 i0 i1
 have ne5 : w1.heap.size ≠ w.heap.size + 2 := by omega
 have j0 : w.heap.size < W1.heap.size := by omega
 have j1 : w.heap.size + 1 < W1.heap.size := by omega
 generalize w1.heap.size = t5 at *
 go_wp2_with fail
 refine (big_Sign nb B m d ys _ (hb.now hH2.bel)).mono ?_
 rintro e w2 ⟨rfl, hb2⟩
 rw [HS.out]
 have hH3 := hH2.call hb2
 have h3 := h2.over hb2
 have r3 : t5 < w2.heap.size := Nat.lt_of_lt_of_le r2 hb2.size
 have hng : n1 ≤ 549755813888 := by
  have hle : Int.gcd (zin na xs) (zin nb ys) ≤ (zin nb ys).natAbs := Nat.gcd_le_right _ (by omega)
  have hlen := dg_length_mono (B := 4294967296) (by omega) hle
  have hz1 := zin_len hb.lim (neg := nb)
  have hl1 := h3.len
  have hl2 := hb.len
  omega
 have hg0 : zin false (dg 4294967296 (Int.gcd (zin na xs) (zin nb ys))) ≠ 0 := by
  rw [zin_nat]
  have : 0 < Int.gcd (zin na xs) (zin nb ys) := Nat.gcd_pos_of_pos_right _ (by omega)
  omega
 go_wp2_with fail
 refine (big_DivMod na false A A1 n n1 c c1 xs _ _ (ha.now hH3.bel) h3.u32 hn hng hg0).mono ?_
 rintro e w3 ⟨A2, n2, c2, A3, n3, c3, rfl, h4, h5, hb3⟩
 rw [zin_nat, ← M1.out] at h4
 rw [zin_nat, ← M1.out]
 have hH4 := hH3.call hb3
 have h4 := h4.base_le hH3.base
 have h6 := h3.over hb3
 have r4 : t5 < w3.heap.size := Nat.lt_of_lt_of_le r3 hb3.size
 have z3 := hH4.base
 have i0 : w.heap.size < w3.heap.size := by omega
 have i1 : w.heap.size + 1 < w3.heap.size := by omega
 clear h5
 go_upto_region 5 with fail
 refine at_wp (fun W0 => Hld w.heap.size w W0.heap.size (w.heap.size + 2) 4 W0 W0 ∧ (W0.cell? ⟨w.heap.size + 1, 0, none⟩ = some (.bool nb) ∧ W0.cell? ⟨w.heap.size + 1, 1, none⟩ = some (.slice B m d)) ∧ (t5 < W0.heap.size ∧ w.heap.size + 2 < w3.heap.size ∧ w3.heap.size < W0.heap.size) ∧ (W0.cell? ⟨t5, 0, none⟩ = some (.bool false) ∧ W0.cell? ⟨t5, 1, none⟩ = some (.slice A1 n1 c1)) ∧
  (W0.cell? ⟨w3.heap.size, 0, none⟩ = some (.bool (sgz (Rat.divInt (zin na xs) (zin nb ys)).num)) ∧ W0.cell? ⟨w3.heap.size, 1, none⟩ = some (.slice A2 n2 c2)) ∧
  Own 109 W0 (w.heap.size + 3) A1 n1 c1 (dg 4294967296 (Int.gcd (zin na xs) (zin nb ys))) ∧ Own 109 W0 (w.heap.size + 3) A2 n2 c2 (dg 4294967296 (Rat.divInt (zin na xs) (zin nb ys)).num.natAbs)) ?_ ?_
 ·refine ⟨((hH4.alloc _).alloc _).rebase (Nat.le_refl _) (by simp; omega), ⟨?_, ?_⟩, ⟨by simp; omega, by omega, by simp; omega⟩, ⟨?_, ?_⟩, ⟨?_, ?_⟩, (h6.over (below_new _ _)).over (below_new _ _), (h4.over (below_new _ _)).over (below_new _ _)⟩ <;> go_simp
 rintro W2 ⟨hH5, ⟨p0, p1⟩, ⟨r5, r6, r7⟩, ⟨p2, p3⟩, ⟨p10, p11⟩, h7, h8⟩
 clear h1 h2 h3 h4 h6 hH2 hH3 hH4 hb2 hb3 p4 p5 p6 p7 p8 p9 f8 f9 i0 i1
 have ne6 : w3.heap.size ≠ w.heap.size + 2 := by omega
 have j2 : w.heap.size + 1 < W2.heap.size := by omega
 generalize w3.heap.size = t6 at *
 go_wp2_with fail
 refine (big_DivMod nb false B A1 m n1 d c1 ys _ _ (hb.now hH5.bel) h7.u32 hm hng hg0).mono ?_
 rintro e w4 ⟨A4, n4, c4, A5, n5, c5, rfl, h9, h10, hb4⟩
 rw [zin_nat, ← M2.out] at h9
 rw [zin_nat, ← M2.out, sgz_den]
 rw [Int.natAbs_natCast] at h9
 have hH6 := hH5.call hb4
 have hap := Apart.of h8 h9 (Nat.le_refl _)
 have h9 := h9.base_le (base' := w.heap.size + 3) hH5.base
 have h11 := h8.over hb4
 have r8 : t6 < w4.heap.size := Nat.lt_of_lt_of_le r7 hb4.size
 have z4 := hH6.base
 clear h10
 go_upto_region 6 with fail
 refine at_wp (fun W0 => Hld w.heap.size w W0.heap.size (w.heap.size + 2) 4 W0 W0 ∧ (t6 < W0.heap.size ∧ w.heap.size + 2 < w4.heap.size ∧ w4.heap.size < W0.heap.size) ∧
  (W0.cell? ⟨t6, 0, none⟩ = some (.bool (sgz (Rat.divInt (zin na xs) (zin nb ys)).num)) ∧ W0.cell? ⟨t6, 1, none⟩ = some (.slice A2 n2 c2)) ∧
  (W0.cell? ⟨w4.heap.size, 0, none⟩ = some (.bool false) ∧ W0.cell? ⟨w4.heap.size, 1, none⟩ = some (.slice A4 n4 c4)) ∧
  Own 109 W0 (w.heap.size + 3) A2 n2 c2 (dg 4294967296 (Rat.divInt (zin na xs) (zin nb ys)).num.natAbs) ∧ Own 109 W0 (w.heap.size + 3) A4 n4 c4 (dg 4294967296 (Rat.divInt (zin na xs) (zin nb ys)).den)) ?_ ?_
 ·refine ⟨((hH6.alloc _).alloc _).rebase (Nat.le_refl _) (by simp; omega), ⟨by simp; omega, by omega, by simp; omega⟩, ⟨?_, ?_⟩, ⟨?_, ?_⟩, (h11.over (below_new _ _)).over (below_new _ _), (h9.over (below_new _ _)).over (below_new _ _)⟩ <;> go_simp
 rintro W3 ⟨hH7, ⟨s5, s6, s7⟩, ⟨p0, p1⟩, ⟨p2, p3⟩, g1, g2⟩
 obtain ⟨v0, hv0⟩ := hH7.res 0 (by omega)
 obtain ⟨v1, hv1⟩ := hH7.res 1 (by omega)
 obtain ⟨v2, hv2⟩ := hH7.res 2 (by omega)
 obtain ⟨v3, hv3⟩ := hH7.res 3 (by omega)
 have hf0 := hH7.fro 0 (by omega)
 have hf1 := hH7.fro 1 (by omega)
 have hf2 := hH7.fro 2 (by omega)
 have hf3 := hH7.fro 3 (by omega)
 go_wp2_with fail
 refine bodyPost_ret (v := .agg #[.bool (sgz (Rat.divInt (zin na xs) (zin nb ys)).num), .slice A2 n2 c2, .bool false, .slice A4 n4 c4]) (by simp [results, Tryz.results115, go_sem, World.cell?_setCell_other, hv0, hv1, hv2, hv3]) rfl ⟨A2, n2, c2, A4, n4, c4, rfl, ?_, ?_, hap, ?_⟩
 ·exact Own.base_le ((((g1.setLow (by simp) _).setLow (by simp) _).setLow (by simp) _).setLow (by simp) _) (by omega)
 ·exact Own.base_le ((((g2.setLow (by simp) _).setLow (by simp) _).setLow (by simp) _).setLow (by simp) _) (by omega)
 (have hb := hH7.bel; (repeat (first | exact Below.refl _ _ | assumption | refine Below.drew ?_ | refine Below.setCell ?_ (by first | exact Nat.le_refl _ | (simp; done) | (simp; omega) | omega) _ | refine Below.alloc ?_ (by first | exact Nat.le_refl _ | exact Below.size (by assumption) | (simp; done) | (simp; omega) | omega) _)))
set_option maxHeartbeats 2000000 in
theorem rat_reduced_neg (na nb : Bool) (A B : Option Addr) (n m c d : Nat) (xs ys : List Nat) (w : World) (ha : U32 w w.heap.size A n c xs) (hb : U32 w w.heap.size B m d ys) (hn : n ≤ 549755813888) (hm : m ≤ 549755813888) (h0 : zin nb ys < 0) :
  Calls Tryz.prog 115 #[.agg #[.bool na, .slice A n c], .agg #[.bool nb, .slice B m d]] w (OutQ (Rat.divInt (zin na xs) (zin nb ys)) w) := by
 obtain ⟨m1', m2'⟩ := fdiv_gcd_neg (N := zin na xs) h0
 have M1 := Lib.hid m1'
 have M2 := Lib.hid m2'
 have HS := Lib.hid (Int.sign_eq_neg_one_of_neg h0)
 clear m1' m2'
 go_enter Tryz.func115, Tryz.ntmps115
 go_upto_region 1 with fail
 refine at_wp (fun W0 => Hld (w.heap.size) w (w.heap.size + 2) (w.heap.size + 2) 4 W0 W0 ∧ W0.cell? ⟨w.heap.size, 0, none⟩ = some (.bool na) ∧ W0.cell? ⟨w.heap.size, 1, none⟩ = some (.slice A n c) ∧ W0.cell? ⟨w.heap.size + 1, 0, none⟩ = some (.bool nb) ∧ W0.cell? ⟨w.heap.size + 1, 1, none⟩ = some (.slice B m d)) ?_ ?_
 ·refine ⟨⟨by (repeat (first | exact Below.refl _ _ | assumption | refine Below.drew ?_ | refine Below.setCell ?_ (by first | exact Nat.le_refl _ | (simp; done) | (simp; omega) | omega) _ | refine Below.alloc ?_ (by first | exact Nat.le_refl _ | exact Below.size (by assumption) | (simp; done) | (simp; omega) | omega) _)), by simp, by simp, by omega, by omega, fun _ _ _ _ => rfl, fun o ho => ?_⟩, ?_, ?_, ?_, ?_⟩
  ·match o, ho with
   | 0, _ => constructor <;> go_simp
   | 1, _ => constructor <;> go_simp
   | 2, _ => constructor <;> go_simp
   | 3, _ => constructor <;> go_simp
  ·go_simp
  ·go_simp
  ·go_simp
  go_simp
 rintro W0 ⟨hH0, p0, p1, p2, p3⟩
 go_wp2_with fail
 refine (big_Gcd na nb A B n m c d xs ys _ (ha.now hH0.bel) (hb.now hH0.bel) hn hm).mono ?_
 rintro e w1 ⟨A1, n1, c1, rfl, h1, hb1⟩
 rw [sgz_den]
 rw [Int.natAbs_natCast] at h1
 have hH1 := hH0.call hb1
 have h1 := h1.base_le hH0.base
 have z1 := hH1.base
 have i0 : w.heap.size < w1.heap.size := by omega
 have i1 : w.heap.size + 1 < w1.heap.size := by omega
 go_upto_region 2 with fail
 refine at_wp (fun W0 => Hld w.heap.size w W0.heap.size (w.heap.size + 2) 4 W0 W0 ∧ (W0.cell? ⟨w.heap.size, 0, none⟩ = some (.bool na) ∧ W0.cell? ⟨w.heap.size, 1, none⟩ = some (.slice A n c) ∧ W0.cell? ⟨w.heap.size + 1, 0, none⟩ = some (.bool nb) ∧ W0.cell? ⟨w.heap.size + 1, 1, none⟩ = some (.slice B m d)) ∧ (w.heap.size + 2 < w1.heap.size ∧ w1.heap.size < W0.heap.size) ∧ (W0.cell? ⟨w1.heap.size, 0, none⟩ = some (.bool false) ∧ W0.cell? ⟨w1.heap.size, 1, none⟩ = some (.slice A1 n1 c1)) ∧ (W0.frozen? ⟨w1.heap.size, 0, none⟩ = false ∧ W0.frozen? ⟨w1.heap.size, 1, none⟩ = false) ∧ Own 109 W0 (w.heap.size + 3) A1 n1 c1 (dg 4294967296 (Int.gcd (zin na xs) (zin nb ys)))) ?_ ?_
 ·refine ⟨(hH1.alloc _).rebase (Nat.le_refl _) (by simp; omega), ⟨?_, ?_, ?_, ?_⟩, ⟨by omega, by simp⟩, ⟨?_, ?_⟩, ⟨?_, ?_⟩, h1.over (below_new _ _)⟩ <;> go_simp
 rintro W1 ⟨hH2, ⟨p4, p5, p6, p7⟩, ⟨r1, r2⟩, ⟨p8, p9⟩, ⟨f8, f9⟩, h2⟩
 clear h1 hH1 hb1 hH0 p0 p1 p2 p3 i0 i1
 have ne5 : w1.heap.size ≠ w.heap.size + 2 := by omega
 have j0 : w.heap.size < W1.heap.size := by omega
 have j1 : w.heap.size + 1 < W1.heap.size := by omega
 generalize w1.heap.size = t5 at *
 go_wp2_with fail
 refine (big_Sign nb B m d ys _ (hb.now hH2.bel)).mono ?_
 rintro e w2 ⟨rfl, hb2⟩
 rw [HS.out]
 have hH3 := hH2.call hb2
 have h3 := h2.over hb2
 have r3 : t5 < w2.heap.size := Nat.lt_of_lt_of_le r2 hb2.size
 have hng : n1 ≤ 549755813888 := by
  have hle : Int.gcd (zin na xs) (zin nb ys) ≤ (zin nb ys).natAbs := Nat.gcd_le_right _ (by omega)
  have hlen := dg_length_mono (B := 4294967296) (by omega) hle
  have hz1 := zin_len hb.lim (neg := nb)
  have hl1 := h3.len
  have hl2 := hb.len
  omega
 have r9 : t5 ≠ w.heap.size + 2 := ne5
 go_wp2_with fail
 refine (big_Neg false A1 n1 c1 _ _ h3.u32 (by omega)).mono ?_
 rintro e wN ⟨AN, nN, cN, rfl, hN, hbN⟩
 rw [zin_nat] at hN
 rw [zin_nat]
 have hHN := hH3.call hbN
 have rN : t5 < wN.heap.size := Nat.lt_of_lt_of_le r3 hbN.size
 have fN0 : wN.frozen? ⟨t5, 0, none⟩ = false := ((hbN.frozen (p := ⟨t5, 0, none⟩) r3).trans (hb2.frozen (p := ⟨t5, 0, none⟩) r2)).trans f8
 have fN1 : wN.frozen? ⟨t5, 1, none⟩ = false := ((hbN.frozen (p := ⟨t5, 1, none⟩) r3).trans (hb2.frozen (p := ⟨t5, 1, none⟩) r2)).trans f9
 have cN0 : wN.cell? ⟨t5, 0, none⟩ = some (.bool false) := ((hbN.cell (p := ⟨t5, 0, none⟩) r3).trans (hb2.cell (p := ⟨t5, 0, none⟩) r2)).trans p8
 have cN1 : wN.cell? ⟨t5, 1, none⟩ = some (.slice A1 n1 c1) := ((hbN.cell (p := ⟨t5, 1, none⟩) r3).trans (hb2.cell (p := ⟨t5, 1, none⟩) r2)).trans p9
 have xN : Own 109 wN (t5 + 1) AN nN cN (dg 4294967296 (-(Int.gcd (zin na xs) (zin nb ys) : Int)).natAbs) := hN.base_le r3
 obtain ⟨k0, k1, ko⟩ := set_two (v0 := .bool (sgz (-(Int.gcd (zin na xs) (zin nb ys) : Int)))) (v1 := .slice AN nN cN) cN0 cN1
 have KO := Lib.hid ko
 have K0 := Lib.hid k0
 have K1 := Lib.hid k1
 clear ko k0 k1
 go_upto_region 4 with fail
 refine at_wp (fun W0 => Hld w.heap.size w W0.heap.size (w.heap.size + 2) 4 W0 W0 ∧ (W0.cell? ⟨w.heap.size, 0, none⟩ = some (.bool na) ∧ W0.cell? ⟨w.heap.size, 1, none⟩ = some (.slice A n c) ∧ W0.cell? ⟨w.heap.size + 1, 0, none⟩ = some (.bool nb) ∧ W0.cell? ⟨w.heap.size + 1, 1, none⟩ = some (.slice B m d)) ∧ (t5 < W0.heap.size) ∧ (W0.cell? ⟨t5, 0, none⟩ = some (.bool (sgz (-(Int.gcd (zin na xs) (zin nb ys) : Int)))) ∧ W0.cell? ⟨t5, 1, none⟩ = some (.slice AN nN cN)) ∧ Own 109 W0 (w.heap.size + 3) AN nN cN (dg 4294967296 (-(Int.gcd (zin na xs) (zin nb ys) : Int)).natAbs)) ?_ ?_
 ·refine ⟨(hHN.reset (p := ⟨t5, 0, none⟩) (by show w.heap.size ≤ t5; omega) _).reset (p := ⟨t5, 1, none⟩) (by show w.heap.size ≤ t5; omega) _, ⟨?_, ?_, ?_, ?_⟩, by simpa using rN, ⟨?_, ?_⟩, Own.base_le ((xN.setLow (by simp) _).setLow (by simp) _) (by omega)⟩
  ·rw [KO.out _ _ (by omega)]; go_simp
  ·rw [KO.out _ _ (by omega)]; go_simp
  ·rw [KO.out _ _ (by omega)]; go_simp
  ·rw [KO.out _ _ (by omega)]; go_simp
  ·exact K0.out
  exact K1.out
 clear KO K0 K1 xN cN0 cN1 fN0 fN1 rN hHN hN hbN h2 h3 hH2 hH3 hb2 p4 p5 p6 p7 p8 p9 f8 f9 r1 r2 r3 j0 j1 h1
 rintro W1' ⟨hH3, ⟨p4, p5, p6, p7⟩, r3, ⟨p8, p9⟩, h3⟩
 have j0 : w.heap.size < W1'.heap.size := by omega
 have j1 : w.heap.size + 1 < W1'.heap.size := by omega
 have hng : nN ≤ 549755813888 := by
  have hle : (-(Int.gcd (zin na xs) (zin nb ys) : Int)).natAbs ≤ (zin nb ys).natAbs := by
   rw [Int.natAbs_neg, Int.natAbs_natCast]
   exact Nat.gcd_le_right _ (by omega)
  have hlen := dg_length_mono (B := 4294967296) (by omega) hle
  have hz1 := zin_len hb.lim (neg := nb)
  have hl1 := h3.len
  have hl2 := hb.len
  omega
 have hg0 : zin (sgz (-(Int.gcd (zin na xs) (zin nb ys) : Int))) (dg 4294967296 (-(Int.gcd (zin na xs) (zin nb ys) : Int)).natAbs) ≠ 0 := by
  rw [zin_dg]
  have : 0 < Int.gcd (zin na xs) (zin nb ys) := Nat.gcd_pos_of_pos_right _ (by omega)
  omega
 go_wp2_with fail
 refine (big_DivMod na (sgz (-(Int.gcd (zin na xs) (zin nb ys) : Int))) A AN n nN c cN xs _ _ (ha.now hH3.bel) h3.u32 hn hng hg0).mono ?_
 rintro e w3 ⟨A2, n2, c2, A3, n3, c3, rfl, h4, h5, hb3⟩
 rw [zin_dg, ← M1.out] at h4
 rw [zin_dg, ← M1.out]
 have hH4 := hH3.call hb3
 have h4 := h4.base_le hH3.base
 have h6 := h3.over hb3
 have r4 : t5 < w3.heap.size := Nat.lt_of_lt_of_le r3 hb3.size
 have z3 := hH4.base
 have i0 : w.heap.size < w3.heap.size := by omega
 have i1 : w.heap.size + 1 < w3.heap.size := by omega
 clear h5
 go_upto_region 5 with fail
 refine at_wp (fun W0 => Hld w.heap.size w W0.heap.size (w.heap.size + 2) 4 W0 W0 ∧ (W0.cell? ⟨w.heap.size + 1, 0, none⟩ = some (.bool nb) ∧ W0.cell? ⟨w.heap.size + 1, 1, none⟩ = some (.slice B m d)) ∧ (t5 < W0.heap.size ∧ w.heap.size + 2 < w3.heap.size ∧ w3.heap.size < W0.heap.size) ∧ (W0.cell? ⟨t5, 0, none⟩ = some (.bool (sgz (-(Int.gcd (zin na xs) (zin nb ys) : Int)))) ∧ W0.cell? ⟨t5, 1, none⟩ = some (.slice AN nN cN)) ∧
  (W0.cell? ⟨w3.heap.size, 0, none⟩ = some (.bool (sgz (Rat.divInt (zin na xs) (zin nb ys)).num)) ∧ W0.cell? ⟨w3.heap.size, 1, none⟩ = some (.slice A2 n2 c2)) ∧
  Own 109 W0 (w.heap.size + 3) AN nN cN (dg 4294967296 (-(Int.gcd (zin na xs) (zin nb ys) : Int)).natAbs) ∧ Own 109 W0 (w.heap.size + 3) A2 n2 c2 (dg 4294967296 (Rat.divInt (zin na xs) (zin nb ys)).num.natAbs)) ?_ ?_
 ·refine ⟨((hH4.alloc _).alloc _).rebase (Nat.le_refl _) (by simp; omega), ⟨?_, ?_⟩, ⟨by simp; omega, by omega, by simp; omega⟩, ⟨?_, ?_⟩, ⟨?_, ?_⟩, (h6.over (below_new _ _)).over (below_new _ _), (h4.over (below_new _ _)).over (below_new _ _)⟩ <;> go_simp
 rintro W2 ⟨hH5, ⟨p0, p1⟩, ⟨r5, r6, r7⟩, ⟨p2, p3⟩, ⟨p10, p11⟩, h7, h8⟩
 clear h3 h4 h6 hH3 hH4 hb3 p4 p5 p6 p7 p8 p9 i0 i1
 have ne6 : w3.heap.size ≠ w.heap.size + 2 := by omega
 have j2 : w.heap.size + 1 < W2.heap.size := by omega
 generalize w3.heap.size = t6 at *
 go_wp2_with fail
 refine (big_DivMod nb (sgz (-(Int.gcd (zin na xs) (zin nb ys) : Int))) B AN m nN d cN ys _ _ (hb.now hH5.bel) h7.u32 hm hng hg0).mono ?_
 rintro e w4 ⟨A4, n4, c4, A5, n5, c5, rfl, h9, h10, hb4⟩
 rw [zin_dg, ← M2.out] at h9
 rw [zin_dg, ← M2.out, sgz_den]
 rw [Int.natAbs_natCast] at h9
 have hH6 := hH5.call hb4
 have hap := Apart.of h8 h9 (Nat.le_refl _)
 have h9 := h9.base_le (base' := w.heap.size + 3) hH5.base
 have h11 := h8.over hb4
 have r8 : t6 < w4.heap.size := Nat.lt_of_lt_of_le r7 hb4.size
 have z4 := hH6.base
 clear h10
 go_upto_region 6 with fail
 refine at_wp (fun W0 => Hld w.heap.size w W0.heap.size (w.heap.size + 2) 4 W0 W0 ∧ (t6 < W0.heap.size ∧ w.heap.size + 2 < w4.heap.size ∧ w4.heap.size < W0.heap.size) ∧
  (W0.cell? ⟨t6, 0, none⟩ = some (.bool (sgz (Rat.divInt (zin na xs) (zin nb ys)).num)) ∧ W0.cell? ⟨t6, 1, none⟩ = some (.slice A2 n2 c2)) ∧
  (W0.cell? ⟨w4.heap.size, 0, none⟩ = some (.bool false) ∧ W0.cell? ⟨w4.heap.size, 1, none⟩ = some (.slice A4 n4 c4)) ∧
  Own 109 W0 (w.heap.size + 3) A2 n2 c2 (dg 4294967296 (Rat.divInt (zin na xs) (zin nb ys)).num.natAbs) ∧ Own 109 W0 (w.heap.size + 3) A4 n4 c4 (dg 4294967296 (Rat.divInt (zin na xs) (zin nb ys)).den)) ?_ ?_
 ·refine ⟨((hH6.alloc _).alloc _).rebase (Nat.le_refl _) (by simp; omega), ⟨by simp; omega, by omega, by simp; omega⟩, ⟨?_, ?_⟩, ⟨?_, ?_⟩, (h11.over (below_new _ _)).over (below_new _ _), (h9.over (below_new _ _)).over (below_new _ _)⟩ <;> go_simp
 rintro W3 ⟨hH7, ⟨s5, s6, s7⟩, ⟨p0, p1⟩, ⟨p2, p3⟩, g1, g2⟩
 obtain ⟨v0, hv0⟩ := hH7.res 0 (by omega)
 obtain ⟨v1, hv1⟩ := hH7.res 1 (by omega)
 obtain ⟨v2, hv2⟩ := hH7.res 2 (by omega)
 obtain ⟨v3, hv3⟩ := hH7.res 3 (by omega)
 have hf0 := hH7.fro 0 (by omega)
 have hf1 := hH7.fro 1 (by omega)
 have hf2 := hH7.fro 2 (by omega)
 have hf3 := hH7.fro 3 (by omega)
 go_wp2_with fail
 refine bodyPost_ret (v := .agg #[.bool (sgz (Rat.divInt (zin na xs) (zin nb ys)).num), .slice A2 n2 c2, .bool false, .slice A4 n4 c4]) (by simp [results, Tryz.results115, go_sem, World.cell?_setCell_other, hv0, hv1, hv2, hv3]) rfl ⟨A2, n2, c2, A4, n4, c4, rfl, ?_, ?_, hap, ?_⟩
 ·exact Own.base_le ((((g1.setLow (by simp) _).setLow (by simp) _).setLow (by simp) _).setLow (by simp) _) (by omega)
 ·exact Own.base_le ((((g2.setLow (by simp) _).setLow (by simp) _).setLow (by simp) _).setLow (by simp) _) (by omega)
 (have hb := hH7.bel; (repeat (first | exact Below.refl _ _ | assumption | refine Below.drew ?_ | refine Below.setCell ?_ (by first | exact Nat.le_refl _ | (simp; done) | (simp; omega) | omega) _ | refine Below.alloc ?_ (by first | exact Nat.le_refl _ | exact Below.size (by assumption) | (simp; done) | (simp; omega) | omega) _)))
theorem rat_reduced (na nb : Bool) (A B : Option Addr) (n m c d : Nat) (xs ys : List Nat) (w : World) (ha : U32 w w.heap.size A n c xs) (hb : U32 w w.heap.size B m d ys) (hn : n ≤ 549755813888) (hm : m ≤ 549755813888) (h0 : zin nb ys ≠ 0) :
  Calls Tryz.prog 115 #[.agg #[.bool na, .slice A n c], .agg #[.bool nb, .slice B m d]] w (OutQ (Rat.divInt (zin na xs) (zin nb ys)) w) := by
 by_cases h : 0 < zin nb ys
 ·exact rat_reduced_pos na nb A B n m c d xs ys w ha hb hn hm h
 exact rat_reduced_neg na nb A B n m c d xs ys w ha hb hn hm (by omega)
theorem dg_mul_len (a b : Nat) : (dg 4294967296 (a * b)).length ≤ (dg 4294967296 a).length + (dg 4294967296 b).length := by
 refine dg_length_le (by omega) ?_
 rw [Nat.pow_add]
 exact Nat.mul_lt_mul_of_lt_of_lt (dg_lt (by omega)) (dg_lt (by omega))
theorem dg_mulz_len (a b : Int) : (dg 4294967296 (a * b).natAbs).length ≤ (dg 4294967296 a.natAbs).length + (dg 4294967296 b.natAbs).length := by
 rw [Int.natAbs_mul]
 exact dg_mul_len _ _
theorem dg_addz_len (a b : Int) {L : Nat} (ha : (dg 4294967296 a.natAbs).length ≤ L) (hb : (dg 4294967296 b.natAbs).length ≤ L) : (dg 4294967296 (a + b).natAbs).length ≤ L + 1 := by
 refine dg_length_le (by omega) ?_
 have h1 : a.natAbs < 4294967296 ^ L := Nat.lt_of_lt_of_le (dg_lt (by omega)) (Nat.pow_le_pow_right (by omega) ha)
 have h2 : b.natAbs < 4294967296 ^ L := Nat.lt_of_lt_of_le (dg_lt (by omega)) (Nat.pow_le_pow_right (by omega) hb)
 rw [Nat.pow_succ]
 generalize 4294967296 ^ L = p at *
 omega
theorem add_same {p q : Rat} (h : p.den = q.den) : Rat.divInt (p.num + q.num) (p.den : Int) = p + q := by
 have hp : (p.den : Int) ≠ 0 := by have := p.den_nz; omega
 have e := Rat.divInt_add_divInt p.num q.num hp hp
 have e1 := Rat.num_divInt_den p
 have e2 := Rat.num_divInt_den q
 rw [← h] at e2
 rw [e1, e2] at e
 rw [e, ← Int.add_mul, Rat.divInt_mul_right hp]
theorem add_other (p q : Rat) : Rat.divInt (p.num * q.den + q.num * p.den) ((p.den : Int) * q.den) = p + q := by
 have hp : (p.den : Int) ≠ 0 := by have := p.den_nz; omega
 have hq : (q.den : Int) ≠ 0 := by have := q.den_nz; omega
 have e := Rat.divInt_add_divInt p.num q.num hp hq
 rw [Rat.num_divInt_den, Rat.num_divInt_den] at e
 exact e.symm
set_option maxHeartbeats 2000000 in
theorem rat_Whole (z : Int) (w : World) (h1 : -9223372036854775808 ≤ z) (h2 : z ≤ 9223372036854775807) :
  Calls Tryz.prog 69 #[.int .i64 z] w (OutQ (z : Rat) w) := by
 go_enter Tryz.func69, Tryz.ntmps69
 go_upto_region 1 with fail
 refine at_wp (fun W0 => Hld (w.heap.size) w (w.heap.size) (w.heap.size) 4 W0 W0) ?_ ?_
 ·refine ⟨by (repeat (first | exact Below.refl _ _ | assumption | refine Below.drew ?_ | refine Below.setCell ?_ (by first | exact Nat.le_refl _ | (simp; done) | (simp; omega) | omega) _ | refine Below.alloc ?_ (by first | exact Nat.le_refl _ | exact Below.size (by assumption) | (simp; done) | (simp; omega) | omega) _)), by simp, by simp, by omega, by omega, fun _ _ _ _ => rfl, fun o ho => ?_⟩
  match o, ho with
  | 0, _ => constructor <;> go_simp
  | 1, _ => constructor <;> go_simp
  | 2, _ => constructor <;> go_simp
  | 3, _ => constructor <;> go_simp
 rintro W0 hH0
 go_wp2_with fail
 refine (big_Of z _ h1 h2).mono ?_
 rintro e w1 ⟨A1, n1, c1, rfl, g1, hb1⟩
 have hH1 := hH0.call hb1
 have k1 := g1.base_le hH0.base
 go_wp2_with fail
 refine (rat_one _).mono ?_
 rintro e w2 ⟨A2, n2, c2, rfl, g2, hb2⟩
 have hap := Apart.of g1 g2 (Nat.le_refl _)
 have hH2 := hH1.call hb2
 have k2 := g2.base_le hH1.base
 have k3 := k1.over hb2
 obtain ⟨v0, hv0⟩ := hH2.res 0 (by omega)
 obtain ⟨v1, hv1⟩ := hH2.res 1 (by omega)
 obtain ⟨v2, hv2⟩ := hH2.res 2 (by omega)
 obtain ⟨v3, hv3⟩ := hH2.res 3 (by omega)
 have hf0 := hH2.fro 0 (by omega)
 have hf1 := hH2.fro 1 (by omega)
 have hf2 := hH2.fro 2 (by omega)
 have hf3 := hH2.fro 3 (by omega)
 have e1 : sgz 1 = false := rfl
 go_wp2_with fail
 refine bodyPost_ret (v := .agg #[.bool (sgz z), .slice A1 n1 c1, .bool false, .slice A2 n2 c2]) (by simp [results, Tryz.results69, go_sem, World.cell?_setCell_other, hv0, hv1, hv2, hv3]) rfl ⟨A1, n1, c1, A2, n2, c2, rfl, ?_, ?_, hap, ?_⟩
 ·exact Own.base_le ((((k3.setLow (by simp) _).setLow (by simp) _).setLow (by simp) _).setLow (by simp) _) (by omega)
 ·exact Own.base_le ((((k2.setLow (by simp) _).setLow (by simp) _).setLow (by simp) _).setLow (by simp) _) (by omega)
 (have hb := hH2.bel; (repeat (first | exact Below.refl _ _ | assumption | refine Below.drew ?_ | refine Below.setCell ?_ (by first | exact Nat.le_refl _ | (simp; done) | (simp; omega) | omega) _ | refine Below.alloc ?_ (by first | exact Nat.le_refl _ | exact Below.size (by assumption) | (simp; done) | (simp; omega) | omega) _)))
set_option maxHeartbeats 2000000 in
theorem rat_add_same (p q : Rat) (A B A' B' : Option Addr) (n m n' m' c d c' d' : Nat) (w : World) (ha : U32 w w.heap.size A n c (dg 4294967296 p.num.natAbs)) (hb : U32 w w.heap.size B m d (dg 4294967296 p.den)) (ha' : U32 w w.heap.size A' n' c' (dg 4294967296 q.num.natAbs)) (hb' : U32 w w.heap.size B' m' d' (dg 4294967296 q.den)) (hn : n ≤ 68719476736) (hm : m ≤ 68719476736) (hn' : n' ≤ 68719476736) (hm' : m' ≤ 68719476736) (hd : p.den = q.den) :
    Calls Tryz.prog 111 #[.agg #[.bool (sgz p.num), .slice A n c, .bool false, .slice B m d], .agg #[.bool (sgz q.num), .slice A' n' c', .bool false, .slice B' m' d']] w (OutQ (p + q) w) := by
  have HQ := Lib.hid (add_same hd)
  have HD := Lib.hid hd
  clear hd
  go_enter Tryz.func111, Tryz.ntmps111
  go_upto_region 1 with fail
  refine at_wp (fun W0 => Hld (w.heap.size) w (w.heap.size + 2) (w.heap.size + 2) 4 W0 W0 ∧ W0.cell? ⟨w.heap.size, 0, none⟩ = some (.bool (sgz p.num)) ∧ W0.cell? ⟨w.heap.size, 1, none⟩ = some (.slice A n c) ∧ W0.cell? ⟨w.heap.size, 2, none⟩ = some (.bool false) ∧ W0.cell? ⟨w.heap.size, 3, none⟩ = some (.slice B m d) ∧ W0.cell? ⟨w.heap.size + 1, 0, none⟩ = some (.bool (sgz q.num)) ∧ W0.cell? ⟨w.heap.size + 1, 1, none⟩ = some (.slice A' n' c') ∧ W0.cell? ⟨w.heap.size + 1, 2, none⟩ = some (.bool false) ∧ W0.cell? ⟨w.heap.size + 1, 3, none⟩ = some (.slice B' m' d')) ?_ ?_
  · refine ⟨⟨by (repeat (first | exact Below.refl _ _ | assumption | refine Below.drew ?_ | refine Below.setCell ?_ (by first | exact Nat.le_refl _ | (simp; done) | (simp; omega) | omega) _ | refine Below.alloc ?_ (by first | exact Nat.le_refl _ | exact Below.size (by assumption) | (simp; done) | (simp; omega) | omega) _)), by simp, by simp, by omega, by omega, fun _ _ _ _ => rfl, fun o ho => ?_⟩, ?_, ?_, ?_, ?_, ?_, ?_, ?_, ?_⟩
    · match o, ho with
      | 0, _ => constructor <;> go_simp
      | 1, _ => constructor <;> go_simp
      | 2, _ => constructor <;> go_simp
      | 3, _ => constructor <;> go_simp
    · go_simp
    · go_simp
    · go_simp
    · go_simp
    · go_simp
    · go_simp
    · go_simp
    go_simp
  rintro W0 ⟨hH0, p0, p1, p2, p3, p4, p5, p6, p7⟩
  go_wp2_with fail
  refine (big_Cmp false false B B' m m' d d' _ _ _ (hb.now hH0.bel) (hb'.now hH0.bel) (by omega) (by omega)).mono ?_
  rintro e w1 ⟨rfl, hb1⟩
  rw [zin_nat, zin_nat, show (p.den : Int) - q.den = 0 by rw [HD.out]; omega]
  have hH1 := (hH0.call hb1)
  go_wp2_with fail
  go_region_held3 (fun w' => Hld (w.heap.size) w (w.heap.size + 2) (w.heap.size + 2) 4 W0 w') (repeat (first | assumption | exact hH0 | exact hH4 | refine Hld.drew ?_ | refine Hld.setCell ?_ (by first | (left; simp; done) | (right; simp; done) | (right; simp; omega) | (right; omega)) _ | refine Hld.alloc ?_ _))
    (first
      | (go_at_call 150
         refine Hld.from (s := w.heap.size) (w := w) (B := w.heap.size + 2) (g := w.heap.size + 2) (k := 4) (W0 := W0) ?_ (fun hH => ?_)
         · (repeat (first | assumption | exact hH0 | exact hH4 | refine Hld.drew ?_ | refine Hld.setCell ?_ (by first | (left; simp; done) | (right; simp; done) | (right; simp; omega) | (right; omega)) _ | refine Hld.alloc ?_ _))
         refine (big_Add (sgz p.num) (sgz q.num) A A' n n' c c' _ _ _ (ha.now hH.bel) (ha'.now hH.bel) (by omega) (by omega)).mono ?_
         rintro e w2 ⟨A2, n2, c2, rfl, g2, hb2⟩
         rw [zin_dg, zin_dg] at g2
         rw [zin_dg, zin_dg]
         have hH2 := hH.call hb2
         have u2 := g2.u32
         have l2 : n2 ≤ 549755813888 := by
           have h1 := ha.len
           have h2 := ha'.len
           have h3 := dg_addz_len p.num q.num (L := 68719476736) (by omega) (by omega)
           rw [g2.len] at h3
           omega)
      | (go_at_call 115
         refine Hld.from (s := w.heap.size) (w := w) (B := w.heap.size + 2) (g := w.heap.size + 2) (k := 4) (W0 := W0) ?_ (fun hH => ?_)
         · (repeat (first | assumption | exact hH0 | exact hH4 | refine Hld.drew ?_ | refine Hld.setCell ?_ (by first | (left; simp; done) | (right; simp; done) | (right; simp; omega) | (right; omega)) _ | refine Hld.alloc ?_ _))
         refine (rat_reduced (sgz (p.num + q.num)) false A2 B n2 m c2 d _ _ _ u2 (hb.now hH.bel) l2 (by omega) (by rw [zin_nat]; have := p.den_nz; omega)).mono ?_
         rintro e w3 ⟨A3, n3, c3, A4, n4, c4, rfl, g3, g4, hap, hb3⟩
         rw [zin_dg, zin_nat, HQ.out] at g3 g4
         rw [zin_dg, zin_nat, HQ.out]
         have hHZ := hH.call hb3
         have g3 := g3.base_le hH.base
         have g4 := g4.base_le hH.base
         obtain ⟨v0, hv0⟩ := hHZ.res 0 (by omega)
         obtain ⟨v1, hv1⟩ := hHZ.res 1 (by omega)
         obtain ⟨v2, hv2⟩ := hHZ.res 2 (by omega)
         obtain ⟨v3, hv3⟩ := hHZ.res 3 (by omega)
         have hf0 := hHZ.fro 0 (by omega)
         have hf1 := hHZ.fro 1 (by omega)
         have hf2 := hHZ.fro 2 (by omega)
         have hf3 := hHZ.fro 3 (by omega)))
  all_goals
    go_wp2_with fail
    refine bodyPost_ret (v := .agg #[.bool (sgz (p + q).num), .slice A3 n3 c3, .bool false, .slice A4 n4 c4]) (by simp [results, Tryz.results111, go_sem, World.cell?_setCell_other, hv0, hv1, hv2, hv3]) rfl ⟨A3, n3, c3, A4, n4, c4, rfl, ?_, ?_, hap, ?_⟩
    · exact Own.base_le ((((g3.setLow (by simp) _).setLow (by simp) _).setLow (by simp) _).setLow (by simp) _) (by omega)
    · exact Own.base_le ((((g4.setLow (by simp) _).setLow (by simp) _).setLow (by simp) _).setLow (by simp) _) (by omega)
    (have hb := hHZ.bel; (repeat (first | exact Below.refl _ _ | assumption | refine Below.drew ?_ | refine Below.setCell ?_ (by first | exact Nat.le_refl _ | (simp; done) | (simp; omega) | omega) _ | refine Below.alloc ?_ (by first | exact Nat.le_refl _ | exact Below.size (by assumption) | (simp; done) | (simp; omega) | omega) _)))
set_option maxHeartbeats 2000000 in
theorem add_den_ne {p q : Rat} (hd : p.den ≠ q.den) : ((((p.den : Int) - q.den).sign == 0) = false) := by
 rw [beq_eq_false_iff_ne]
 intro h
 have := Int.sign_eq_zero_iff_zero.1 h
 omega
set_option maxHeartbeats 2000000 in
theorem rat_add_other (p q : Rat) (A B A' B' : Option Addr) (n m n' m' c d c' d' : Nat) (w : World) (ha : U32 w w.heap.size A n c (dg 4294967296 p.num.natAbs)) (hb : U32 w w.heap.size B m d (dg 4294967296 p.den)) (ha' : U32 w w.heap.size A' n' c' (dg 4294967296 q.num.natAbs)) (hb' : U32 w w.heap.size B' m' d' (dg 4294967296 q.den)) (hn : n ≤ 68719476736) (hm : m ≤ 68719476736) (hn' : n' ≤ 68719476736) (hm' : m' ≤ 68719476736) (hd : p.den ≠ q.den) :
    Calls Tryz.prog 111 #[.agg #[.bool (sgz p.num), .slice A n c, .bool false, .slice B m d], .agg #[.bool (sgz q.num), .slice A' n' c', .bool false, .slice B' m' d']] w (OutQ (p + q) w) := by
  have HQ := Lib.hid (add_other p q)
  obtain ⟨kap, hkap⟩ : ∃ k, ((p.den : Int) - q.den).sign = k := ⟨_, rfl⟩
  have HD := Lib.hid hkap
  have e9 := add_den_ne hd
  rw [hkap] at e9
  clear hd hkap
  go_enter Tryz.func111, Tryz.ntmps111
  go_upto_region 1 with fail
  refine at_wp (fun W0 => Hld (w.heap.size) w (w.heap.size + 2) (w.heap.size + 2) 4 W0 W0 ∧ W0.cell? ⟨w.heap.size, 0, none⟩ = some (.bool (sgz p.num)) ∧ W0.cell? ⟨w.heap.size, 1, none⟩ = some (.slice A n c) ∧ W0.cell? ⟨w.heap.size, 2, none⟩ = some (.bool false) ∧ W0.cell? ⟨w.heap.size, 3, none⟩ = some (.slice B m d) ∧ W0.cell? ⟨w.heap.size + 1, 0, none⟩ = some (.bool (sgz q.num)) ∧ W0.cell? ⟨w.heap.size + 1, 1, none⟩ = some (.slice A' n' c') ∧ W0.cell? ⟨w.heap.size + 1, 2, none⟩ = some (.bool false) ∧ W0.cell? ⟨w.heap.size + 1, 3, none⟩ = some (.slice B' m' d')) ?_ ?_
  · refine ⟨⟨by (repeat (first | exact Below.refl _ _ | assumption | refine Below.drew ?_ | refine Below.setCell ?_ (by first | exact Nat.le_refl _ | (simp; done) | (simp; omega) | omega) _ | refine Below.alloc ?_ (by first | exact Nat.le_refl _ | exact Below.size (by assumption) | (simp; done) | (simp; omega) | omega) _)), by simp, by simp, by omega, by omega, fun _ _ _ _ => rfl, fun o ho => ?_⟩, ?_, ?_, ?_, ?_, ?_, ?_, ?_, ?_⟩
    · match o, ho with
      | 0, _ => constructor <;> go_simp
      | 1, _ => constructor <;> go_simp
      | 2, _ => constructor <;> go_simp
      | 3, _ => constructor <;> go_simp
    · go_simp
    · go_simp
    · go_simp
    · go_simp
    · go_simp
    · go_simp
    · go_simp
    go_simp
  rintro W0 ⟨hH0, p0, p1, p2, p3, p4, p5, p6, p7⟩
  go_wp2_with fail
  refine (big_Cmp false false B B' m m' d d' _ _ _ (hb.now hH0.bel) (hb'.now hH0.bel) (by omega) (by omega)).mono ?_
  rintro e w1 ⟨rfl, hb1⟩
  rw [zin_nat, zin_nat, HD.out]
  have hH1 := (hH0.call hb1)
  go_wp2_with fail
  go_region_held3 (fun w' => Hld (w.heap.size) w (w.heap.size + 2) (w.heap.size + 2) 4 W0 w') (repeat (first | assumption | exact hH0 | exact hH4 | refine Hld.drew ?_ | refine Hld.setCell ?_ (by first | (left; simp; done) | (right; simp; done) | (right; simp; omega) | (right; omega)) _ | refine Hld.alloc ?_ _))
    (first
      | (go_at_call 116
         refine Hld.from (s := w.heap.size) (w := w) (B := w.heap.size + 2) (g := w.heap.size + 2) (k := 4) (W0 := W0) ?_ (fun hH => ?_)
         · (repeat (first | assumption | exact hH0 | exact hH4 | refine Hld.drew ?_ | refine Hld.setCell ?_ (by first | (left; simp; done) | (right; simp; done) | (right; simp; omega) | (right; omega)) _ | refine Hld.alloc ?_ _))
         first
           | (with_reducible refine (big_Mul (sgz p.num) false A B' n m' c d' _ _ _ (ha.now hH.bel) (hb'.now hH.bel) (by omega) (by omega)).mono ?_
              rintro e wm1 ⟨Am1, nm1, cm1, rfl, gm1, hbm1⟩
              rw [zin_dg, zin_nat] at gm1
              rw [zin_dg, zin_nat]
              (try have gm1 := gm1.over hbm1)
              (try have gm2 := gm2.over hbm1)
              (try have gm3 := gm3.over hbm1)
              (try have ga := ga.over hbm1)
              have hHm1 := hH.call hbm1
              have lm1 : nm1 ≤ 137438953472 := by
                have h1 := ha.len
                have h2 := hb'.len
                have h3 := dg_mulz_len p.num (q.den : Int)
                rw [gm1.len] at h3
                try simp only [Int.natAbs_natCast] at h3
                omega)
           | (with_reducible refine (big_Mul (sgz q.num) false A' B n' m c' d _ _ _ (ha'.now hH.bel) (hb.now hH.bel) (by omega) (by omega)).mono ?_
              rintro e wm2 ⟨Am2, nm2, cm2, rfl, gm2, hbm2⟩
              rw [zin_dg, zin_nat] at gm2
              rw [zin_dg, zin_nat]
              (try have gm1 := gm1.over hbm2)
              (try have gm2 := gm2.over hbm2)
              (try have gm3 := gm3.over hbm2)
              (try have ga := ga.over hbm2)
              have hHm2 := hH.call hbm2
              have lm2 : nm2 ≤ 137438953472 := by
                have h1 := ha'.len
                have h2 := hb.len
                have h3 := dg_mulz_len q.num (p.den : Int)
                rw [gm2.len] at h3
                try simp only [Int.natAbs_natCast] at h3
                omega)
           | (with_reducible refine (big_Mul false false B B' m m' d d' _ _ _ (hb.now hH.bel) (hb'.now hH.bel) (by omega) (by omega)).mono ?_
              rintro e wm3 ⟨Am3, nm3, cm3, rfl, gm3, hbm3⟩
              rw [zin_nat, zin_nat] at gm3
              rw [zin_nat, zin_nat]
              (try have gm1 := gm1.over hbm3)
              (try have gm2 := gm2.over hbm3)
              (try have gm3 := gm3.over hbm3)
              (try have ga := ga.over hbm3)
              have hHm3 := hH.call hbm3
              have lm3 : nm3 ≤ 137438953472 := by
                have h1 := hb.len
                have h2 := hb'.len
                have h3 := dg_mulz_len (p.den : Int) (q.den : Int)
                rw [gm3.len] at h3
                try simp only [Int.natAbs_natCast] at h3
                omega))
      | (go_at_call 150
         refine Hld.from (s := w.heap.size) (w := w) (B := w.heap.size + 2) (g := w.heap.size + 2) (k := 4) (W0 := W0) ?_ (fun hH => ?_)
         · (repeat (first | assumption | exact hH0 | exact hH4 | refine Hld.drew ?_ | refine Hld.setCell ?_ (by first | (left; simp; done) | (right; simp; done) | (right; simp; omega) | (right; omega)) _ | refine Hld.alloc ?_ _))
         refine (big_Add (sgz (p.num * q.den)) (sgz (q.num * p.den)) Am1 Am2 nm1 nm2 cm1 cm2 _ _ _ gm1.u32 gm2.u32 (by omega) (by omega)).mono ?_
         rintro e wa ⟨Aa, na, ca, rfl, ga, hba⟩
         rw [zin_dg, zin_dg] at ga
         rw [zin_dg, zin_dg]
         (try have gm3 := gm3.over hba)
         have hHa := hH.call hba
         have la : na ≤ 549755813888 := by
           have h1 := gm1.len
           have h2 := gm2.len
           have h3 := dg_addz_len (p.num * q.den) (q.num * p.den) (L := 137438953472) (by omega) (by omega)
           rw [ga.len] at h3
           omega)
      | (go_at_call 115
         refine Hld.from (s := w.heap.size) (w := w) (B := w.heap.size + 2) (g := w.heap.size + 2) (k := 4) (W0 := W0) ?_ (fun hH => ?_)
         · (repeat (first | assumption | exact hH0 | exact hH4 | refine Hld.drew ?_ | refine Hld.setCell ?_ (by first | (left; simp; done) | (right; simp; done) | (right; simp; omega) | (right; omega)) _ | refine Hld.alloc ?_ _))
         refine (rat_reduced (sgz (p.num * q.den + q.num * p.den)) (sgz ((p.den : Int) * q.den)) Aa Am3 na nm3 ca cm3 _ _ _ ga.u32 gm3.u32 la (by omega) (by rw [zin_dg]; exact Int.mul_ne_zero (by have := p.den_nz; omega) (by have := q.den_nz; omega))).mono ?_
         rintro e w3 ⟨A3, n3, c3, A4, n4, c4, rfl, g3, g4, hap, hb3⟩
         rw [zin_dg, zin_dg, HQ.out] at g3 g4
         rw [zin_dg, zin_dg, HQ.out]
         have hHZ := hH.call hb3
         have g3 := g3.base_le hH.base
         have g4 := g4.base_le hH.base
         obtain ⟨v0, hv0⟩ := hHZ.res 0 (by omega)
         obtain ⟨v1, hv1⟩ := hHZ.res 1 (by omega)
         obtain ⟨v2, hv2⟩ := hHZ.res 2 (by omega)
         obtain ⟨v3, hv3⟩ := hHZ.res 3 (by omega)
         have hf0 := hHZ.fro 0 (by omega)
         have hf1 := hHZ.fro 1 (by omega)
         have hf2 := hHZ.fro 2 (by omega)
         have hf3 := hHZ.fro 3 (by omega)))
  all_goals
    go_wp2_with fail
    refine bodyPost_ret (v := .agg #[.bool (sgz (p + q).num), .slice A3 n3 c3, .bool false, .slice A4 n4 c4]) (by simp [results, Tryz.results111, go_sem, World.cell?_setCell_other, hv0, hv1, hv2, hv3]) rfl ⟨A3, n3, c3, A4, n4, c4, rfl, ?_, ?_, hap, ?_⟩
    · exact Own.base_le ((((g3.setLow (by simp) _).setLow (by simp) _).setLow (by simp) _).setLow (by simp) _) (by omega)
    · exact Own.base_le ((((g4.setLow (by simp) _).setLow (by simp) _).setLow (by simp) _).setLow (by simp) _) (by omega)
    (have hb := hHZ.bel; (repeat (first | exact Below.refl _ _ | assumption | refine Below.drew ?_ | refine Below.setCell ?_ (by first | exact Nat.le_refl _ | (simp; done) | (simp; omega) | omega) _ | refine Below.alloc ?_ (by first | exact Nat.le_refl _ | exact Below.size (by assumption) | (simp; done) | (simp; omega) | omega) _)))
theorem rat_add (p q : Rat) (A B A' B' : Option Addr) (n m n' m' c d c' d' : Nat) (w : World) (ha : U32 w w.heap.size A n c (dg 4294967296 p.num.natAbs)) (hb : U32 w w.heap.size B m d (dg 4294967296 p.den)) (ha' : U32 w w.heap.size A' n' c' (dg 4294967296 q.num.natAbs)) (hb' : U32 w w.heap.size B' m' d' (dg 4294967296 q.den)) (hn : n ≤ 68719476736) (hm : m ≤ 68719476736) (hn' : n' ≤ 68719476736) (hm' : m' ≤ 68719476736) :
  Calls Tryz.prog 111 #[.agg #[.bool (sgz p.num), .slice A n c, .bool false, .slice B m d], .agg #[.bool (sgz q.num), .slice A' n' c', .bool false, .slice B' m' d']] w (OutQ (p + q) w) := by
 by_cases hd : p.den = q.den
 ·exact rat_add_same p q A B A' B' n m n' m' c d c' d' w ha hb ha' hb' hn hm hn' hm' hd
 exact rat_add_other p q A B A' B' n m n' m' c d c' d' w ha hb ha' hb' hn hm hn' hm' hd
theorem u32_len {w : World} {A : Option Addr} {B n c L : Nat} {xs : List Nat} (h : U32 w B A n c xs) (hl : xs.length ≤ L) : n ≤ L := by rw [← h.len]; exact hl
set_option maxHeartbeats 2000000 in
theorem rat_Add (na nb na' nb' : Bool) (A B A' B' : Option Addr) (n m n' m' c d c' d' : Nat) (xs ys xs' ys' : List Nat) (w : World) (ha : U32 w w.heap.size A n c xs) (hb : U32 w w.heap.size B m d ys) (ha' : U32 w w.heap.size A' n' c' xs') (hb' : U32 w w.heap.size B' m' d' ys') (hn : n ≤ 68719476736) (hm : m ≤ 68719476736) (hn' : n' ≤ 68719476736) (hm' : m' ≤ 68719476736) :
    Calls Tryz.prog 70 #[.agg #[.bool na, .slice A n c, .bool nb, .slice B m d], .agg #[.bool na', .slice A' n' c', .bool nb', .slice B' m' d']] w (OutQ (qin na xs nb ys + qin na' xs' nb' ys') w) := by
  have hz := qin_sz (na := na) (nb := nb) ha.lim hb.lim (L := 68719476736) (by rw [ha.len]; exact hn) (by rw [hb.len]; exact hm) (by omega)
  have hz' := qin_sz (na := na') (nb := nb') ha'.lim hb'.lim (L := 68719476736) (by rw [ha'.len]; exact hn') (by rw [hb'.len]; exact hm') (by omega)
  obtain ⟨p, hp⟩ : ∃ p, qin na xs nb ys = p := ⟨_, rfl⟩
  obtain ⟨q, hq⟩ : ∃ q, qin na' xs' nb' ys' = q := ⟨_, rfl⟩
  rw [hp] at hz ⊢
  rw [hq] at hz' ⊢
  have HP := Lib.hid hp
  have HQ := Lib.hid hq
  clear hp hq
  go_enter Tryz.func70, Tryz.ntmps70
  go_upto_region 1 with fail
  refine at_wp (fun W0 => Hld (w.heap.size) w (w.heap.size + 2) (w.heap.size + 2) 4 W0 W0 ∧ W0.cell? ⟨w.heap.size, 0, none⟩ = some (.bool na) ∧ W0.cell? ⟨w.heap.size, 1, none⟩ = some (.slice A n c) ∧ W0.cell? ⟨w.heap.size, 2, none⟩ = some (.bool nb) ∧ W0.cell? ⟨w.heap.size, 3, none⟩ = some (.slice B m d) ∧ W0.cell? ⟨w.heap.size + 1, 0, none⟩ = some (.bool na') ∧ W0.cell? ⟨w.heap.size + 1, 1, none⟩ = some (.slice A' n' c') ∧ W0.cell? ⟨w.heap.size + 1, 2, none⟩ = some (.bool nb') ∧ W0.cell? ⟨w.heap.size + 1, 3, none⟩ = some (.slice B' m' d')) ?_ ?_
  · refine ⟨⟨by (repeat (first | exact Below.refl _ _ | assumption | refine Below.drew ?_ | refine Below.setCell ?_ (by first | exact Nat.le_refl _ | (simp; done) | (simp; omega) | omega) _ | refine Below.alloc ?_ (by first | exact Nat.le_refl _ | exact Below.size (by assumption) | (simp; done) | (simp; omega) | omega) _)), by simp, by simp, by omega, by omega, fun _ _ _ _ => rfl, fun o ho => ?_⟩, ?_, ?_, ?_, ?_, ?_, ?_, ?_, ?_⟩
    · match o, ho with
      | 0, _ => constructor <;> go_simp
      | 1, _ => constructor <;> go_simp
      | 2, _ => constructor <;> go_simp
      | 3, _ => constructor <;> go_simp
    · go_simp
    · go_simp
    · go_simp
    · go_simp
    · go_simp
    · go_simp
    · go_simp
    go_simp
  rintro W0 ⟨hH0, p0, p1, p2, p3, p4, p5, p6, p7⟩
  go_wp2_with fail
  go_region_held3 (fun w' => Hld (w.heap.size) w (w.heap.size + 2) (w.heap.size + 2) 4 W0 w') (repeat (first | assumption | exact hH0 | exact hH4 | refine Hld.drew ?_ | refine Hld.setCell ?_ (by first | (left; simp; done) | (right; simp; done) | (right; simp; omega) | (right; omega)) _ | refine Hld.alloc ?_ _))
    (first
      | (go_at_call 75
         refine Hld.from (s := w.heap.size) (w := w) (B := w.heap.size + 2) (g := w.heap.size + 2) (k := 4) (W0 := W0) ?_ (fun hH => ?_)
         · (repeat (first | assumption | exact hH0 | exact hH4 | refine Hld.drew ?_ | refine Hld.setCell ?_ (by first | (left; simp; done) | (right; simp; done) | (right; simp; omega) | (right; omega)) _ | refine Hld.alloc ?_ _))
         first
           | (with_reducible refine (rat_right na nb A B n m c d _ _ _ (ha.now hH.bel) (hb.now hH.bel) (by omega) (by omega)).mono ?_
              rw [HP.out]
              rintro e wr1 ⟨Ar1, nr1, cr1, Br1, mr1, dr1, rfl, ur1, vr1, hbr1⟩
              (try have ur2 := ur2.now hbr1)
              (try have vr2 := vr2.now hbr1)
              have hHr1 := hH.call hbr1
              have lr1 := u32_len ur1 hz.1
              have kr1 := u32_len vr1 hz.2)
           | (with_reducible refine (rat_right na' nb' A' B' n' m' c' d' _ _ _ (ha'.now hH.bel) (hb'.now hH.bel) (by omega) (by omega)).mono ?_
              rw [HQ.out]
              rintro e wr2 ⟨Ar2, nr2, cr2, Br2, mr2, dr2, rfl, ur2, vr2, hbr2⟩
              (try have ur1 := ur1.now hbr2)
              (try have vr1 := vr1.now hbr2)
              have hHr2 := hH.call hbr2
              have lr2 := u32_len ur2 hz'.1
              have kr2 := u32_len vr2 hz'.2))
      | (go_at_call 111
         refine Hld.from (s := w.heap.size) (w := w) (B := w.heap.size + 2) (g := w.heap.size + 2) (k := 4) (W0 := W0) ?_ (fun hH => ?_)
         · (repeat (first | assumption | exact hH0 | exact hH4 | refine Hld.drew ?_ | refine Hld.setCell ?_ (by first | (left; simp; done) | (right; simp; done) | (right; simp; omega) | (right; omega)) _ | refine Hld.alloc ?_ _))
         refine (rat_add p (q) Ar1 Br1 Ar2 Br2 nr1 mr1 nr2 mr2 cr1 dr1 cr2 dr2 _ ur1 vr1 ur2 vr2 lr1 kr1 lr2 kr2).mono ?_
         rintro e w3 ⟨A3, n3, c3, A4, n4, c4, rfl, g3, g4, hap, hb3⟩
         have hHZ := hH.call hb3
         have g3 := g3.base_le hH.base
         have g4 := g4.base_le hH.base
         obtain ⟨v0, hv0⟩ := hHZ.res 0 (by omega)
         obtain ⟨v1, hv1⟩ := hHZ.res 1 (by omega)
         obtain ⟨v2, hv2⟩ := hHZ.res 2 (by omega)
         obtain ⟨v3, hv3⟩ := hHZ.res 3 (by omega)
         have hf0 := hHZ.fro 0 (by omega)
         have hf1 := hHZ.fro 1 (by omega)
         have hf2 := hHZ.fro 2 (by omega)
         have hf3 := hHZ.fro 3 (by omega)))
  all_goals
    go_wp2_with fail
    refine bodyPost_ret (v := .agg #[.bool (sgz (p + q).num), .slice A3 n3 c3, .bool false, .slice A4 n4 c4]) (by simp [results, Tryz.results70, go_sem, World.cell?_setCell_other, hv0, hv1, hv2, hv3]) rfl ⟨A3, n3, c3, A4, n4, c4, rfl, ?_, ?_, hap, ?_⟩
    · exact Own.base_le ((((g3.setLow (by simp) _).setLow (by simp) _).setLow (by simp) _).setLow (by simp) _) (by omega)
    · exact Own.base_le ((((g4.setLow (by simp) _).setLow (by simp) _).setLow (by simp) _).setLow (by simp) _) (by omega)
    (have hb := hHZ.bel; (repeat (first | exact Below.refl _ _ | assumption | refine Below.drew ?_ | refine Below.setCell ?_ (by first | exact Nat.le_refl _ | (simp; done) | (simp; omega) | omega) _ | refine Below.alloc ?_ (by first | exact Nat.le_refl _ | exact Below.size (by assumption) | (simp; done) | (simp; omega) | omega) _)))
theorem set_four {W : World} {t : Nat} {u0 u1 u2 u3 v0 v1 v2 v3 : Value} (h0 : W.cell? ⟨t, 0, none⟩ = some u0) (h1 : W.cell? ⟨t, 1, none⟩ = some u1) (h2 : W.cell? ⟨t, 2, none⟩ = some u2) (h3 : W.cell? ⟨t, 3, none⟩ = some u3) :
  let W' := (((W.setCell ⟨t, 0, none⟩ v0).setCell ⟨t, 1, none⟩ v1).setCell ⟨t, 2, none⟩ v2).setCell ⟨t, 3, none⟩ v3
  W'.cell? ⟨t, 0, none⟩ = some v0 ∧ W'.cell? ⟨t, 1, none⟩ = some v1 ∧ W'.cell? ⟨t, 2, none⟩ = some v2 ∧ W'.cell? ⟨t, 3, none⟩ = some v3 ∧ ∀ b o, b ≠ t → W'.cell? ⟨b, o, none⟩ = W.cell? ⟨b, o, none⟩ := by
 intro W'
 have ne : ∀ i j : Nat, i ≠ j → (⟨t, i, none⟩ : Addr) ≠ ⟨t, j, none⟩ := by intro i j hij e; injection e with _ e2; exact hij e2
 refine ⟨?_, ?_, ?_, ?_, fun b o hb => ?_⟩
 ·rw [World.cell?_setCell_other _ _ _ _ (ne 3 0 (by omega)), World.cell?_setCell_other _ _ _ _ (ne 2 0 (by omega)), World.cell?_setCell_other _ _ _ _ (ne 1 0 (by omega))]
  exact World.cell?_setCell_same _ _ _ h0
 ·rw [World.cell?_setCell_other _ _ _ _ (ne 3 1 (by omega)), World.cell?_setCell_other _ _ _ _ (ne 2 1 (by omega))]
  refine World.cell?_setCell_same _ _ _ (u := u1) ?_
  rw [World.cell?_setCell_other _ _ _ _ (ne 0 1 (by omega))]
  exact h1
 ·rw [World.cell?_setCell_other _ _ _ _ (ne 3 2 (by omega))]
  refine World.cell?_setCell_same _ _ _ (u := u2) ?_
  rw [World.cell?_setCell_other _ _ _ _ (ne 1 2 (by omega)), World.cell?_setCell_other _ _ _ _ (ne 0 2 (by omega))]
  exact h2
 ·refine World.cell?_setCell_same _ _ _ (u := u3) ?_
  rw [World.cell?_setCell_other _ _ _ _ (ne 2 3 (by omega)), World.cell?_setCell_other _ _ _ _ (ne 1 3 (by omega)), World.cell?_setCell_other _ _ _ _ (ne 0 3 (by omega))]
  exact h3
 show ((((W.setCell ⟨t, 0, none⟩ v0).setCell ⟨t, 1, none⟩ v1).setCell ⟨t, 2, none⟩ v2).setCell ⟨t, 3, none⟩ v3).cell? ⟨b, o, none⟩ = _
 have hf : t ≠ b := fun e => hb e.symm
 rw [World.cell?_setCell_far _ _ _ _ (show t ≠ b from hf), World.cell?_setCell_far _ _ _ _ (show t ≠ b from hf), World.cell?_setCell_far _ _ _ _ (show t ≠ b from hf), World.cell?_setCell_far _ _ _ _ (show t ≠ b from hf)]
set_option maxHeartbeats 2000000 in
theorem rat_Neg (na nb : Bool) (A B : Option Addr) (n m c d : Nat) (xs ys : List Nat) (w : World) (ha : U32 w w.heap.size A n c xs) (hb : U32 w w.heap.size B m d ys) (hn : n ≤ 68719476736) (hm : m ≤ 68719476736) :
    Calls Tryz.prog 72 #[.agg #[.bool na, .slice A n c, .bool nb, .slice B m d]] w (OutQ (-qin na xs nb ys) w) := by
  have hz := qin_sz (na := na) (nb := nb) ha.lim hb.lim (L := 68719476736) (by rw [ha.len]; exact hn) (by rw [hb.len]; exact hm) (by omega)
  obtain ⟨p, hp⟩ : ∃ p, qin na xs nb ys = p := ⟨_, rfl⟩
  rw [hp] at hz ⊢
  have HP := Lib.hid hp
  clear hp
  go_enter Tryz.func72, Tryz.ntmps72
  go_upto_region 1 with fail
  refine at_wp (fun W0 => Hld (w.heap.size) w (w.heap.size + 1) (w.heap.size + 1) 4 W0 W0 ∧ W0.cell? ⟨w.heap.size, 0, none⟩ = some (.bool na) ∧ W0.cell? ⟨w.heap.size, 1, none⟩ = some (.slice A n c) ∧ W0.cell? ⟨w.heap.size, 2, none⟩ = some (.bool nb) ∧ W0.cell? ⟨w.heap.size, 3, none⟩ = some (.slice B m d) ∧ W0.frozen? ⟨w.heap.size, 0, none⟩ = false ∧ W0.frozen? ⟨w.heap.size, 1, none⟩ = false ∧ W0.frozen? ⟨w.heap.size, 2, none⟩ = false ∧ W0.frozen? ⟨w.heap.size, 3, none⟩ = false) ?_ ?_
  · refine ⟨⟨by (repeat (first | exact Below.refl _ _ | assumption | refine Below.drew ?_ | refine Below.setCell ?_ (by first | exact Nat.le_refl _ | (simp; done) | (simp; omega) | omega) _ | refine Below.alloc ?_ (by first | exact Nat.le_refl _ | exact Below.size (by assumption) | (simp; done) | (simp; omega) | omega) _)), by simp, by simp, by omega, by omega, fun _ _ _ _ => rfl, fun o ho => ?_⟩, ?_, ?_, ?_, ?_, ?_, ?_, ?_, ?_⟩
    · match o, ho with
      | 0, _ => constructor <;> go_simp
      | 1, _ => constructor <;> go_simp
      | 2, _ => constructor <;> go_simp
      | 3, _ => constructor <;> go_simp
    · go_simp
    · go_simp
    · go_simp
    · go_simp
    · go_simp
    · go_simp
    · go_simp
    go_simp
  rintro W0 ⟨hH0, p0, p1, p2, p3, f0, f1, f2, f3⟩
  go_wp2_with fail
  refine (rat_rightS w.heap.size na nb A B n m c d xs ys _ (ha.below hH0.bel) (hb.below hH0.bel) hH0.bel.size (by omega) (by omega)).mono ?_
  rw [HP.out]
  rintro e w1 ⟨A1, n1, c1, B1, m1, d1, rfl, u1, u2, hb1⟩
  have hH1 := hH0.call hb1
  have z0 := hH0.base
  have z1 := hH1.base
  have l1 := u32_len (u1.u32 hH1.bel.size) hz.1
  have l2 := u32_len (u2.u32 hH1.bel.size) hz.2
  have hsz : w.heap.size < W0.heap.size := by omega
  have q0 := (hb1.cell (p := ⟨w.heap.size, 0, none⟩) hsz).trans p0
  have q1 := (hb1.cell (p := ⟨w.heap.size, 1, none⟩) hsz).trans p1
  have q2 := (hb1.cell (p := ⟨w.heap.size, 2, none⟩) hsz).trans p2
  have q3 := (hb1.cell (p := ⟨w.heap.size, 3, none⟩) hsz).trans p3
  have f4 := (hb1.frozen (p := ⟨w.heap.size, 0, none⟩) hsz).trans f0
  have f5 := (hb1.frozen (p := ⟨w.heap.size, 1, none⟩) hsz).trans f1
  have f6 := (hb1.frozen (p := ⟨w.heap.size, 2, none⟩) hsz).trans f2
  have f7 := (hb1.frozen (p := ⟨w.heap.size, 3, none⟩) hsz).trans f3
  obtain ⟨k0, k1, k2, k3, ko⟩ := set_four (v0 := .bool (sgz p.num)) (v1 := .slice A1 n1 c1) (v2 := .bool false) (v3 := .slice B1 m1 d1) q0 q1 q2 q3
  have K0 := Lib.hid k0
  have K1 := Lib.hid k1
  have K2 := Lib.hid k2
  have K3 := Lib.hid k3
  clear k0 k1 k2 k3 ko
  go_upto_region 2 with fail
  refine at_wp (fun W2 => Hld w.heap.size w W2.heap.size (w.heap.size + 1) 4 W2 W2 ∧ (W2.cell? ⟨w.heap.size, 0, none⟩ = some (.bool (sgz p.num)) ∧ W2.cell? ⟨w.heap.size, 1, none⟩ = some (.slice A1 n1 c1) ∧ W2.cell? ⟨w.heap.size, 2, none⟩ = some (.bool false) ∧ W2.cell? ⟨w.heap.size, 3, none⟩ = some (.slice B1 m1 d1)) ∧
    Src w.heap.size (w.heap.size + 2) W2 A1 n1 c1 (dg 4294967296 p.num.natAbs) ∧ Src w.heap.size (w.heap.size + 2) W2 B1 m1 d1 (dg 4294967296 p.den)) ?_ ?_
  · refine ⟨(((hH1.reset (p := ⟨w.heap.size, 0, none⟩) (Nat.le_refl _) _).reset (p := ⟨w.heap.size, 1, none⟩) (Nat.le_refl _) _).reset (p := ⟨w.heap.size, 2, none⟩) (Nat.le_refl _) _).reset (p := ⟨w.heap.size, 3, none⟩) (Nat.le_refl _) _, ⟨K0.out, K1.out, K2.out, K3.out⟩, ?_, ?_⟩
    · exact ((((u1.setCell (Nat.le_refl _) hsz _).setCell (Nat.le_refl _) hsz _).setCell (Nat.le_refl _) hsz _).setCell (Nat.le_refl _) hsz _).base_le z0
    exact ((((u2.setCell (Nat.le_refl _) hsz _).setCell (Nat.le_refl _) hsz _).setCell (Nat.le_refl _) hsz _).setCell (Nat.le_refl _) hsz _).base_le z0
  clear u1 u2 hH1 hb1 q0 q1 q2 q3 f4 f5 f6 f7 K0 K1 K2 K3 z1 hH0 p0 p1 p2 p3 f0 f1 f2 f3
  rintro W2 ⟨hH4, ⟨p0, p1, p2, p3⟩, s1, s2⟩
  have u1 := (s1.drew).u32 hH4.bel.size
  have u2 := (s2.drew).u32 hH4.bel.size
  have j0 : w.heap.size < W2.heap.size := by have := hH4.2.1; omega
  go_region_held3 (fun w' => Hld (w.heap.size) w (W2.heap.size) (w.heap.size + 1) 4 W2 w') (repeat (first | assumption | exact hH0 | exact hH4 | refine Hld.drew ?_ | refine Hld.setCell ?_ (by first | (left; simp; done) | (right; simp; done) | (right; simp; omega) | (right; omega)) _ | refine Hld.alloc ?_ _))
    (first
      | (go_at_call 112
         refine Hld.from (s := w.heap.size) (w := w) (B := W2.heap.size) (g := w.heap.size + 1) (k := 4) (W0 := W2) ?_ (fun hH => ?_)
         · (repeat (first | assumption | exact hH0 | exact hH4 | refine Hld.drew ?_ | refine Hld.setCell ?_ (by first | (left; simp; done) | (right; simp; done) | (right; simp; omega) | (right; omega)) _ | refine Hld.alloc ?_ _))
         refine (big_Neg (sgz p.num) A1 n1 c1 _ _ u1 (by omega)).mono ?_
         rintro e w3 ⟨A3, n3, c3, rfl, g3, hb3⟩
         rw [zin_dg] at g3
         rw [zin_dg]
         (try have hap := (Apart.of g4 g3 (Nat.le_refl _)).symm)
         (try have g4 := g4.over hb3)
         (try have u2 := u2.now hb3)
         have g3 := g3.base_le hH.base
         have hHZ := hH.call hb3
         obtain ⟨v0, hv0⟩ := hHZ.res 0 (by omega)
         obtain ⟨v1, hv1⟩ := hHZ.res 1 (by omega)
         obtain ⟨v2, hv2⟩ := hHZ.res 2 (by omega)
         obtain ⟨v3, hv3⟩ := hHZ.res 3 (by omega)
         have hf0 := hHZ.fro 0 (by omega)
         have hf1 := hHZ.fro 1 (by omega)
         have hf2 := hHZ.fro 2 (by omega)
         have hf3 := hHZ.fro 3 (by omega))
      | (go_at_call 113
         refine Hld.from (s := w.heap.size) (w := w) (B := W2.heap.size) (g := w.heap.size + 1) (k := 4) (W0 := W2) ?_ (fun hH => ?_)
         · (repeat (first | assumption | exact hH0 | exact hH4 | refine Hld.drew ?_ | refine Hld.setCell ?_ (by first | (left; simp; done) | (right; simp; done) | (right; simp; omega) | (right; omega)) _ | refine Hld.alloc ?_ _))
         refine (big_Abs false B1 m1 d1 _ _ u2 (by omega)).mono ?_
         rintro e w4 ⟨A4, n4, c4, rfl, g4, hb4⟩
         rw [zin_nat, Int.natAbs_natCast, Int.natAbs_natCast] at g4
         rw [zin_nat, Int.natAbs_natCast, sgz_den]
         (try have hap := Apart.of g3 g4 (Nat.le_refl _))
         (try have g3 := g3.over hb4)
         (try have u1 := u1.now hb4)
         have g4 := g4.base_le hH.base
         have hHZ := hH.call hb4
         obtain ⟨v0, hv0⟩ := hHZ.res 0 (by omega)
         obtain ⟨v1, hv1⟩ := hHZ.res 1 (by omega)
         obtain ⟨v2, hv2⟩ := hHZ.res 2 (by omega)
         obtain ⟨v3, hv3⟩ := hHZ.res 3 (by omega)
         have hf0 := hHZ.fro 0 (by omega)
         have hf1 := hHZ.fro 1 (by omega)
         have hf2 := hHZ.fro 2 (by omega)
         have hf3 := hHZ.fro 3 (by omega)))
  all_goals
    go_wp2_with fail
    refine bodyPost_ret (v := .agg #[.bool (sgz (-p).num), .slice A3 n3 c3, .bool false, .slice A4 n4 c4]) (by simp [results, Tryz.results72, go_sem, World.cell?_setCell_other, hv0, hv1, hv2, hv3, Rat.neg_num]) rfl ⟨A3, n3, c3, A4, n4, c4, rfl, ?_, ?_, hap, ?_⟩
    · rw [Rat.neg_num]
      exact Own.base_le ((((g3.setLow (by simp) _).setLow (by simp) _).setLow (by simp) _).setLow (by simp) _) (by omega)
    · rw [Rat.neg_den]
      exact Own.base_le ((((g4.setLow (by simp) _).setLow (by simp) _).setLow (by simp) _).setLow (by simp) _) (by omega)
    (have hb := hHZ.bel; (repeat (first | exact Below.refl _ _ | assumption | refine Below.drew ?_ | refine Below.setCell ?_ (by first | exact Nat.le_refl _ | (simp; done) | (simp; omega) | omega) _ | refine Below.alloc ?_ (by first | exact Nat.le_refl _ | exact Below.size (by assumption) | (simp; done) | (simp; omega) | omega) _)))
set_option maxHeartbeats 2000000 in
theorem rat_Sub (na nb na' nb' : Bool) (A B A' B' : Option Addr) (n m n' m' c d c' d' : Nat) (xs ys xs' ys' : List Nat) (w : World) (ha : U32 w w.heap.size A n c xs) (hb : U32 w w.heap.size B m d ys) (ha' : U32 w w.heap.size A' n' c' xs') (hb' : U32 w w.heap.size B' m' d' ys') (hn : n ≤ 68719476736) (hm : m ≤ 68719476736) (hn' : n' ≤ 68719476736) (hm' : m' ≤ 68719476736) :
    Calls Tryz.prog 71 #[.agg #[.bool na, .slice A n c, .bool nb, .slice B m d], .agg #[.bool na', .slice A' n' c', .bool nb', .slice B' m' d']] w (OutQ (qin na xs nb ys - qin na' xs' nb' ys') w) := by
  have hz := qin_sz (na := na) (nb := nb) ha.lim hb.lim (L := 68719476736) (by rw [ha.len]; exact hn) (by rw [hb.len]; exact hm) (by omega)
  have hz' := qin_sz (na := na') (nb := nb') ha'.lim hb'.lim (L := 68719476736) (by rw [ha'.len]; exact hn') (by rw [hb'.len]; exact hm') (by omega)
  obtain ⟨p, hp⟩ : ∃ p, qin na xs nb ys = p := ⟨_, rfl⟩
  obtain ⟨q, hq⟩ : ∃ q, qin na' xs' nb' ys' = q := ⟨_, rfl⟩
  rw [hp] at hz ⊢
  rw [hq] at hz' ⊢
  have HP := Lib.hid hp
  have HQ := Lib.hid hq
  clear hp hq
  go_enter Tryz.func71, Tryz.ntmps71
  go_upto_region 1 with fail
  refine at_wp (fun W0 => Hld (w.heap.size) w (w.heap.size + 2) (w.heap.size + 2) 4 W0 W0 ∧ W0.cell? ⟨w.heap.size, 0, none⟩ = some (.bool na) ∧ W0.cell? ⟨w.heap.size, 1, none⟩ = some (.slice A n c) ∧ W0.cell? ⟨w.heap.size, 2, none⟩ = some (.bool nb) ∧ W0.cell? ⟨w.heap.size, 3, none⟩ = some (.slice B m d) ∧ W0.cell? ⟨w.heap.size + 1, 0, none⟩ = some (.bool na') ∧ W0.cell? ⟨w.heap.size + 1, 1, none⟩ = some (.slice A' n' c') ∧ W0.cell? ⟨w.heap.size + 1, 2, none⟩ = some (.bool nb') ∧ W0.cell? ⟨w.heap.size + 1, 3, none⟩ = some (.slice B' m' d')) ?_ ?_
  · refine ⟨⟨by (repeat (first | exact Below.refl _ _ | assumption | refine Below.drew ?_ | refine Below.setCell ?_ (by first | exact Nat.le_refl _ | (simp; done) | (simp; omega) | omega) _ | refine Below.alloc ?_ (by first | exact Nat.le_refl _ | exact Below.size (by assumption) | (simp; done) | (simp; omega) | omega) _)), by simp, by simp, by omega, by omega, fun _ _ _ _ => rfl, fun o ho => ?_⟩, ?_, ?_, ?_, ?_, ?_, ?_, ?_, ?_⟩
    · match o, ho with
      | 0, _ => constructor <;> go_simp
      | 1, _ => constructor <;> go_simp
      | 2, _ => constructor <;> go_simp
      | 3, _ => constructor <;> go_simp
    · go_simp
    · go_simp
    · go_simp
    · go_simp
    · go_simp
    · go_simp
    · go_simp
    go_simp
  rintro W0 ⟨hH0, p0, p1, p2, p3, p4, p5, p6, p7⟩
  go_wp2_with fail
  go_region_held3 (fun w' => Hld (w.heap.size) w (w.heap.size + 2) (w.heap.size + 2) 4 W0 w') (repeat (first | assumption | exact hH0 | exact hH4 | refine Hld.drew ?_ | refine Hld.setCell ?_ (by first | (left; simp; done) | (right; simp; done) | (right; simp; omega) | (right; omega)) _ | refine Hld.alloc ?_ _))
    (first
      | (go_at_call 75
         refine Hld.from (s := w.heap.size) (w := w) (B := w.heap.size + 2) (g := w.heap.size + 2) (k := 4) (W0 := W0) ?_ (fun hH => ?_)
         · (repeat (first | assumption | exact hH0 | exact hH4 | refine Hld.drew ?_ | refine Hld.setCell ?_ (by first | (left; simp; done) | (right; simp; done) | (right; simp; omega) | (right; omega)) _ | refine Hld.alloc ?_ _))
         refine (rat_right na nb A B n m c d _ _ _ (ha.now hH.bel) (hb.now hH.bel) (by omega) (by omega)).mono ?_
         rw [HP.out]
         rintro e wr1 ⟨Ar1, nr1, cr1, Br1, mr1, dr1, rfl, ur1, vr1, hbr1⟩
         (try have ur2 := ur2.now hbr1)
         (try have vr2 := vr2.now hbr1)
         have hHr1 := hH.call hbr1
         have lr1 := u32_len ur1 hz.1
         have kr1 := u32_len vr1 hz.2)
      | (go_at_call 72
         refine Hld.from (s := w.heap.size) (w := w) (B := w.heap.size + 2) (g := w.heap.size + 2) (k := 4) (W0 := W0) ?_ (fun hH => ?_)
         · (repeat (first | assumption | exact hH0 | exact hH4 | refine Hld.drew ?_ | refine Hld.setCell ?_ (by first | (left; simp; done) | (right; simp; done) | (right; simp; omega) | (right; omega)) _ | refine Hld.alloc ?_ _))
         refine (rat_Neg na' nb' A' B' n' m' c' d' _ _ _ (ha'.now hH.bel) (hb'.now hH.bel) (by omega) (by omega)).mono ?_
         rw [HQ.out]
         rintro e wr2 ⟨Ar2, nr2, cr2, Br2, mr2, dr2, rfl, or2, pr2, hapr, hbr2⟩
         have ur2 := or2.u32
         have vr2 := pr2.u32
         (try have ur1 := ur1.now hbr2)
         (try have vr1 := vr1.now hbr2)
         have hHr2 := hH.call hbr2
         have lr2 := u32_len ur2 (by rw [Rat.neg_num, Int.natAbs_neg]; exact hz'.1)
         have kr2 := u32_len vr2 (by rw [Rat.neg_den]; exact hz'.2))
      | (go_at_call 111
         refine Hld.from (s := w.heap.size) (w := w) (B := w.heap.size + 2) (g := w.heap.size + 2) (k := 4) (W0 := W0) ?_ (fun hH => ?_)
         · (repeat (first | assumption | exact hH0 | exact hH4 | refine Hld.drew ?_ | refine Hld.setCell ?_ (by first | (left; simp; done) | (right; simp; done) | (right; simp; omega) | (right; omega)) _ | refine Hld.alloc ?_ _))
         refine (rat_add p (-q) Ar1 Br1 Ar2 Br2 nr1 mr1 nr2 mr2 cr1 dr1 cr2 dr2 _ ur1 vr1 ur2 vr2 lr1 kr1 lr2 kr2).mono ?_
         rintro e w3 ⟨A3, n3, c3, A4, n4, c4, rfl, g3, g4, hap, hb3⟩
         rw [← Rat.sub_eq_add_neg] at g3 g4
         rw [← Rat.sub_eq_add_neg]
         have hHZ := hH.call hb3
         have g3 := g3.base_le hH.base
         have g4 := g4.base_le hH.base
         obtain ⟨v0, hv0⟩ := hHZ.res 0 (by omega)
         obtain ⟨v1, hv1⟩ := hHZ.res 1 (by omega)
         obtain ⟨v2, hv2⟩ := hHZ.res 2 (by omega)
         obtain ⟨v3, hv3⟩ := hHZ.res 3 (by omega)
         have hf0 := hHZ.fro 0 (by omega)
         have hf1 := hHZ.fro 1 (by omega)
         have hf2 := hHZ.fro 2 (by omega)
         have hf3 := hHZ.fro 3 (by omega)))
  all_goals
    go_wp2_with fail
    refine bodyPost_ret (v := .agg #[.bool (sgz (p - q).num), .slice A3 n3 c3, .bool false, .slice A4 n4 c4]) (by simp [results, Tryz.results71, go_sem, World.cell?_setCell_other, hv0, hv1, hv2, hv3]) rfl ⟨A3, n3, c3, A4, n4, c4, rfl, ?_, ?_, hap, ?_⟩
    · exact Own.base_le ((((g3.setLow (by simp) _).setLow (by simp) _).setLow (by simp) _).setLow (by simp) _) (by omega)
    · exact Own.base_le ((((g4.setLow (by simp) _).setLow (by simp) _).setLow (by simp) _).setLow (by simp) _) (by omega)
    (have hb := hHZ.bel; (repeat (first | exact Below.refl _ _ | assumption | refine Below.drew ?_ | refine Below.setCell ?_ (by first | exact Nat.le_refl _ | (simp; done) | (simp; omega) | omega) _ | refine Below.alloc ?_ (by first | exact Nat.le_refl _ | exact Below.size (by assumption) | (simp; done) | (simp; omega) | omega) _)))
theorem field_rnum (w : World) (s s' : Bool) (A B : Option Addr) (n c m d : Nat) : (Instr.field 26 (.agg #[.bool s, .slice A n c, .bool s', .slice B m d]) 0).run Tryz.prog w = .ok (.agg #[.bool s, .slice A n c]) w := by kernel_rfl
set_option maxHeartbeats 2000000 in
theorem rat_Sign (na nb : Bool) (A B : Option Addr) (n m c d : Nat) (xs ys : List Nat) (w : World) (ha : U32 w w.heap.size A n c xs) (hb : U32 w w.heap.size B m d ys) (hn : n ≤ 68719476736) (hm : m ≤ 68719476736) :
  Calls Tryz.prog 80 #[.agg #[.bool na, .slice A n c, .bool nb, .slice B m d]] w fun e w' => e = .returned (.int .i64 (qin na xs nb ys).num.sign) ∧ Below w.heap.size w w' := by
 have fr := field_rnum
 go_enter Tryz.func80, Tryz.ntmps80
 go_upto_region 1 with fail
 refine at_wp (fun W0 => Hld0 (w.heap.size) w (w.heap.size + 1) W0 W0 ∧ W0.cell? ⟨w.heap.size, 0, none⟩ = some (.bool na) ∧ W0.cell? ⟨w.heap.size, 1, none⟩ = some (.slice A n c) ∧ W0.cell? ⟨w.heap.size, 2, none⟩ = some (.bool nb) ∧ W0.cell? ⟨w.heap.size, 3, none⟩ = some (.slice B m d)) ?_ ?_
 ·refine ⟨⟨by (repeat (first | exact Below.refl _ _ | assumption | refine Below.drew ?_ | refine Below.setCell ?_ (by first | exact Nat.le_refl _ | (simp; done) | (simp; omega) | omega) _ | refine Below.alloc ?_ (by first | exact Nat.le_refl _ | exact Below.size (by assumption) | (simp; done) | (simp; omega) | omega) _)), by simp, by omega, fun _ _ _ => rfl⟩, ?_, ?_, ?_, ?_⟩ <;> go_simp
 rintro W0 ⟨hH0, p0, p1, p2, p3⟩
 go_wp2_with fail
 refine (rat_right na nb A B n m c d xs ys _ (ha.now hH0.bel) (hb.now hH0.bel) (by omega) (by omega)).mono ?_
 rintro e w1 ⟨A1, n1, c1, B1, m1, d1, rfl, u1, u2, hb1⟩
 have hH1 := hH0.call hb1
 go_wp2_with fail
 refine (big_Sign _ A1 n1 c1 _ _ u1).mono ?_
 rintro e w2 ⟨rfl, hb2⟩
 rw [zin_dg]
 have hH2 := hH1.call hb2
 go_wp2_with fail
 go_ret
 exact ⟨rfl, hH2.bel⟩
structure Lv where
 A : Option Addr
 n : Nat
 c : Nat
structure Zv where
 s : Bool
 A : Option Addr
 n : Nat
 c : Nat
structure Rv where
 s : Bool
 A : Option Addr
 n : Nat
 c : Nat
 t : Bool
 B : Option Addr
 m : Nat
 d : Nat
def Zv.cs (z : Zv) : List Value := [.bool z.s, .slice z.A z.n z.c]
def Rv.cs (r : Rv) : List Value := [.bool r.s, .slice r.A r.n r.c, .bool r.t, .slice r.B r.m r.d]
structure LimR (W : World) (N : Nat → Prop) (A : Option Addr) (n c : Nat) (xs : List Nat) : Prop where
 len : xs.length = n
 cap : n ≤ c
 big : c ≤ 9223372036854775807
 lim : Lim 4294967296 xs
 cell : 0 < n → ∃ ad, A = some ad ∧ N ad.block ∧ ∀ k u, (c32 xs)[k]? = some u → W.cell? (ad.add k) = some u
section
variable {W W' : World} {N N' : Nat → Prop} {A : Option Addr} {n c : Nat} {xs : List Nat}
theorem LimR.mono (h : LimR W N A n c xs) (hN : ∀ b, N b → N' b) : LimR W N' A n c xs :=
 ⟨h.len, h.cap, h.big, h.lim, fun hn => let ⟨ad, e, hb, hc⟩ := h.cell hn; ⟨ad, e, hN _ hb, hc⟩⟩
theorem cell_block {ad : Addr} (h : W'.heap[ad.block]? = W.heap[ad.block]?) (k : Nat) : W'.cell? (ad.add k) = W.cell? (ad.add k) := World.cell?_of_block (w := W) (by rw [block_add]; exact h)
theorem LimR.keep (h : LimR W N A n c xs) (hN : ∀ b, N b → W'.heap[b]? = W.heap[b]?) : LimR W' N A n c xs :=
 ⟨h.len, h.cap, h.big, h.lim, fun hn => let ⟨ad, e, hb, hc⟩ := h.cell hn; ⟨ad, e, hb, fun k u hu => (cell_block (hN _ hb) k).trans (hc k u hu)⟩⟩
theorem LimR.u32 {B : Nat} (h : LimR W N A n c xs) (hN : ∀ b, N b → b < B) : U32 W B A n c xs :=
 ⟨⟨by rw [c32_length, h.len, Nat.mul_one], h.cap, h.big, fun hn => let ⟨ad, e, hb, hc⟩ := h.cell hn; ⟨ad, e, hN _ hb, hc⟩⟩, h.lim⟩
end
theorem Own.keep {t : TypeId} {w w' : World} {base n c : Nat} {A : Option Addr} {xs : List Nat} (h : Own t w base A n c xs) (hk : ∀ b ∈ (Value.slice A n c).ownBlock.toList, w'.heap[b]? = w.heap[b]?) : Own t w' base A n c xs := by
 refine ⟨⟨h.row.1, ?_⟩, h.lim⟩
 rcases h.row.2 with h2 | ⟨g, cap, cur, hv, hb, hh, rest⟩
 ·exact .inl h2
 exact .inr ⟨g, cap, cur, hv, hb, (hk g (by rw [hv]; simp [Value.ownBlock])).trans hh, rest⟩
def ratS (r : Rv) (xs ys : List Nat) : Sh where
 p := fun W N => LimR W N r.A r.n r.c xs ∧ LimR W N r.B r.m r.d ys
 mono := fun _ _ _ hN h => ⟨h.1.mono hN, h.2.mono hN⟩
 keep := fun _ _ _ hN h => ⟨h.1.keep hN, h.2.keep hN⟩
def isq (r : Rv) (p : Rat) : Sh where
 p := fun W N => ∃ xs ys, (LimR W N r.A r.n r.c xs ∧ LimR W N r.B r.m r.d ys) ∧ qin r.s xs r.t ys = p ∧ r.n ≤ 68719476736 ∧ r.m ≤ 68719476736
 mono := fun _ _ _ hN ⟨xs, ys, h, e⟩ => ⟨xs, ys, ⟨h.1.mono hN, h.2.mono hN⟩, e⟩
 keep := fun _ _ _ hN ⟨xs, ys, h, e⟩ => ⟨xs, ys, ⟨h.1.keep hN, h.2.keep hN⟩, e⟩
def cq (r : Rv) (q : Rat) : Sh where
 p := fun W N => (r.s = sgz q.num ∧ r.t = false) ∧ LimR W N r.A r.n r.c (dg 4294967296 q.num.natAbs) ∧ LimR W N r.B r.m r.d (dg 4294967296 q.den)
 mono := fun _ _ _ hN h => ⟨h.1, h.2.1.mono hN, h.2.2.mono hN⟩
 keep := fun _ _ _ hN h => ⟨h.1, h.2.1.keep hN, h.2.2.keep hN⟩
def ownq (t : TypeId) (r : Rv) (q : Rat) : Res where
 S := (Value.slice r.A r.n r.c).ownBlock.toList ++ (Value.slice r.B r.m r.d).ownBlock.toList
 φ := fun W => (r.s = sgz q.num ∧ r.t = false) ∧ Own t W 0 r.A r.n r.c (dg 4294967296 q.num.natAbs) ∧ Own t W 0 r.B r.m r.d (dg 4294967296 q.den)
 loc := fun W W' h hφ => ⟨hφ.1, hφ.2.1.keep fun b hb => h b (List.mem_append_left _ hb), hφ.2.2.keep fun b hb => h b (List.mem_append_right _ hb)⟩
theorem rightQ_dg (q : Rat) : rightQ (sgz q.num) (dg 4294967296 q.num.natAbs) false (dg 4294967296 q.den) = true := by
 unfold rightQ
 have h1 := rightI_dg q.num
 have h2 := rightI_dg (q.den : Int)
 have h3 := zin_dg q.num
 rw [sgz_den, Int.natAbs_natCast] at h2
 have h4 := zin_nat q.den
 rw [h1, h2, h3, h4]
 have hp := q.den_pos
 have hg : Int.gcd q.num q.den = 1 := q.reduced
 simp [hg, hp]
theorem qin_dg (q : Rat) : qin (sgz q.num) (dg 4294967296 q.num.natAbs) false (dg 4294967296 q.den) = q := by
 unfold qin
 rw [rightQ_dg, zin_dg, zin_nat]
 simp only [if_true]
 exact Rat.num_divInt_den q
theorem isq_mono {r : Rv} {q : Rat} {W : World} {N N' : Nat → Prop} (h : (isq r q).p W N) (hN : ∀ b, N b → N' b) : (isq r q).p W N' := (isq r q).mono W N N' hN h
def NewQ (t : TypeId) (q : Rat) (w : World) (e : Ending) (w' : World) : Prop :=
 ∃ r : Rv, e = .returned (.agg r.cs.toArray) ∧ (ownq t r q).φ w' ∧ (∀ b ∈ (ownq t r q).S, w.heap.size ≤ b ∧ b < w'.heap.size) ∧ (ownq t r q).S.Nodup ∧ Below w.heap.size w w'
theorem Own.blk {t : TypeId} {w : World} {base n c : Nat} {A : Option Addr} {xs : List Nat} (h : Own t w base A n c xs) : ∀ b ∈ (Value.slice A n c).ownBlock.toList, base ≤ b ∧ b < w.heap.size := by
 intro b hb
 rcases h.row.2 with ⟨h2, _⟩ | ⟨g, cap, cur, hv, hb', hh, rest⟩
 ·rw [h2] at hb
  simp [Value.ownBlock] at hb
 rw [hv] at hb
 simp [Value.ownBlock] at hb
 subst hb
 exact ⟨hb', (Array.getElem?_eq_some_iff.1 hh).1⟩
theorem newq_of {q : Rat} {w : World} {e : Ending} {w' : World} (h : OutQ q w e w') : NewQ 109 q w e w' := by
 obtain ⟨A, n, c, B, m, d, rfl, h1, h2, hap, hb⟩ := h
 refine ⟨⟨sgz q.num, A, n, c, false, B, m, d⟩, rfl, ⟨⟨rfl, rfl⟩, h1.base_le (Nat.zero_le _), h2.base_le (Nat.zero_le _)⟩, ?_, ?_, hb⟩
 ·intro b hbm
  rcases List.mem_append.1 hbm with hbm | hbm
  ·exact h1.blk b hbm
  exact h2.blk b hbm
 show (_ ++ _ : List Nat).Nodup
 rw [List.nodup_append]
 refine ⟨by cases (Value.slice A n c).ownBlock <;> simp, by cases (Value.slice B m d).ownBlock <;> simp, fun x hx y hy e => ?_⟩
 subst e
 rcases A with _ | a
 ·simp [Value.ownBlock] at hx
 rcases B with _ | b
 ·simp [Value.ownBlock] at hy
 simp [Value.ownBlock] at hx hy
 exact hap a b rfl rfl (by rw [← hx, ← hy])
def cz (z : Zv) (k : Int) : Sh where
 p := fun W N => z.s = sgz k ∧ LimR W N z.A z.n z.c (dg 4294967296 k.natAbs)
 mono := fun _ _ _ hN h => ⟨h.1, h.2.mono hN⟩
 keep := fun _ _ _ hN h => ⟨h.1, h.2.keep hN⟩
def ownz (t : TypeId) (z : Zv) (k : Int) : Res where
 S := (Value.slice z.A z.n z.c).ownBlock.toList
 φ := fun W => z.s = sgz k ∧ Own t W 0 z.A z.n z.c (dg 4294967296 k.natAbs)
 loc := fun W W' h hφ => ⟨hφ.1, hφ.2.keep h⟩
def NewZ (t : TypeId) (k : Int) (w : World) (e : Ending) (w' : World) : Prop :=
 ∃ z : Zv, e = .returned (.agg z.cs.toArray) ∧ (ownz t z k).φ w' ∧ (∀ b ∈ (ownz t z k).S, w.heap.size ≤ b ∧ b < w'.heap.size) ∧ (ownz t z k).S.Nodup ∧ Below w.heap.size w w'
theorem newz_of {k : Int} {w : World} {e : Ending} {w' : World} (h : OutZ k w e w') : NewZ 109 k w e w' := by
 obtain ⟨A, n, c, rfl, h1, hb⟩ := h
 refine ⟨⟨sgz k, A, n, c⟩, rfl, ⟨rfl, h1.base_le (Nat.zero_le _)⟩, fun b hbm => h1.blk b hbm, ?_, hb⟩
 show ((Value.slice A n c).ownBlock.toList).Nodup
 cases (Value.slice A n c).ownBlock <;> simp
def isz (z : Zv) (k : Int) : Sh where
 p := fun W N => ∃ xs, LimR W N z.A z.n z.c xs ∧ zin z.s xs = k ∧ z.n ≤ 549755813888
 mono := fun _ _ _ hN ⟨xs, h, e⟩ => ⟨xs, h.mono hN, e⟩
 keep := fun _ _ _ hN ⟨xs, h, e⟩ => ⟨xs, h.keep hN, e⟩
def SzI (L : Nat) (k : Int) : Prop := (dg 4294967296 k.natAbs).length ≤ L
theorem szden {L : Nat} {q : Rat} (h : Sz L q) : SzI L (q.den : Int) := by
 unfold SzI
 rw [Int.natAbs_natCast]
 exact h.2
section
variable {w : World} {r r' : Rv} {p q : Rat}
theorem k_rat_one : Calls Tryz.prog 110 [].toArray w (NewZ 109 1 w) := (rat_one w).mono fun _ _ => newz_of
theorem k_rat_Add (h : (isq r p).p w (· < w.heap.size)) (h' : (isq r' q).p w (· < w.heap.size)) : Calls Tryz.prog 70 [.agg r.cs.toArray, .agg r'.cs.toArray].toArray w (NewQ 109 (p + q) w) := by
 obtain ⟨xs, ys, ⟨h1, h2⟩, rfl, h3, h4⟩ := h
 obtain ⟨xs', ys', ⟨h1', h2'⟩, rfl, h3', h4'⟩ := h'
 exact (rat_Add _ _ _ _ _ _ _ _ _ _ _ _ _ _ _ _ _ _ _ _ w (h1.u32 fun _ h => h) (h2.u32 fun _ h => h) (h1'.u32 fun _ h => h) (h2'.u32 fun _ h => h) h3 h4 h3' h4').mono fun _ _ => newq_of
theorem k_rat_Sub (h : (isq r p).p w (· < w.heap.size)) (h' : (isq r' q).p w (· < w.heap.size)) : Calls Tryz.prog 71 [.agg r.cs.toArray, .agg r'.cs.toArray].toArray w (NewQ 109 (p - q) w) := by
 obtain ⟨xs, ys, ⟨h1, h2⟩, rfl, h3, h4⟩ := h
 obtain ⟨xs', ys', ⟨h1', h2'⟩, rfl, h3', h4'⟩ := h'
 exact (rat_Sub _ _ _ _ _ _ _ _ _ _ _ _ _ _ _ _ _ _ _ _ w (h1.u32 fun _ h => h) (h2.u32 fun _ h => h) (h1'.u32 fun _ h => h) (h2'.u32 fun _ h => h) h3 h4 h3' h4').mono fun _ _ => newq_of
theorem k_rat_Neg (h : (isq r p).p w (· < w.heap.size)) : Calls Tryz.prog 72 [.agg r.cs.toArray].toArray w (NewQ 109 (-p) w) := by
 obtain ⟨xs, ys, ⟨h1, h2⟩, rfl, h3, h4⟩ := h
 exact (rat_Neg _ _ _ _ _ _ _ _ _ _ w (h1.u32 fun _ h => h) (h2.u32 fun _ h => h) h3 h4).mono fun _ _ => newq_of
theorem k_rat_Sign (h : (isq r p).p w (· < w.heap.size)) : Calls Tryz.prog 80 [.agg r.cs.toArray].toArray w (fun e w' => e = .returned (.int .i64 p.num.sign) ∧ Below w.heap.size w w') := by
 obtain ⟨xs, ys, ⟨h1, h2⟩, rfl, h3, h4⟩ := h
 exact rat_Sign _ _ _ _ _ _ _ _ _ _ w (h1.u32 fun _ h => h) (h2.u32 fun _ h => h) h3 h4
theorem k_rat_Whole (z : Int) (h1 : -9223372036854775808 ≤ z) (h2 : z ≤ 9223372036854775807) : Calls Tryz.prog 69 [.int .i64 z].toArray w (NewQ 109 (z : Rat) w) :=
 (rat_Whole z w h1 h2).mono fun _ _ => newq_of
theorem k_rat_Right {xs ys : List Nat} (h : (ratS r xs ys).p w (· < w.heap.size)) (h1 : xs.length ≤ 549755813888) (h2 : ys.length ≤ 549755813888) : Calls Tryz.prog 79 [.agg r.cs.toArray].toArray w (fun e w' => e = .returned (.bool (rightQ r.s xs r.t ys)) ∧ Below w.heap.size w w') :=
 rat_Right _ _ _ _ _ _ _ _ _ _ w (h.1.u32 fun _ h => h) (h.2.u32 fun _ h => h) (by rw [← h.1.len]; exact h1) (by rw [← h.2.len]; exact h2)
end
section
variable {w : World} {z z' : Zv} {k k' : Int}
theorem k_big_Mul (h : (isz z k).p w (· < w.heap.size)) (h' : (isz z' k').p w (· < w.heap.size)) : Calls Tryz.prog 116 [.agg z.cs.toArray, .agg z'.cs.toArray].toArray w (NewZ 109 (k * k') w) := by
 obtain ⟨xs, h1, rfl, h3⟩ := h
 obtain ⟨xs', h1', rfl, h3'⟩ := h'
 exact (big_Mul _ _ _ _ _ _ _ _ _ _ w (h1.u32 fun _ h => h) (h1'.u32 fun _ h => h) h3 h3').mono fun _ _ => newz_of
theorem k_big_Cmp (h : (isz z k).p w (· < w.heap.size)) (h' : (isz z' k').p w (· < w.heap.size)) : Calls Tryz.prog 76 [.agg z.cs.toArray, .agg z'.cs.toArray].toArray w (fun e w' => e = .returned (.int .i64 (k - k').sign) ∧ Below w.heap.size w w') := by
 obtain ⟨xs, h1, rfl, h3⟩ := h
 obtain ⟨xs', h1', rfl, h3'⟩ := h'
 exact big_Cmp _ _ _ _ _ _ _ _ _ _ w (h1.u32 fun _ h => h) (h1'.u32 fun _ h => h) (by omega) (by omega)
end
theorem mulz_sz {L M : Nat} {a b : Int} (ha : SzI L a) (hb : SzI M b) : SzI (L + M) (a * b) := Nat.le_trans (dg_mulz_len a b) (Nat.add_le_add ha hb)
theorem sign_divInt {a b : Int} (hb : 0 < b) : (Rat.divInt a b).num.sign = a.sign := by
 rw [(fdiv_gcd (N := a) hb).1]
 have hg : 0 < Int.gcd a b := Nat.gcd_pos_of_pos_right _ (by omega)
 have hd : ((Int.gcd a b : Nat) : Int) ∣ a := Int.gcd_dvd_left ..
 obtain ⟨k, hk⟩ := hd
 generalize Int.gcd a b = g at *
 subst hk
 have h1 : ((g : Int) * k).fdiv g = k := by
  rw [Int.fdiv_eq_ediv_of_nonneg _ (by omega)]
  exact Int.mul_ediv_cancel_left k (by omega)
 rw [h1, Int.sign_mul, Int.sign_eq_one_of_pos (show (0 : Int) < g by omega), Int.one_mul]
theorem cmp_cross (p q : Rat) : (p.num * (q.den : Int) - q.num * (p.den : Int)).sign = (p - q).num.sign := by
 have h := add_other p (-q)
 rw [Rat.neg_num, Rat.neg_den, Int.neg_mul, ← Int.sub_eq_add_neg, ← Rat.sub_eq_add_neg] at h
 rw [← h, sign_divInt]
 exact Int.mul_pos (by have := p.den_pos; omega) (by have := q.den_pos; omega)
theorem num_lt0 {a : Rat} : a.num < 0 ↔ a < 0 := by
 rw [Rat.lt_iff]
 simp
theorem num_pos0 {a : Rat} : 0 < a.num ↔ 0 < a := by
 rw [Rat.lt_iff]
 simp
theorem sub_sign_self (p q : Rat) : (p - q).num.sign = if p < q then -1 else if p = q then 0 else 1 := by
 split
 ·rename_i h
  have h1 : p - q < 0 := by grind
  exact Int.sign_eq_neg_one_of_neg (num_lt0.2 h1)
 split
 ·rename_i h
  subst h
  rw [show p - p = 0 by grind]
  rfl
 rename_i h1 h2
 have h3 : 0 < p - q := by grind
 exact Int.sign_eq_one_of_pos (num_pos0.2 h3)
theorem Sz.mono {L M : Nat} {q : Rat} (h : Sz L q) (hL : L ≤ M) : Sz M q := ⟨Nat.le_trans h.1 hL, Nat.le_trans h.2 hL⟩
theorem divInt_sz {a b : Int} {L M : Nat} (hb : 0 < b) (ha : SzI L a) (hb' : SzI M b) : (dg 4294967296 (Rat.divInt a b).num.natAbs).length ≤ L ∧ (dg 4294967296 (Rat.divInt a b).den).length ≤ M := by
 have h1 := (fdiv_gcd (N := a) hb)
 have hg : 0 < Int.gcd a b := Nat.gcd_pos_of_pos_right _ (by omega)
 constructor
 ·refine Nat.le_trans (dg_length_mono (by omega) ?_) ha
  rw [h1.1]
  have hd : ((Int.gcd a b : Nat) : Int) ∣ a := Int.gcd_dvd_left ..
  obtain ⟨k, hk⟩ := hd
  generalize Int.gcd a b = g at *
  subst hk
  rw [Int.fdiv_eq_ediv_of_nonneg _ (by omega), Int.mul_ediv_cancel_left k (by omega), Int.natAbs_mul]
  exact Nat.le_mul_of_pos_left _ (by omega)
 refine Nat.le_trans (dg_length_mono (by omega) ?_) hb'
 have h2 : ((Rat.divInt a b).den : Int) ≤ b := by
  rw [h1.2, Int.fdiv_eq_ediv_of_nonneg _ (by omega)]
  exact Int.ediv_le_self _ (by omega)
 omega
theorem add_sz {L M : Nat} {p q : Rat} (hp : Sz L p) (hq : Sz M q) : Sz (L + M + 1) (p + q) := by
 rw [← add_other p q]
 have h1 := mulz_sz hp.1 (szden hq)
 have h2 := mulz_sz hq.1 (szden hp)
 have h3 := mulz_sz (szden hp) (szden hq)
 have h4 : SzI (L + M + 1) (p.num * q.den + q.num * p.den) := dg_addz_len _ _ h1 (Nat.le_trans h2 (by omega))
 have h5 := divInt_sz (Int.mul_pos (show (0 : Int) < p.den by have := p.den_pos; omega) (show (0 : Int) < q.den by have := q.den_pos; omega)) h4 h3
 exact ⟨h5.1, Nat.le_trans h5.2 (by omega)⟩
theorem neg_sz {L : Nat} {p : Rat} (hp : Sz L p) : Sz L (-p) := ⟨by rw [Rat.neg_num, Int.natAbs_neg]; exact hp.1, by rw [Rat.neg_den]; exact hp.2⟩
theorem sub_sz {L M : Nat} {p q : Rat} (hp : Sz L p) (hq : Sz M q) : Sz (L + M + 1) (p - q) := by
 rw [Rat.sub_eq_add_neg]
 exact add_sz hp (neg_sz hq)
theorem int_sz {z : Int} (h1 : -9223372036854775808 ≤ z) (h2 : z ≤ 9223372036854775807) : Sz 2 (z : Rat) := by
 refine ⟨?_, ?_⟩
 ·exact dg_length_le (by omega) (by show z.natAbs < _; omega)
 exact dg_length_le (by omega) (by show (1 : Nat) < _; omega)
theorem k_rat_add {w : World} {r r' : Rv} {p q : Rat} (h : (cq r p).p w (· < w.heap.size)) (hz : Sz 68719476736 p) (h' : (cq r' q).p w (· < w.heap.size)) (hz' : Sz 68719476736 q) : Calls Tryz.prog 111 [.agg r.cs.toArray, .agg r'.cs.toArray].toArray w (NewQ 109 (p + q) w) := by
 have e1 : r.cs = [.bool (sgz p.num), .slice r.A r.n r.c, .bool false, .slice r.B r.m r.d] := by rw [Rv.cs, h.1.1, h.1.2]
 have e2 : r'.cs = [.bool (sgz q.num), .slice r'.A r'.n r'.c, .bool false, .slice r'.B r'.m r'.d] := by rw [Rv.cs, h'.1.1, h'.1.2]
 rw [e1, e2]
 exact (rat_add p q _ _ _ _ _ _ _ _ _ _ _ _ w (h.2.1.u32 fun _ h => h) (h.2.2.u32 fun _ h => h) (h'.2.1.u32 fun _ h => h) (h'.2.2.u32 fun _ h => h) (by rw [← h.2.1.len]; exact hz.1) (by rw [← h.2.2.len]; exact hz.2) (by rw [← h'.2.1.len]; exact hz'.1) (by rw [← h'.2.2.len]; exact hz'.2)).mono fun _ _ => newq_of
theorem lt_sign (p q : Rat) : decide ((q - p).num.sign < 0) = decide (q < p) := by
 rw [sub_sign_self]
 by_cases h : q < p
 ·simp [h]
 by_cases h2 : q = p
 ·subst h2; simp [h]
 simp [h, h2]
theorem gt_sign (p q : Rat) : decide (0 < (q - p).num.sign) = decide (p < q) := by
 rw [sub_sign_self]
 by_cases h : q < p
 ·have : ¬ p < q := by grind
  simp [h, this]
 by_cases h2 : q = p
 ·subst h2; simp [h]
 have : p < q := by grind
 simp [h, h2, this]
def qmin (p : Rat) (l : List Rat) : Rat := l.foldl (fun a b => if b < a then b else a) p
def qmax (p : Rat) (l : List Rat) : Rat := l.foldl (fun a b => if a < b then b else a) p
theorem qmin_mem (p : Rat) (l : List Rat) : qmin p l = p ∨ qmin p l ∈ l := by
 unfold qmin
 induction l generalizing p with
 | nil => exact .inl rfl
 | cons x l ih =>
  rw [List.foldl_cons]
  rcases ih (if x < p then x else p) with h | h
  ·rw [h]
   split
   ·exact .inr (by simp)
   exact .inl rfl
  exact .inr (List.mem_cons_of_mem _ h)
def u32T (xs : List Nat) : List Tr := xs.map fun (n : Nat) => .v (.int .u32 (n : Int))
def sU (o : Bool) (xs : List Nat) : Tr := .s o 109 1 xs.length (u32T xs)
theorem u32T_len (xs : List Nat) : (u32T xs).length = xs.length := by simp [u32T]
theorem rd_u32 (xs : List Nat) : rdL ((u32T xs).map .t) = true := by
 induction xs with
 | nil => rfl
 | cons x xs ih => simpa [u32T, rdL, rdA] using ih
theorem lone_u32 (xs : List Nat) : loneL ((u32T xs).map .t) = true := by
 induction xs with
 | nil => rfl
 | cons x xs ih => simpa [u32T, loneL, lone] using ih
theorem nofr_u32 (xs : List Nat) : NoFrL (u32T xs) := by
 induction xs with
 | nil => simp [u32T, NoFrL]
 | cons x xs ih => simpa [u32T, NoFrL, NoFr] using ih
structure Fr4 where
 s : Bool
 x : List Nat
 t : Bool
 y : List Nat
namespace Fr4
def tr (o : Bool) (a : Fr4) : List Tr := [.v (.bool a.s), sU o a.x, .v (.bool a.t), sU o a.y]
def q (a : Fr4) : Rat := qin a.s a.x a.t a.y
def of (q : Rat) : Fr4 := ⟨sgz q.num, dg 4294967296 q.num.natAbs, false, dg 4294967296 q.den⟩
def ok (a : Fr4) : Prop := Lim 4294967296 a.x ∧ Lim 4294967296 a.y ∧ a.x.length ≤ 68719476736 ∧ a.y.length ≤ 68719476736
theorem q_of (q : Rat) : (of q).q = q := qin_dg q
end Fr4
def qF (a : Fr4) : FV := .agg ((a.tr false).map .t)
def qO (q : Rat) : FV := .agg (((Fr4.of q).tr true).map .t)
theorem nofr_q (q : Rat) : NoFrF (qO q) := by
 simp only [NoFrF, qO, NoFrF1, Fr4.tr, List.map_cons, List.map_nil, NoFrAL, NoFrA, sU, NoFr]
 exact ⟨trivial, .inl ⟨trivial, nofr_u32 _⟩, trivial, .inl ⟨trivial, nofr_u32 _⟩, trivial⟩
section
variable {W : World} {N : Nat → Prop}
theorem limR_of {o : Bool} {xs : List Nat} {u : Value} (h : FR W N (sU o xs) u) (hl : Lim 4294967296 xs) : ∃ A c, u = .slice A xs.length c ∧ LimR W N A xs.length c xs := by
 simp only [sU, FR] at h
 obtain ⟨A, c, rfl, h1, h2, h3, h4⟩ := h
 refine ⟨A, c, rfl, rfl, h1, h2, hl, fun hn => ?_⟩
 rcases h4 with h4 | ⟨ad, rfl, h5, h6⟩
 ·omega
 refine ⟨ad, rfl, h5, fun k u hk => ?_⟩
 simp only [c32, List.getElem?_map, Option.map_eq_some_iff] at hk
 obtain ⟨m, hm, rfl⟩ := hk
 obtain ⟨u, e1, e2⟩ := FRc_get h6 (j := k) (x := .v (.int .u32 (m : Int))) (by simp [u32T, hm])
 simp only [FR] at e2
 rw [Nat.zero_add] at e1
 rw [e1, e2]
theorem or_own {t : TypeId} {base n c : Nat} {A : Option Addr} {xs : List Nat} (h : Own t W base A n c xs) : ∃ y : VT, y.val = .slice A n c ∧ OR W N (.s true t 1 xs.length (u32T xs)) y ∧ y.ok W ∧ y.fp = (Value.slice A n c).ownBlock.toList := by
 have hl := h.len
 rcases h.row.2 with ⟨h2, h3⟩ | ⟨g, cap, cur, hv, _, hg, hnc, hcm, hcs, htake⟩
 ·injection h2 with e1 e2 e3
  subst e1 e3
  subst h3
  have : xs = [] := List.eq_nil_of_length_eq_zero hl
  subst this
  exact ⟨.w (.slice none 0 0), rfl, by simp [OR, u32T], by simp [VT.ok], by simp [VT.fp, Value.ownBlock]⟩
 injection hv with e1 e2 e3
 subst e1 e3
 have hor : ORL W N (u32T xs) ((c32 xs).map VT.w) := by
  clear hl htake h
  induction xs with
  | nil => simp [u32T, c32, ORL]
  | cons x xs ih => simpa [u32T, c32, ORL, OR] using ih
 refine ⟨.s g c t 1 n ((c32 xs).map .w), rfl, ?_, ?_, by simp [VT.fp, fpL_w, Value.ownBlock]⟩
 ·simp only [OR]
  exact ⟨trivial, hl.symm, trivial, trivial, hor⟩
 simp only [VT.ok]
 refine ⟨⟨cur.toList.drop (n * 1), ?_, ?_⟩, hnc, hcm, by simp [c32_length, hl], okL_w _⟩
 ·rw [val_w, ← htake, List.take_append_drop]
  simpa using hg
 rw [val_w, ← htake, List.take_append_drop]
 simpa using hcs
theorem isq_of_F {a : Fr4} {u : Value} (h : FVR1 W N [] (qF a) u) (ha : a.ok) : ∃ r : Rv, u = .agg r.cs.toArray ∧ (ratS r a.x a.y).p W N ∧ r.s = a.s ∧ r.t = a.t ∧ (isq r a.q).p W N := by
 obtain ⟨us, rfl, h⟩ := h
 simp only [Fr4.tr, List.map_cons, List.map_nil] at h
 match us, h with
 | [u0, u1, u2, u3], h =>
  simp only [ARL, AR] at h
  obtain ⟨h0, h1, h2, h3, _⟩ := h
  simp only [FR] at h0 h2
  subst h0 h2
  obtain ⟨A, c, rfl, l1⟩ := limR_of h1 ha.1
  obtain ⟨B, d, rfl, l2⟩ := limR_of h3 ha.2.1
  exact ⟨⟨a.s, A, a.x.length, c, a.t, B, a.y.length, d⟩, rfl, ⟨l1, l2⟩, rfl, rfl, a.x, a.y, ⟨l1, l2⟩, rfl, ha.2.2.1, ha.2.2.2⟩
 | [], h => simp only [ARL] at h
 | [_], h => simp only [ARL] at h; exact h.2.elim
 | [_, _], h => simp only [ARL] at h; exact h.2.2.elim
 | [_, _, _], h => simp only [ARL] at h; exact h.2.2.2.elim
 | _ :: _ :: _ :: _ :: _ :: _, h => simp only [ARL] at h; exact absurd h.2.2.2.2 (by simp)
end
section
variable {f : FuncId} {args : List FV}
theorem start0 {N : Nat → Prop} {w : World} {cs : List Co} {us : List Value} (hL : Loc ((ress (lobs []) cs).flatMap Res.S) w w (ress (lobs []) cs) [(shS [] cs args us).on N]) : cs = [] ∧ FVL w (fun b => b < w.heap.size ∧ N b) [] args us := by
 have h := Sh.off (hL.sh 0 rfl)
 have hc : cs = [] := List.eq_nil_of_length_eq_zero (by have := h.1.1; simpa [lobs] using this.symm)
 subst hc
 exact ⟨rfl, FVL_keep (fun _ _ => rfl) (fun b hb => ⟨hb.1.1, hb.2⟩) .refl _ _ h.2⟩
theorem Ended.mk0 {fresh : Bool} {N : Nat → Prop} {M : List Nat} {w W : World} {R : List Lt → FV → Prop} {v : Value} {r : FV} {y : List VT} (hR : R [] r) (hb : Below w.heap.size w W) (hok : VT.okL W y) (hnd : (VT.fpL y).Nodup) (hfp : ∀ b ∈ VT.fpL y, w.heap.size ≤ b ∧ b < W.heap.size)
  (hro : RO W (fun b => fresh = false ∧ (b < W.heap.size ∧ b ∉ VT.fpL y) ∧ (N b ∨ w.heap.size ≤ b)) [] r v y) : Ended fresh N M w [] [] R (.returned v) W := by
 refine ⟨v, [], [], r, y, rfl, hR, rfl, fun _ _ _ h => by simp at h, rfl, .refl, ?_⟩
 refine ⟨⟨hb.os, hb.tape, hb.output, hb.size, fun k hk _ => hb.block k hk⟩, fun q hq => ?_, fun b hb => ?_, by simpa [lobs, ress, resY] using hnd, fun q hq => ?_⟩
 ·simp [lobs, ress] at hq
  subst hq
  exact hok
 ·have := hfp b (by simpa [lobs, ress, resY] using hb)
  exact ⟨.inr this.1, this.2⟩
 simp at hq
 subst hq
 refine ⟨⟨rfl, fun k o hk => by simp [lobs] at hk⟩, RO_keep (fun _ _ => rfl) (fun b hb => ⟨hb.1, ⟨⟨hb.2.1.1, ?_⟩, hb.2.2.elim .inl fun h => .inr (.inr h)⟩⟩) .refl hro⟩
 simpa [lobs, ress, resY] using hb.2.1.2
theorem spec_newq {q : Rat} (h : ∀ (N : Nat → Prop) (w : World) us, FVL w N [] args us → (∀ b, N b → b < w.heap.size) → Calls Tryz.prog f us.toArray w (NewQ 109 q w)) : Spec true Tryz.prog f [] args (Ret (qO q)) := by
 intro N w cs us hL
 obtain ⟨rfl, hf⟩ := start0 hL
 refine (h _ w us hf (fun b hb => hb.1)).mono ?_
 rintro e W ⟨r, rfl, ⟨⟨h1, h2⟩, h3, h4⟩, hS, hn, hb⟩
 obtain ⟨y1, a1, a2, a3, a4⟩ := or_own (N := fun b => true = false ∧ (b < W.heap.size ∧ b ∉ VT.fpL [.w (.bool r.s)]) ∧ (N b ∨ w.heap.size ≤ b)) h3
 obtain ⟨y2, b1, b2, b3, b4⟩ := or_own (N := fun b => true = false ∧ (b < W.heap.size ∧ b ∉ VT.fpL [.w (.bool r.s)]) ∧ (N b ∨ w.heap.size ≤ b)) h4
 have hfp : VT.fpL [.w (.bool r.s), y1, .w (.bool r.t), y2] = (ownq 109 r q).S := by simp [VT.fpL, VT.fp, a4, b4, ownq]
 refine .mk0 (y := [.w (.bool r.s), y1, .w (.bool r.t), y2]) rfl hb (by simp only [VT.okL, VT.ok]; exact ⟨trivial, a3, trivial, b3, trivial⟩) (by rw [hfp]; exact hn) (fun b hb => hS b (by rw [← hfp]; exact hb)) ?_
 refine ⟨by simp only [List.map_cons, List.map_nil, a1, b1]; rfl, ?_⟩
 simp only [Fr4.tr, Fr4.of, List.map_cons, List.map_nil, CRL, CR, sU]
 have ev : ∀ (N : Nat → Prop) (x y : Value), x = y → OR W N (.v x) (.w y) := fun N x y h => by simp [OR, h]
 exact ⟨ev _ _ _ (by rw [h1]), OR_keep (fun _ _ => rfl) (fun b hb => absurd hb.1 (by simp)) _ _ a2, ev _ _ _ (by rw [h2]), OR_keep (fun _ _ => rfl) (fun b hb => absurd hb.1 (by simp)) _ _ b2, trivial⟩
theorem spec_val {v : Value} (h : ∀ (N : Nat → Prop) (w : World) us, FVL w N [] args us → (∀ b, N b → b < w.heap.size) → Calls Tryz.prog f us.toArray w (fun e w' => e = .returned v ∧ Below w.heap.size w w')) : Spec true Tryz.prog f [] args (Ret (.one (tv v))) := by
 intro N w cs us hL
 obtain ⟨rfl, hf⟩ := start0 hL
 refine (h _ w us hf (fun b hb => hb.1)).mono ?_
 rintro e W ⟨rfl, hb⟩
 refine .mk0 (y := [.w v]) rfl hb (by simp [VT.okL, VT.ok]) (by simp [VT.fpL, VT.fp]) (by simp [VT.fpL, VT.fp]) ⟨.w v, rfl, rfl, ?_⟩
 simp [CR, tv, OR]
end
theorem fvl2 {W : World} {N : Nat → Prop} {a b : FV} {us : List Value} (h : FVL W N [] [a, b] us) : ∃ u v, us = [u, v] ∧ FVR1 W N [] a u ∧ FVR1 W N [] b v := by
 match us, h with
 | [u, v], h =>
  simp only [FVL] at h
  exact ⟨u, v, rfl, h.1, h.2.1⟩
 | [], h => simp only [FVL] at h
 | [_], h => simp only [FVL] at h; exact h.2.elim
 | _ :: _ :: _ :: _, h => simp only [FVL] at h; exact absurd h.2.2 (by simp)
theorem fvl1 {W : World} {N : Nat → Prop} {a : FV} {us : List Value} (h : FVL W N [] [a] us) : ∃ u, us = [u] ∧ FVR1 W N [] a u := by
 match us, h with
 | [u], h =>
  simp only [FVL] at h
  exact ⟨u, rfl, h.1⟩
 | [], h => simp only [FVL] at h
 | _ :: _ :: _, h => simp only [FVL] at h; exact absurd h.2 (by simp)
section
variable {a b : Fr4}
theorem c_rAdd (ha : a.ok) (hb : b.ok) : Spec true Tryz.prog 70 [] [qF a, qF b] (Ret (qO (a.q + b.q))) := spec_newq fun N w us hf hN => by
 obtain ⟨u, v, rfl, h1, h2⟩ := fvl2 hf
 obtain ⟨r, rfl, _, _, _, i1⟩ := isq_of_F h1 ha
 obtain ⟨r', rfl, _, _, _, i2⟩ := isq_of_F h2 hb
 exact k_rat_Add (isq_mono i1 hN) (isq_mono i2 hN)
theorem c_rSub (ha : a.ok) (hb : b.ok) : Spec true Tryz.prog 71 [] [qF a, qF b] (Ret (qO (a.q - b.q))) := spec_newq fun N w us hf hN => by
 obtain ⟨u, v, rfl, h1, h2⟩ := fvl2 hf
 obtain ⟨r, rfl, _, _, _, i1⟩ := isq_of_F h1 ha
 obtain ⟨r', rfl, _, _, _, i2⟩ := isq_of_F h2 hb
 exact k_rat_Sub (isq_mono i1 hN) (isq_mono i2 hN)
theorem c_rNeg (ha : a.ok) : Spec true Tryz.prog 72 [] [qF a] (Ret (qO (-a.q))) := spec_newq fun N w us hf hN => by
 obtain ⟨u, rfl, h1⟩ := fvl1 hf
 obtain ⟨r, rfl, _, _, _, i1⟩ := isq_of_F h1 ha
 exact k_rat_Neg (isq_mono i1 hN)
theorem c_rSign (ha : a.ok) : Spec true Tryz.prog 80 [] [qF a] (Ret (.one (tv (.int .i64 a.q.num.sign)))) := spec_val fun N w us hf hN => by
 obtain ⟨u, rfl, h1⟩ := fvl1 hf
 obtain ⟨r, rfl, _, _, _, i1⟩ := isq_of_F h1 ha
 exact k_rat_Sign (isq_mono i1 hN)
theorem c_rRight (ha : a.ok) : Spec true Tryz.prog 79 [] [qF a] (Ret (.one (tv (.bool (rightQ a.s a.x a.t a.y))))) := spec_val fun N w us hf hN => by
 obtain ⟨u, rfl, h1⟩ := fvl1 hf
 obtain ⟨r, rfl, i1, e1, e2, _⟩ := isq_of_F h1 ha
 rw [← e1, ← e2]
 exact k_rat_Right ((ratS r a.x a.y).mono _ _ _ hN i1) (by have := ha.2.2.1; omega) (by have := ha.2.2.2; omega)
theorem c_rWhole {z : Int} (h1 : -9223372036854775808 ≤ z) (h2 : z ≤ 9223372036854775807) : Spec true Tryz.prog 69 [] [.one (tv (.int .i64 z))] (Ret (qO (z : Rat))) := spec_newq fun N w us hf hN => by
 obtain ⟨u, rfl, h3⟩ := fvl1 hf
 obtain rfl := tv_of (FVR1_of h3)
 exact k_rat_Whole z h1 h2
end
theorem u32_at (xs : List Nat) {k : Nat} (h : k < xs.length) : ((u32T xs).drop (k * 1)).take [Tr.v (.int .u32 ((nth xs k : Nat) : Int))].length = [Tr.v (.int .u32 ((nth xs k : Nat) : Int))] := by
 rw [Nat.mul_one]
 have : (u32T xs)[k]? = some (Tr.v (.int .u32 ((nth xs k : Nat) : Int))) := by simp [u32T, nth_get h, h]
 rw [List.length_singleton, List.take_one]
 simp [this]
theorem su0 {x : Cx} {g : Nat → FV} {ob : List (Option Ob)} (h0 : x.c0.length = 0) (τ : List Nat) (live : List (Nat × FV)) (os : List Ob) (hn : τ.Nodup) (h1 : liveOk τ g live) (h2 : objOk τ ob τ os) : Sub x g ob (frL live) (os.map some) :=
 su τ (fun k hk => by rw [h0] at hk; cases hk) live os hn h1 h2
theorem row_step {xs ys : List Nat} {k : Nat} (h : xs.take k = ys.take k) (h1 : k < xs.length) (h2 : k < ys.length) (he : nth xs k = nth ys k) : xs.take (k + 1) = ys.take (k + 1) := by
 rw [List.take_add_one, List.take_add_one, h]
 rw [nth_get h1, nth_get h2] at he
 simp [List.getElem?_eq_getElem h1, List.getElem?_eq_getElem h2, he]
theorem tk_u32 (xs : List Nat) : ((u32T xs).map AV.t).take (xs.length * 1) = (u32T xs).map .t := by rw [Nat.mul_one, List.take_of_length_le (by simp [u32T_len])]
theorem ln_u32 (xs : List Nat) : (u32T xs).length = xs.length * 1 := by simp [u32T_len]
def rO (a : Fr4) : FV := .agg ((a.tr true).map .t)
theorem nofr_r (a : Fr4) : NoFrF (rO a) := by
 simp only [NoFrF, rO, NoFrF1, Fr4.tr, List.map_cons, List.map_nil, NoFrAL, NoFrA, sU, NoFr]
 exact ⟨trivial, .inl ⟨trivial, nofr_u32 _⟩, trivial, .inl ⟨trivial, nofr_u32 _⟩, trivial⟩
theorem fr4_eq {a b : Fr4} : a = b ↔ (a.s = b.s ∧ a.t = b.t) ∧ a.x = b.x ∧ a.y = b.y := by
 obtain ⟨s, x, t, y⟩ := a
 obtain ⟨s', x', t', y'⟩ := b
 simp only [Fr4.mk.injEq]
 constructor
 ·rintro ⟨h1, h2, h3, h4⟩
  exact ⟨⟨h1, h3⟩, h2, h4⟩
 rintro ⟨⟨h1, h3⟩, h2, h4⟩
 exact ⟨h1, h2, h3, h4⟩
instance : DecidableEq Fr4 := fun a b => decidable_of_iff _ fr4_eq.symm
def Fr4.len (a : Fr4) (m : Nat) : Prop := a.x.length ≤ m ∧ a.y.length ≤ m
theorem of_inj {p q : Rat} : (Fr4.of p = Fr4.of q) ↔ p = q := ⟨fun h => by rw [← Fr4.q_of p, h, Fr4.q_of], fun h => by rw [h]⟩
def hv : List Nat → List Nat
 | [] => []
 | x :: xs => x % 65536 :: x / 65536 :: hv xs
def lb : List Nat → List Nat
 | [] => []
 | [a] => [a]
 | a :: b :: l => (a + 65536 * b) :: lb l
theorem hv_append : ∀ (a b : List Nat), hv (a ++ b) = hv a ++ hv b
 | [], _ => rfl
 | x :: xs, b => by simp only [List.cons_append, hv, hv_append xs b]
theorem hv_len : ∀ (a : List Nat), (hv a).length = 2 * a.length
 | [] => rfl
 | x :: xs => by simp only [hv, List.length_cons, hv_len xs]; omega
theorem hv_lim : ∀ {a : List Nat}, Lim 4294967296 a → Lim 65536 (hv a)
 | [], _ => Lim.nil
 | x :: xs, h => Lim.cons (Nat.mod_lt _ (by omega)) (Lim.cons (by have := h.head; omega) (hv_lim h.tail))
theorem hv_vl : ∀ (a : List Nat), vl 65536 (hv a) = vl 4294967296 a
 | [] => rfl
 | x :: xs => by
  simp only [hv, vl_cons, hv_vl xs]
  have := Nat.mod_add_div x 65536
  omega
theorem hv_dg {a : List Nat} (h : Lim 4294967296 a) : trim (hv a) = dg 65536 (vl 4294967296 a) := by rw [← hv_vl, dg_vl (by omega) (hv_lim h)]
theorem hv_take {a : List Nat} {k : Nat} (h : k < a.length) : hv (a.take (k + 1)) = hv (a.take k) ++ [nth a k % 65536, nth a k / 65536] := by
 rw [take_succ_nth h, hv_append]
 rfl
theorem lb_vl : ∀ (a : List Nat), vl 4294967296 (lb a) = vl 65536 a
 | [] => rfl
 | [a] => by simp [lb, vl_one]
 | a :: b :: l => by
  simp only [lb, vl_cons, lb_vl l]
  omega
theorem lb_lim : ∀ {a : List Nat}, Lim 65536 a → Lim 4294967296 (lb a)
 | [], _ => Lim.nil
 | [a], h => Lim.cons (by have := h.head; omega) Lim.nil
 | a :: b :: l, h => Lim.cons (by have := h.head; have := h.tail.head; omega) (lb_lim h.tail.tail)
theorem lb_len : ∀ (a : List Nat), (lb a).length = (a.length + 1) / 2
 | [] => rfl
 | [a] => by simp [lb]
 | a :: b :: l => by simp only [lb, List.length_cons, lb_len l]; omega
theorem lb_nil {a : List Nat} (h : lb a = []) : a = [] := by
 rcases a with _ | ⟨x, _ | ⟨y, l⟩⟩
 ·rfl
 ·simp [lb] at h
 simp [lb] at h
theorem lb_trim : ∀ {a : List Nat}, trim a = a → trim (lb a) = lb a
 | [], _ => rfl
 | [a], h => h
 | a :: b :: l, h => by
  have hl : trim l = l := by
   rw [trim_cons] at h
   split at h
   ·cases h
   injection h with _ h
   rw [trim_cons] at h
   split at h
   ·cases h
   injection h
  have ih := lb_trim hl
  simp only [lb]
  rw [trim_cons, ih]
  split
  ·rename_i hc
   have h0 := lb_nil hc.1
   subst h0
   rw [trim_cons, trim_cons, trim_nil] at h
   have hb : b = 0 := by omega
   have ha : a = 0 := by omega
   subst hb ha
   simp at h
  rfl
theorem lb_dg (v : Nat) : lb (dg 65536 v) = dg 4294967296 v := by
 have h := lb_trim (trim_dg (B := 65536) (by omega) v)
 rw [← h, ← dg_vl (B := 4294967296) (by omega) (lb_lim (Lim_dg (by omega) v)), lb_vl, vl_dg (by omega)]
theorem lb_take : ∀ {l : List Nat} {k : Nat}, 2 * k < l.length → lb (l.take (2 * (k + 1))) = lb (l.take (2 * k)) ++ [nth l (2 * k) + 65536 * nth l (2 * k + 1)]
 | [], _, h => by simp at h
 | [a], 0, _ => by simp [lb, nth]
 | [a], k + 1, h => by simp at h
 | a :: b :: l, 0, _ => by simp [lb, nth]
 | a :: b :: l, k + 1, h => by
  have ih := lb_take (l := l) (k := k) (by simp at h; omega)
  have e1 : 2 * (k + 1 + 1) = 2 * (k + 1) + 1 + 1 := by omega
  have e2 : 2 * (k + 1) = 2 * k + 1 + 1 := by omega
  rw [e1, List.take_succ_cons, List.take_succ_cons]
  simp only [lb]
  rw [ih, e2, List.take_succ_cons, List.take_succ_cons]
  simp only [lb, List.cons_append]
  simp [nth]
theorem dg_half_len {v L : Nat} (h : (dg 4294967296 v).length ≤ L) : (dg 65536 v).length ≤ 2 * L := by
 have h1 := dg_lt (B := 4294967296) (by omega) (n := v)
 refine dg_length_le (by omega) (Nat.lt_of_lt_of_le h1 ?_)
 rw [Nat.pow_mul]
 exact Nat.pow_le_pow_right (by omega) h
theorem add_step {X Y os : List Nat} {k cr : Nat} (hl : os.length = k) (h : vl 65536 os + 65536 ^ k * cr = vl 65536 (X.take k) + vl 65536 (Y.take k)) :
  vl 65536 (os ++ [(nth X k + nth Y k + cr) % 65536]) + 65536 ^ (k + 1) * ((nth X k + nth Y k + cr) / 65536) = vl 65536 (X.take (k + 1)) + vl 65536 (Y.take (k + 1)) := by
 rw [vl_snoc, vl_take_nth, vl_take_nth, hl, Nat.pow_succ, Nat.mul_assoc]
 have h2 := Nat.mod_add_div (nth X k + nth Y k + cr) 65536
 have h3 : 65536 ^ k * (nth X k + nth Y k + cr) = 65536 ^ k * ((nth X k + nth Y k + cr) % 65536) + 65536 ^ k * (65536 * ((nth X k + nth Y k + cr) / 65536)) := by rw [← Nat.mul_add, h2]
 rw [Nat.mul_add, Nat.mul_add] at h3
 omega
theorem sub_step {X Y os : List Nat} {k br br' d : Nat} (hl : os.length = k) (h : vl 65536 os + vl 65536 (Y.take k) = vl 65536 (X.take k) + 65536 ^ k * br) (hd : d + nth Y k + br = nth X k + 65536 * br') :
  vl 65536 (os ++ [d]) + vl 65536 (Y.take (k + 1)) = vl 65536 (X.take (k + 1)) + 65536 ^ (k + 1) * br' := by
 rw [vl_snoc, vl_take_nth, vl_take_nth, hl, Nat.pow_succ, Nat.mul_assoc]
 have h3 : 65536 ^ k * (d + nth Y k + br) = 65536 ^ k * (nth X k + 65536 * br') := by rw [hd]
 rw [Nat.mul_add, Nat.mul_add, Nat.mul_add] at h3
 omega
theorem sub_ge {a b : Nat} (h : ¬ ((a : Int) - (b : Int)).sign < 0) : b ≤ a := by
 rcases Nat.lt_or_ge a b with h1 | h1
 ·exact absurd (by rw [Int.sign_eq_neg_one_of_neg (by omega)]; omega) h
 exact h1
theorem sub_lt {a b : Nat} (h : ((a : Int) - (b : Int)).sign < 0) : a < b := by
 rcases Nat.lt_or_ge a b with h1 | h1
 ·exact h1
 exact absurd (Int.sign_neg_iff.1 h) (by omega)
theorem lt_at {X Y : List Nat} {k : Nat} (hX : Lim 65536 X) (hk : ∀ j, k + 1 ≤ j → nth X j = nth Y j) (h : nth X k < nth Y k) : vl 65536 X < vl 65536 Y := by
 have hS : ∀ m, vl 65536 (X.take (k + 1 + m)) + vl 65536 (Y.take (k + 1)) = vl 65536 (Y.take (k + 1 + m)) + vl 65536 (X.take (k + 1)) := by
  intro m
  induction m with
  | zero => exact Nat.add_comm _ _
  | succ m ih =>
   rw [← Nat.add_assoc, vl_take_nth 65536 X (k + 1 + m), vl_take_nth 65536 Y (k + 1 + m), hk (k + 1 + m) (by omega)]
   omega
 have h1 := hS (X.length + Y.length)
 rw [vl_take_all 65536 (l := X) (k := k + 1 + (X.length + Y.length)) (by omega), vl_take_all 65536 (l := Y) (k := k + 1 + (X.length + Y.length)) (by omega)] at h1
 have h2 : vl 65536 (X.take (k + 1)) < vl 65536 (Y.take (k + 1)) := by
  rw [vl_take_nth, vl_take_nth]
  have h3 := vl_lt (hX.take k)
  have h4 : 65536 ^ (X.take k).length ≤ 65536 ^ k := Nat.pow_le_pow_right (by omega) (by rw [List.length_take]; omega)
  have h5 : 65536 ^ k * (nth X k + 1) ≤ 65536 ^ k * nth Y k := Nat.mul_le_mul_left _ h
  rw [Nat.mul_add] at h5
  omega
 omega
theorem eq_all {X Y : List Nat} (h : ∀ j, nth X j = nth Y j) : vl 65536 X = vl 65536 Y := by
 have hS : ∀ m, vl 65536 (X.take m) = vl 65536 (Y.take m) := by
  intro m
  induction m with
  | zero => rfl
  | succ m ih => rw [vl_take_nth, vl_take_nth, ih, h]
 have h1 := hS (X.length + Y.length)
 rwa [vl_take_all 65536 (l := X) (k := X.length + Y.length) (by omega), vl_take_all 65536 (l := Y) (k := X.length + Y.length) (by omega)] at h1
def i64T (xs : List Nat) : List Tr := xs.map fun (n : Nat) => .v (.int .i64 (n : Int))
def sI (o : Bool) (xs : List Nat) : Tr := .s o 3 1 xs.length (i64T xs)
theorem i64T_len (xs : List Nat) : (i64T xs).length = xs.length := by simp [i64T]
theorem i64_at (xs : List Nat) {k : Nat} (h : k < xs.length) : ((i64T xs).drop (k * 1)).take [Tr.v (.int .i64 ((nth xs k : Nat) : Int))].length = [Tr.v (.int .i64 ((nth xs k : Nat) : Int))] := by
 rw [Nat.mul_one]
 have : (i64T xs)[k]? = some (Tr.v (.int .i64 ((nth xs k : Nat) : Int))) := by simp [i64T, nth_get h, h]
 rw [List.length_singleton, List.take_one]
 simp [this]
theorem i64T_app (xs ys : List Nat) : (i64T xs).map AV.t ++ (i64T ys).map .t = (i64T (xs ++ ys)).map .t := by simp [i64T]
theorem u32T_app (xs ys : List Nat) : (u32T xs).map AV.t ++ (u32T ys).map .t = (u32T (xs ++ ys)).map .t := by simp [u32T]
theorem i64T_take (xs : List Nat) (k : Nat) : (i64T xs).take (k * 1) = i64T (xs.take k) := by simp [i64T, List.map_take]
theorem sI_cut {xs : List Nat} {m : Nat} (h : m ≤ xs.length) : FV.one (.t (.s false 3 1 m ((i64T xs).take (m * 1)))) = .one (.t (sI false (xs.take m))) := by
 rw [i64T_take]
 unfold sI
 rw [List.length_take, Nat.min_eq_left h]
theorem rd_i64 (xs : List Nat) : rdL ((i64T xs).map .t) = true := by
 induction xs with
 | nil => rfl
 | cons x xs ih => simpa [i64T, rdL, rdA] using ih
theorem lone_i64 (xs : List Nat) : loneL ((i64T xs).map .t) = true := by
 induction xs with
 | nil => rfl
 | cons x xs ih => simpa [i64T, loneL, lone] using ih
theorem rem_nat (a b : Nat) : Int.tmod (a : Int) (b : Int) = ((a % b : Nat) : Int) := by
 rw [Int.tmod_eq_emod_of_nonneg (by omega)]
 rfl
theorem quo_nat (a b : Nat) : Int.tdiv (a : Int) (b : Int) = ((a / b : Nat) : Int) := by
 rw [Int.tdiv_eq_ediv_of_nonneg (by omega)]
 rfl
theorem quo_in {k : IntKind} {a : Nat} (b : Nat) (hb : b ≠ 0) (h : InR k (a : Int)) : (b : Int) ≠ 0 ∧ InR k (Int.tdiv (a : Int) (b : Int)) := by
 refine ⟨by omega, ?_⟩
 rw [quo_nat]
 have := Nat.div_le_self a b
 generalize a / b = c at this ⊢
 cases k <;> simp only [InR] at h ⊢ <;> omega
section
variable {x : Cx} {g : Nat → FV} {ob : List (Option Ob)}
theorem fzI {i k n : Nat} {zs zs' : List Nat} (hi : Nat.blt i x.n = true) (hg : g i = .one (.sl k 0 n)) (ho : obAt ob k = some ⟨3, 1, (i64T zs).map .t⟩) (hn : n = zs.length) (he : zs = zs') : Sub x g ob (upF g i (.one (.t (sI false zs')))) (ob.set k none) := by
 subst he
 have := fz hi hg ho (by rw [i64T_len, hn, Nat.mul_one])
 rw [hn] at this
 exact this
theorem fzU {i k n : Nat} {zs zs' : List Nat} (hi : Nat.blt i x.n = true) (hg : g i = .one (.sl k 0 n)) (ho : obAt ob k = some ⟨109, 1, (u32T zs).map .t⟩) (hn : n = zs.length) (he : zs = zs') : Sub x g ob (upF g i (.one (.t (sU false zs')))) (ob.set k none) := by
 subst he
 have := fz hi hg ho (by rw [u32T_len, hn, Nat.mul_one])
 rw [hn] at this
 exact this
theorem oeI {τ : List Nat} {a : Option Ob} {xs ys : List Nat} {l : List AV} (h1 : a = some ⟨3, 1, l⟩) (h : l = (i64T ys).map .t) (he : ys = xs) : OEq τ a ⟨3, 1, (i64T xs).map .t⟩ := oet (by rw [h1, h, he])
theorem oeU {τ : List Nat} {a : Option Ob} {xs ys : List Nat} {l : List AV} (h1 : a = some ⟨109, 1, l⟩) (h : l = (u32T ys).map .t) (he : ys = xs) : OEq τ a ⟨109, 1, (u32T xs).map .t⟩ := oet (by rw [h1, h, he])
end
end Go.Proofs.YtofllcodkcjajaaGreat
