/- Part 7 of a proof: Big2 to Rat2. -/
import Derived.Test.YtofllcodkcjajaaGreatM6
set_option maxRecDepth 100000
set_option linter.unusedVariables false
set_option linter.unusedSimpArgs false
namespace Go.Proofs.YtofllcodkcjajaaGreat
open Go Go.RowKit
theorem two_abs {a b : Int} (h : sgz a = sgz b) : sgn (sgz a) (a.natAbs + b.natAbs) = a + b := by
 unfold sgn sgz
 by_cases ha : a < 0
 ·have hb : b < 0 := by simpa [ha, sgz] using h.symm
  simp [ha]; omega
 have hb : ¬ b < 0 := by simpa [ha, sgz] using h.symm
 simp [ha]; omega
set_option maxHeartbeats 2000000 in
theorem big_plus_same (a b : Int) (A B : Option Addr) (n m c d : Nat) (w : World) (ha : U32 w w.heap.size A n c (dg 4294967296 a.natAbs)) (hb : U32 w w.heap.size B m d (dg 4294967296 b.natAbs)) (hn : n ≤ 1099511627775) (hm : m ≤ 1099511627775)
    (hs : sgz a = sgz b) :
    Calls Tryz.prog 156 #[.agg #[.bool (sgz a), .slice A n c], .agg #[.bool (sgz b), .slice B m d]] w (OutZ (a + b) w) := by
  have hsum := two_abs hs
  rw [← hs]
  have HS := Lib.hid hsum
  clear hsum hs
  generalize sgz a = sg at *
  go_enter Tryz.func156, Tryz.ntmps156
  go_wp2_with fail
  refine at_wp (fun W0 => Hld w.heap.size w (w.heap.size + 2) (w.heap.size + 2) 2 W0 W0 ∧ W0.cell? ⟨w.heap.size, 0, none⟩ = some (.bool sg) ∧ W0.cell? ⟨w.heap.size, 1, none⟩ = some (.slice A n c) ∧ W0.cell? ⟨w.heap.size + 1, 0, none⟩ = some (.bool sg) ∧ W0.cell? ⟨w.heap.size + 1, 1, none⟩ = some (.slice B m d)) ?_ ?_
  · refine ⟨⟨by (repeat (first | exact Below.refl _ _ | assumption | refine Below.drew ?_ | refine Below.setCell ?_ (by first | exact Nat.le_refl _ | (simp; done) | (simp; omega) | omega) _ | refine Below.alloc ?_ (by first | exact Nat.le_refl _ | exact Below.size (by assumption) | (simp; done) | (simp; omega) | omega) _)), by simp, by simp, by omega, by omega, fun _ _ _ _ => rfl, fun o ho => ?_⟩, ?_, ?_, ?_, ?_⟩
    · match o, ho with
      | 0, _ => constructor <;> go_simp
      | 1, _ => constructor <;> go_simp
    · go_simp
    · go_simp
    · go_simp
    go_simp
  rintro W0 ⟨hH0, p0, p1, p2, p3⟩
  go_region_held3 (fun w' => Hld w.heap.size w (w.heap.size + 2) (w.heap.size + 2) 2 W0 w') (repeat (first | assumption | exact hH0 | refine Hld.drew ?_ | refine Hld.setCell ?_ (by first | (left; simp; done) | (right; simp; done) | (right; simp; omega) | (right; omega)) _ | refine Hld.alloc ?_ _))
    (first
      | (go_at_call 175
         refine Hld.from (s := w.heap.size) (w := w) (B := w.heap.size + 2) (g := w.heap.size + 2) (k := 2) (W0 := W0) ?_ (fun hH => ?_)
         · (repeat (first | assumption | exact hH0 | refine Hld.drew ?_ | refine Hld.setCell ?_ (by first | (left; simp; done) | (right; simp; done) | (right; simp; omega) | (right; omega)) _ | refine Hld.alloc ?_ _))
         refine (limb_Add A B n m c d _ _ _ (ha.now hH.bel) (hb.now hH.bel) (by omega) (by omega)).mono ?_
         rintro e w1 ⟨A1, n1, c1, rfl, h1, hb1⟩
         have hH1 := hH.call hb1
         rw [vl_dg (by omega), vl_dg (by omega)] at h1
         have hl1 := h1.len
         have hbig1 := h1.u32.big
         have hcap1 := h1.u32.cap
         have h1 := h1.base_le hH.base)
      | (go_at_call 148
         refine Hld.from (s := w.heap.size) (w := w) (B := w.heap.size + 2) (g := w.heap.size + 2) (k := 2) (W0 := W0) ?_ (fun hH => ?_)
         · (repeat (first | assumption | exact hH0 | refine Hld.drew ?_ | refine Hld.setCell ?_ (by first | (left; simp; done) | (right; simp; done) | (right; simp; omega) | (right; omega)) _ | refine Hld.alloc ?_ _))
         refine (big_signed _ A1 n1 c1 (by omega) _).mono ?_
         rintro e w2 ⟨rfl, hb2⟩
         rw [sgn_dg hl1, HS.out]
         have h2 := h1.over hb2
         have hH2 := hH.call hb2
         obtain ⟨v0, hv0⟩ := hH2.res 0 (by omega)
         obtain ⟨v1, hv1⟩ := hH2.res 1 (by omega)
         have hf0 := hH2.fro 0 (by omega)
         have hf1 := hH2.fro 1 (by omega)))
  all_goals
    go_wp2_with fail
    refine bodyPost_ret (v := .agg #[.bool (sgz (a + b)), .slice A1 n1 c1]) (by simp [results, Tryz.results156, go_sem, World.cell?_setCell_other, hv0, hv1]) rfl ⟨A1, n1, c1, rfl, ?_, ?_⟩
    · rw [← HS.out, sgn_abs]
      refine Own.base_le (((h2.setLow ?_ _).setLow ?_ _)) (by omega)
      · simp
      simp
    (have hb := hH2.bel; (repeat (first | exact Below.refl _ _ | assumption | refine Below.drew ?_ | refine Below.setCell ?_ (by first | exact Nat.le_refl _ | (simp; done) | (simp; omega) | omega) _ | refine Below.alloc ?_ (by first | exact Nat.le_refl _ | exact Below.size (by assumption) | (simp; done) | (simp; omega) | omega) _)))
theorem two_less {a b : Int} (h : sgz a ≠ sgz b) (hle : b.natAbs ≤ a.natAbs) : sgn (sgz a) (a.natAbs - b.natAbs) = a + b := by
 unfold sgn sgz
 by_cases ha : a < 0
 ·have hb : ¬ b < 0 := by simpa [ha, sgz] using h
  simp [ha]; omega
 have hb : b < 0 := by simpa [ha, sgz] using h
 simp [ha]; omega
set_option maxHeartbeats 2000000 in
theorem big_plus_more (a b : Int) (A B : Option Addr) (n m c d : Nat) (w : World) (ha : U32 w w.heap.size A n c (dg 4294967296 a.natAbs)) (hb : U32 w w.heap.size B m d (dg 4294967296 b.natAbs)) (hn : n ≤ 1099511627775)
  (hs : sgz a ≠ sgz b) (hle : b.natAbs ≤ a.natAbs) :
  Calls Tryz.prog 156 #[.agg #[.bool (sgz a), .slice A n c], .agg #[.bool (sgz b), .slice B m d]] w (OutZ (a + b) w) := by
 have hsum := two_less hs hle
 have hc : ¬ cmpN (vl 4294967296 (dg 4294967296 a.natAbs)) (vl 4294967296 (dg 4294967296 b.natAbs)) < 0 := by
  rw [vl_dg (by omega), vl_dg (by omega)]
  rcases Nat.lt_or_ge b.natAbs a.natAbs with h | h
  ·rw [cmpN_gt h]; omega
  rw [cmpN_eq (by omega)]; omega
 have HS := Lib.hid hsum
 have e1 : (sgz a == sgz b) = false := by simpa using hs
 clear hsum hs
 have HL := Lib.hid hle
 clear hle
 generalize sgz a = sg at *
 generalize sgz b = sb at *
 go_enter Tryz.func156, Tryz.ntmps156
 go_wp2_with fail
 refine (limb_Cmp A B n m c d _ _ _ _ (ha.now ?_) (hb.now ?_)).mono ?_
 ·(repeat (first | exact Below.refl _ _ | assumption | refine Below.drew ?_ | refine Below.setCell ?_ (by first | exact Nat.le_refl _ | (simp; done) | (simp; omega) | omega) _ | refine Below.alloc ?_ (by first | exact Nat.le_refl _ | exact Below.size (by assumption) | (simp; done) | (simp; omega) | omega) _))
 ·(repeat (first | exact Below.refl _ _ | assumption | refine Below.drew ?_ | refine Below.setCell ?_ (by first | exact Nat.le_refl _ | (simp; done) | (simp; omega) | omega) _ | refine Below.alloc ?_ (by first | exact Nat.le_refl _ | exact Below.size (by assumption) | (simp; done) | (simp; omega) | omega) _))
 rintro e w1 ⟨rfl, k, rfl⟩
 go_wp2_with fail
 refine (limb_Sub A B n m c d _ _ _ (ha.now ?_) (hb.now ?_) (by omega) ?_).mono ?_
 ·refine below_drewN ?_ _
  (repeat (first | exact Below.refl _ _ | assumption | refine Below.drew ?_ | refine Below.setCell ?_ (by first | exact Nat.le_refl _ | (simp; done) | (simp; omega) | omega) _ | refine Below.alloc ?_ (by first | exact Nat.le_refl _ | exact Below.size (by assumption) | (simp; done) | (simp; omega) | omega) _))
 ·refine below_drewN ?_ _
  (repeat (first | exact Below.refl _ _ | assumption | refine Below.drew ?_ | refine Below.setCell ?_ (by first | exact Nat.le_refl _ | (simp; done) | (simp; omega) | omega) _ | refine Below.alloc ?_ (by first | exact Nat.le_refl _ | exact Below.size (by assumption) | (simp; done) | (simp; omega) | omega) _))
 ·rw [vl_dg (by omega), vl_dg (by omega)]; exact HL.out
 rintro e w1 ⟨A1, n1, c1, rfl, h1, hb1⟩
 rw [vl_dg (by omega), vl_dg (by omega)] at h1
 have hl1 := h1.len
 have hbig1 := h1.u32.big
 have hcap1 := h1.u32.cap
 have hc1 := (bcell hb1).1
 have hf1 := (bcell hb1).2
 simp at hc1 hf1
 have hbw : Below w.heap.size w w1 := below_call (below_drewN (by (repeat (first | exact Below.refl _ _ | assumption | refine Below.drew ?_ | refine Below.setCell ?_ (by first | exact Nat.le_refl _ | (simp; done) | (simp; omega) | omega) _ | refine Below.alloc ?_ (by first | exact Nat.le_refl _ | exact Below.size (by assumption) | (simp; done) | (simp; omega) | omega) _))) _) (by simp; omega) hb1
 have hsz : w.heap.size + 3 ≤ w1.heap.size := by
  have := hb1.size
  simp at this
  omega
 have HZ := Lib.hid hsz
 clear hsz
 go_wp2_with fail
 have hsz := HZ.out
 have h1 := h1.base_le (base' := w.heap.size + 3) (by simp)
 clear hb1
 refine (big_signed _ A1 n1 c1 (by omega) _).mono ?_
 rintro e w2 ⟨rfl, hb2⟩
 rw [sgn_dg hl1, HS.out]
 have h2 := h1.over hb2
 have hs1 : w.heap.size + 3 ≤ w1.heap.size := hsz
 have hc2 : ∀ b o, b < w.heap.size + 3 → w2.cell? ⟨b, o, none⟩ = w1.cell? ⟨b, o, none⟩ := fun b o h => hb2.cell (p := ⟨b, o, none⟩) (show b < w1.heap.size by omega)
 have hf2 : ∀ b o, b < w.heap.size + 3 → w2.frozen? ⟨b, o, none⟩ = w1.frozen? ⟨b, o, none⟩ := fun b o h => hb2.frozen (p := ⟨b, o, none⟩) (show b < w1.heap.size by omega)
 have hbw2 : Below w.heap.size w w2 := hbw.trans (hb2.mono hbw.size)
 go_wp2_with fail
 refine bodyPost_ret (v := .agg #[.bool (sgz (a + b)), .slice A1 n1 c1]) (by simp [results, Tryz.results156, go_sem, World.cell?_setCell_other, hc2, hc1]) rfl ⟨A1, n1, c1, rfl, ?_, ?_⟩
 ·rw [← HS.out, sgn_abs]
  refine Own.base_le (((h2.setLow ?_ _).setLow ?_ _)) (by omega)
  ·simp
  simp
 (repeat (first | exact Below.refl _ _ | assumption | refine Below.drew ?_ | refine Below.setCell ?_ (by first | exact Nat.le_refl _ | (simp; done) | (simp; omega) | omega) _ | refine Below.alloc ?_ (by first | exact Nat.le_refl _ | exact Below.size (by assumption) | (simp; done) | (simp; omega) | omega) _))
set_option maxHeartbeats 2000000 in
theorem big_plus_less (a b : Int) (A B : Option Addr) (n m c d : Nat) (w : World) (ha : U32 w w.heap.size A n c (dg 4294967296 a.natAbs)) (hb : U32 w w.heap.size B m d (dg 4294967296 b.natAbs)) (hm : m ≤ 1099511627775)
  (hs : sgz a ≠ sgz b) (hle : a.natAbs < b.natAbs) :
  Calls Tryz.prog 156 #[.agg #[.bool (sgz a), .slice A n c], .agg #[.bool (sgz b), .slice B m d]] w (OutZ (a + b) w) := by
 have hsum := two_less (fun e => hs e.symm) (Nat.le_of_lt hle)
 rw [Int.add_comm b a] at hsum
 obtain ⟨kap, hkap⟩ : ∃ k, cmpN (vl 4294967296 (dg 4294967296 a.natAbs)) (vl 4294967296 (dg 4294967296 b.natAbs)) = k := ⟨_, rfl⟩
 have hc : kap < 0 := by
  rw [← hkap, vl_dg (by omega), vl_dg (by omega), cmpN_lt hle]
  omega
 have HS := Lib.hid hsum
 have HK := Lib.hid hkap
 have e1 : (sgz a == sgz b) = false := by simpa using hs
 clear hsum hs hkap
 have HL := Lib.hid hle
 clear hle
 generalize sgz a = sg at *
 generalize sgz b = sb at *
 go_enter Tryz.func156, Tryz.ntmps156
 go_wp2_with fail
 refine (limb_Cmp A B n m c d _ _ _ _ (ha.now ?_) (hb.now ?_)).mono ?_
 ·(repeat (first | exact Below.refl _ _ | assumption | refine Below.drew ?_ | refine Below.setCell ?_ (by first | exact Nat.le_refl _ | (simp; done) | (simp; omega) | omega) _ | refine Below.alloc ?_ (by first | exact Nat.le_refl _ | exact Below.size (by assumption) | (simp; done) | (simp; omega) | omega) _))
 ·(repeat (first | exact Below.refl _ _ | assumption | refine Below.drew ?_ | refine Below.setCell ?_ (by first | exact Nat.le_refl _ | (simp; done) | (simp; omega) | omega) _ | refine Below.alloc ?_ (by first | exact Nat.le_refl _ | exact Below.size (by assumption) | (simp; done) | (simp; omega) | omega) _))
 rintro e w1 ⟨rfl, k, rfl⟩
 rw [HK.out]
 refine at_K (fun W0 => Below w.heap.size w W0 ∧ W0.heap.size = w.heap.size + 3 ∧ (W0.cell? ⟨w.heap.size, 0, none⟩ = some (.bool sg) ∧ W0.cell? ⟨w.heap.size, 1, none⟩ = some (.slice A n c)) ∧
  (W0.cell? ⟨w.heap.size + 1, 0, none⟩ = some (.bool sb) ∧ W0.cell? ⟨w.heap.size + 1, 1, none⟩ = some (.slice B m d)) ∧
  (W0.cell? ⟨w.heap.size + 2, 0, none⟩ = some (.bool false) ∧ W0.cell? ⟨w.heap.size + 2, 1, none⟩ = some (.slice none 0 0)) ∧
  (W0.frozen? ⟨w.heap.size, 0, none⟩ = false ∧ W0.frozen? ⟨w.heap.size, 1, none⟩ = false) ∧ (W0.frozen? ⟨w.heap.size + 1, 0, none⟩ = false ∧ W0.frozen? ⟨w.heap.size + 1, 1, none⟩ = false) ∧
  (W0.frozen? ⟨w.heap.size + 2, 0, none⟩ = false ∧ W0.frozen? ⟨w.heap.size + 2, 1, none⟩ = false)) ?_ ?_
 ·refine ⟨below_drewN (by (repeat (first | exact Below.refl _ _ | assumption | refine Below.drew ?_ | refine Below.setCell ?_ (by first | exact Nat.le_refl _ | (simp; done) | (simp; omega) | omega) _ | refine Below.alloc ?_ (by first | exact Nat.le_refl _ | exact Below.size (by assumption) | (simp; done) | (simp; omega) | omega) _))) _, by simp, ?_, ?_, ?_, ?_, ?_, ?_⟩ <;> constructor <;> simp only [cell_drewN, frozen_drewN] <;> go_simp
 rintro W0 ⟨hw0, hs0, ⟨p0, p1⟩, ⟨p2, p3⟩, ⟨p4, p5⟩, ⟨f0, f1⟩, ⟨f2, f3⟩, ⟨f4, f5⟩⟩
 go_wp2_with fail
 refine (limb_Sub B A m n d c _ _ _ (hb.now ?_) (ha.now ?_) (by omega) ?_).mono ?_
 ·(repeat (first | exact Below.refl _ _ | assumption | refine Below.drew ?_ | refine Below.setCell ?_ (by first | exact Nat.le_refl _ | (simp; done) | (simp; omega) | omega) _ | refine Below.alloc ?_ (by first | exact Nat.le_refl _ | exact Below.size (by assumption) | (simp; done) | (simp; omega) | omega) _))
 ·(repeat (first | exact Below.refl _ _ | assumption | refine Below.drew ?_ | refine Below.setCell ?_ (by first | exact Nat.le_refl _ | (simp; done) | (simp; omega) | omega) _ | refine Below.alloc ?_ (by first | exact Nat.le_refl _ | exact Below.size (by assumption) | (simp; done) | (simp; omega) | omega) _))
 ·rw [vl_dg (by omega), vl_dg (by omega)]; exact Nat.le_of_lt HL.out
 rintro e w1 ⟨A1, n1, c1, rfl, h1, hb1⟩
 rw [vl_dg (by omega), vl_dg (by omega)] at h1
 have hl1 := h1.len
 have hbig1 := h1.u32.big
 have hcap1 := h1.u32.cap
 have hc1 := (bcell hb1).1
 have hf1 := (bcell hb1).2
 simp [hs0] at hc1 hf1
 have hbw : Below w.heap.size w w1 := below_call (by (repeat (first | exact Below.refl _ _ | assumption | refine Below.drew ?_ | refine Below.setCell ?_ (by first | exact Nat.le_refl _ | (simp; done) | (simp; omega) | omega) _ | refine Below.alloc ?_ (by first | exact Nat.le_refl _ | exact Below.size (by assumption) | (simp; done) | (simp; omega) | omega) _))) (by simp; omega) hb1
 have hsz : w.heap.size + 3 ≤ w1.heap.size := by
  have := hb1.size
  simp at this
  omega
 have HZ := Lib.hid hsz
 clear hsz
 go_wp2_with fail
 have hsz := HZ.out
 have h1 := h1.base_le (base' := w.heap.size + 3) (by simp [hs0])
 clear hb1
 refine (big_signed _ A1 n1 c1 (by omega) _).mono ?_
 rintro e w2 ⟨rfl, hb2⟩
 rw [sgn_dg hl1, HS.out]
 have h2 := h1.over hb2
 have hs1 : w.heap.size + 3 ≤ w1.heap.size := hsz
 have hc2 : ∀ b o, b < w.heap.size + 3 → w2.cell? ⟨b, o, none⟩ = w1.cell? ⟨b, o, none⟩ := fun b o h => hb2.cell (p := ⟨b, o, none⟩) (show b < w1.heap.size by omega)
 have hf2 : ∀ b o, b < w.heap.size + 3 → w2.frozen? ⟨b, o, none⟩ = w1.frozen? ⟨b, o, none⟩ := fun b o h => hb2.frozen (p := ⟨b, o, none⟩) (show b < w1.heap.size by omega)
 have hbw2 : Below w.heap.size w w2 := hbw.trans (hb2.mono hbw.size)
 go_wp2_with fail
 refine bodyPost_ret (v := .agg #[.bool (sgz (a + b)), .slice A1 n1 c1]) (by simp [results, Tryz.results156, go_sem, World.cell?_setCell_other, hc2, hc1, p4, p5]) rfl ⟨A1, n1, c1, rfl, ?_, ?_⟩
 ·rw [← HS.out, sgn_abs]
  refine Own.base_le (((h2.setLow ?_ _).setLow ?_ _)) (by omega)
  ·simp
  simp
 (repeat (first | exact Below.refl _ _ | assumption | refine Below.drew ?_ | refine Below.setCell ?_ (by first | exact Nat.le_refl _ | (simp; done) | (simp; omega) | omega) _ | refine Below.alloc ?_ (by first | exact Nat.le_refl _ | exact Below.size (by assumption) | (simp; done) | (simp; omega) | omega) _))
theorem big_plus (a b : Int) (A B : Option Addr) (n m c d : Nat) (w : World) (ha : U32 w w.heap.size A n c (dg 4294967296 a.natAbs)) (hb : U32 w w.heap.size B m d (dg 4294967296 b.natAbs)) (hn : n ≤ 1099511627775) (hm : m ≤ 1099511627775) :
  Calls Tryz.prog 156 #[.agg #[.bool (sgz a), .slice A n c], .agg #[.bool (sgz b), .slice B m d]] w (OutZ (a + b) w) := by
 by_cases hs : sgz a = sgz b
 ·exact big_plus_same a b A B n m c d w ha hb hn hm hs
 rcases Nat.lt_or_ge a.natAbs b.natAbs with h | h
 ·exact big_plus_less a b A B n m c d w ha hb hm hs h
 exact big_plus_more a b A B n m c d w ha hb hn hs h
set_option maxHeartbeats 2000000 in
theorem big_Add (na nb : Bool) (A B : Option Addr) (n m c d : Nat) (xs ys : List Nat) (w : World) (ha : U32 w w.heap.size A n c xs) (hb : U32 w w.heap.size B m d ys) (hn : n ≤ 1099511627775) (hm : m ≤ 1099511627775) :
    Calls Tryz.prog 150 #[.agg #[.bool na, .slice A n c], .agg #[.bool nb, .slice B m d]] w (OutZ (zin na xs + zin nb ys) w) := by
  obtain ⟨A1, n1, c1, ha1, hn1, hof1⟩ := big_of na A n c xs w ha
  obtain ⟨B1, m1, d1, hb1, hm1, hof2⟩ := big_of nb B m d ys w hb
  generalize zin na xs = a at *
  generalize zin nb ys = b at *
  go_enter Tryz.func150, Tryz.ntmps150
  go_wp2_with fail
  refine at_wp (fun W0 => Hld w.heap.size w (w.heap.size + 2) (w.heap.size + 2) 2 W0 W0 ∧ W0.cell? ⟨w.heap.size, 0, none⟩ = some (.bool na) ∧ W0.cell? ⟨w.heap.size, 1, none⟩ = some (.slice A n c) ∧ W0.cell? ⟨w.heap.size + 1, 0, none⟩ = some (.bool nb) ∧ W0.cell? ⟨w.heap.size + 1, 1, none⟩ = some (.slice B m d)) ?_ ?_
  · refine ⟨⟨by (repeat (first | exact Below.refl _ _ | assumption | refine Below.drew ?_ | refine Below.setCell ?_ (by first | exact Nat.le_refl _ | (simp; done) | (simp; omega) | omega) _ | refine Below.alloc ?_ (by first | exact Nat.le_refl _ | exact Below.size (by assumption) | (simp; done) | (simp; omega) | omega) _)), by simp, by simp, by omega, by omega, fun _ _ _ _ => rfl, fun o ho => ?_⟩, ?_, ?_, ?_, ?_⟩
    · match o, ho with
      | 0, _ => constructor <;> go_simp
      | 1, _ => constructor <;> go_simp
    · go_simp
    · go_simp
    · go_simp
    go_simp
  rintro W0 ⟨hH0, p0, p1, p2, p3⟩
  go_region_held3 (fun w' => Hld w.heap.size w (w.heap.size + 2) (w.heap.size + 2) 2 W0 w') (repeat (first | assumption | exact hH0 | refine Hld.drew ?_ | refine Hld.setCell ?_ (by first | (left; simp; done) | (right; simp; done) | (right; simp; omega) | (right; omega)) _ | refine Hld.alloc ?_ _))
    (first
      | (go_at_call 151
         refine Hld.from (s := w.heap.size) (w := w) (B := w.heap.size + 2) (g := w.heap.size + 2) (k := 2) (W0 := W0) ?_ (fun hH => ?_)
         · (repeat (first | assumption | exact hH0 | refine Hld.drew ?_ | refine Hld.setCell ?_ (by first | (left; simp; done) | (right; simp; done) | (right; simp; omega) | (right; omega)) _ | refine Hld.alloc ?_ _))
         first
           | (with_reducible refine (hof1 _ hH.bel).mono ?_
              rintro e w1 ⟨rfl, hba⟩
              have hH1 := hH.call hba)
           | (with_reducible refine (hof2 _ hH.bel).mono ?_
              rintro e w2 ⟨rfl, hbb⟩
              have hH2 := hH.call hbb))
      | (go_at_call 156
         refine Hld.from (s := w.heap.size) (w := w) (B := w.heap.size + 2) (g := w.heap.size + 2) (k := 2) (W0 := W0) ?_ (fun hH => ?_)
         · (repeat (first | assumption | exact hH0 | refine Hld.drew ?_ | refine Hld.setCell ?_ (by first | (left; simp; done) | (right; simp; done) | (right; simp; omega) | (right; omega)) _ | refine Hld.alloc ?_ _))
         refine (big_plus a b A1 B1 n1 m1 c1 d1 _ (ha1.now hH.bel) (hb1.now hH.bel) (by omega) (by omega)).mono ?_
         rintro e w3 ⟨A3, n3, c3, rfl, h3, hbc⟩
         have hH3 := hH.call hbc
         obtain ⟨v0, hv0⟩ := hH3.res 0 (by omega)
         obtain ⟨v1, hv1⟩ := hH3.res 1 (by omega)
         have hf0 := hH3.fro 0 (by omega)
         have hf1 := hH3.fro 1 (by omega)
         have h3 := h3.base_le hH.base))
  all_goals
    go_wp2_with fail
    refine bodyPost_ret (v := .agg #[.bool (sgz (a + b)), .slice A3 n3 c3]) (by simp [results, Tryz.results150, go_sem, World.cell?_setCell_other, hv0, hv1]) rfl ⟨A3, n3, c3, rfl, ?_, ?_⟩
    · refine Own.base_le (((h3.setLow ?_ _).setLow ?_ _)) (by omega)
      · simp
      simp
    (have hb := hH3.bel; (repeat (first | exact Below.refl _ _ | assumption | refine Below.drew ?_ | refine Below.setCell ?_ (by first | exact Nat.le_refl _ | (simp; done) | (simp; omega) | omega) _ | refine Below.alloc ?_ (by first | exact Nat.le_refl _ | exact Below.size (by assumption) | (simp; done) | (simp; omega) | omega) _)))
theorem field_num (w : World) (s : Bool) (A : Option Addr) (n c : Nat) : (Instr.field 192 (.agg #[.bool s, .slice A n c]) 0).run Tryz.prog w = .ok (.agg #[.bool s, .slice A n c]) w := by kernel_rfl
theorem field_mag (w : World) (s : Bool) (A : Option Addr) (n c : Nat) : (Instr.field 24 (.agg #[.bool s, .slice A n c]) 1).run Tryz.prog w = .ok (.slice A n c) w := by kernel_rfl
set_option maxHeartbeats 2000000 in
theorem big_Sub (na nb : Bool) (A B : Option Addr) (n m c d : Nat) (xs ys : List Nat) (w : World) (ha : U32 w w.heap.size A n c xs) (hb : U32 w w.heap.size B m d ys) (hn : n ≤ 1099511627775) (hm : m ≤ 1099511627775) :
    Calls Tryz.prog 118 #[.agg #[.bool na, .slice A n c], .agg #[.bool nb, .slice B m d]] w (OutZ (zin na xs - zin nb ys) w) := by
  obtain ⟨A1, n1, c1, ha1, hn1, hof1⟩ := big_of na A n c xs w ha
  obtain ⟨B1, m1, d1, hb1, hm1, hof2⟩ := big_of nb B m d ys w hb
  generalize zin na xs = a at *
  generalize zin nb ys = b at *
  have hb2 : U32 w w.heap.size B1 m1 d1 (dg 4294967296 (-b).natAbs) := by rw [Int.natAbs_neg]; exact hb1
  go_enter Tryz.func118, Tryz.ntmps118
  go_wp2_with fail
  refine at_wp (fun W0 => Hld (w.heap.size) w (w.heap.size + 2) (w.heap.size + 2) 2 W0 W0 ∧ W0.cell? ⟨w.heap.size, 0, none⟩ = some (.bool na) ∧ W0.cell? ⟨w.heap.size, 1, none⟩ = some (.slice A n c) ∧ W0.cell? ⟨w.heap.size + 1, 0, none⟩ = some (.bool nb) ∧ W0.cell? ⟨w.heap.size + 1, 1, none⟩ = some (.slice B m d)) ?_ ?_
  · refine ⟨⟨by (repeat (first | exact Below.refl _ _ | assumption | refine Below.drew ?_ | refine Below.setCell ?_ (by first | exact Nat.le_refl _ | (simp; done) | (simp; omega) | omega) _ | refine Below.alloc ?_ (by first | exact Nat.le_refl _ | exact Below.size (by assumption) | (simp; done) | (simp; omega) | omega) _)), by simp, by simp, by omega, by omega, fun _ _ _ _ => rfl, fun o ho => ?_⟩, ?_, ?_, ?_, ?_⟩
    · match o, ho with
      | 0, _ => constructor <;> go_simp
      | 1, _ => constructor <;> go_simp
    · go_simp
    · go_simp
    · go_simp
    go_simp
  rintro W0 ⟨hH0, p0, p1, p2, p3⟩
  go_region_held3 (fun w' => Hld (w.heap.size) w (w.heap.size + 2) (w.heap.size + 2) 2 W0 w') (repeat (first | assumption | exact hH0 | refine Hld.drew ?_ | refine Hld.setCell ?_ (by first | (left; simp; done) | (right; simp; done) | (right; simp; omega) | (right; omega)) _ | refine Hld.alloc ?_ _))
    (first
      | (go_at_call 151
         refine Hld.from (s := w.heap.size) (w := w) (B := w.heap.size + 2) (g := w.heap.size + 2) (k := 2) (W0 := W0) ?_ (fun hH => ?_)
         · (repeat (first | assumption | exact hH0 | refine Hld.drew ?_ | refine Hld.setCell ?_ (by first | (left; simp; done) | (right; simp; done) | (right; simp; omega) | (right; omega)) _ | refine Hld.alloc ?_ _))
         first
           | (with_reducible refine (hof1 _ hH.bel).mono ?_
              rintro e w1 ⟨rfl, hba⟩
              have hH1 := hH.call hba)
           | (with_reducible refine (hof2 _ hH.bel).mono ?_
              rintro e w2 ⟨rfl, hbb⟩
              have hH2 := hH.call hbb))
      | (go_at_call 152
         refine Hld.from (s := w.heap.size) (w := w) (B := w.heap.size + 2) (g := w.heap.size + 2) (k := 2) (W0 := W0) ?_ (fun hH => ?_)
         · (repeat (first | assumption | exact hH0 | refine Hld.drew ?_ | refine Hld.setCell ?_ (by first | (left; simp; done) | (right; simp; done) | (right; simp; omega) | (right; omega)) _ | refine Hld.alloc ?_ _))
         refine (big_turned b B1 m1 d1 _ _ hb1 _).mono ?_
         rintro e w4 ⟨rfl, hbd⟩
         have hH4 := hH.call hbd)
      | (go_at_call 156
         refine Hld.from (s := w.heap.size) (w := w) (B := w.heap.size + 2) (g := w.heap.size + 2) (k := 2) (W0 := W0) ?_ (fun hH => ?_)
         · (repeat (first | assumption | exact hH0 | refine Hld.drew ?_ | refine Hld.setCell ?_ (by first | (left; simp; done) | (right; simp; done) | (right; simp; omega) | (right; omega)) _ | refine Hld.alloc ?_ _))
         refine (big_plus a (-b) A1 B1 n1 m1 c1 d1 _ (ha1.now hH.bel) (hb2.now hH.bel) (by omega) (by omega)).mono ?_
         rintro e w3 ⟨A3, n3, c3, rfl, h3, hbc⟩
         have hH3 := hH.call hbc
         rw [← Int.sub_eq_add_neg]
         rw [← Int.sub_eq_add_neg] at h3
         obtain ⟨v0, hv0⟩ := hH3.res 0 (by omega)
         obtain ⟨v1, hv1⟩ := hH3.res 1 (by omega)
         have hf0 := hH3.fro 0 (by omega)
         have hf1 := hH3.fro 1 (by omega)
         have h3 := h3.base_le hH.base))
  all_goals
    go_wp2_with fail
    refine bodyPost_ret (v := .agg #[.bool (sgz (a - b)), .slice A3 n3 c3]) (by simp [results, Tryz.results118, go_sem, World.cell?_setCell_other, hv0, hv1]) rfl ⟨A3, n3, c3, rfl, ?_, ?_⟩
    · refine Own.base_le (((h3.setLow ?_ _).setLow ?_ _)) (by omega)
      · simp
      simp
    (have hb := hH3.bel; (repeat (first | exact Below.refl _ _ | assumption | refine Below.drew ?_ | refine Below.setCell ?_ (by first | exact Nat.le_refl _ | (simp; done) | (simp; omega) | omega) _ | refine Below.alloc ?_ (by first | exact Nat.le_refl _ | exact Below.size (by assumption) | (simp; done) | (simp; omega) | omega) _)))
set_option maxHeartbeats 2000000 in
theorem big_Neg (na : Bool) (A : Option Addr) (n c : Nat) (xs : List Nat) (w : World) (ha : U32 w w.heap.size A n c xs) (hn : n ≤ 1099511627775) :
    Calls Tryz.prog 112 #[.agg #[.bool na, .slice A n c]] w (OutZ ( -zin na xs) w) := by
  obtain ⟨A1, n1, c1, ha1, hn1, hof1⟩ := big_of na A n c xs w ha
  generalize zin na xs = a at *
  have ha2 : U32 w w.heap.size A1 n1 c1 (dg 4294967296 (-a).natAbs) := by rw [Int.natAbs_neg]; exact ha1
  go_enter Tryz.func112, Tryz.ntmps112
  go_upto_region 1 with fail
  refine at_wp (fun W0 => Hld (w.heap.size) w (w.heap.size + 1) (w.heap.size + 1) 2 W0 W0 ∧ W0.cell? ⟨w.heap.size, 0, none⟩ = some (.bool na) ∧ W0.cell? ⟨w.heap.size, 1, none⟩ = some (.slice A n c)) ?_ ?_
  · refine ⟨⟨by (repeat (first | exact Below.refl _ _ | assumption | refine Below.drew ?_ | refine Below.setCell ?_ (by first | exact Nat.le_refl _ | (simp; done) | (simp; omega) | omega) _ | refine Below.alloc ?_ (by first | exact Nat.le_refl _ | exact Below.size (by assumption) | (simp; done) | (simp; omega) | omega) _)), by simp, by simp, by omega, by omega, fun _ _ _ _ => rfl, fun o ho => ?_⟩, ?_, ?_⟩
    · match o, ho with
      | 0, _ => constructor <;> go_simp
      | 1, _ => constructor <;> go_simp
    · go_simp
    go_simp
  rintro W0 ⟨hH0, p0, p1⟩
  go_wp2_with fail
  refine (hof1 _ hH0.bel).mono ?_
  rintro e w1 ⟨rfl, hba⟩
  have hH1 := hH0.call hba
  go_wp2_with fail
  refine (big_turned a A1 n1 c1 _ _ ha1 _).mono ?_
  rintro e w2 ⟨rfl, hbb⟩
  have hH2 := hH1.call hbb
  have hz2 := hH2.base
  go_wp2_with fail
  refine at_wp (fun W0 => Hld w.heap.size w (w2.heap.size + 1) (w.heap.size + 1) 2 W0 W0 ∧ W0.cell? ⟨w2.heap.size, 0, none⟩ = some (.bool (sgz (-a))) ∧ W0.cell? ⟨w2.heap.size, 1, none⟩ = some (.slice A1 n1 c1)) ?_ ?_
  · refine ⟨(hH2.alloc _).rebase (by simp) (by omega), ?_, ?_⟩
    · go_simp
    go_simp
  rintro W1 ⟨hH3, p2, p3⟩
  have hne : w2.heap.size ≠ w.heap.size + 1 := by omega
  go_region_held3 (fun w' => Hld w.heap.size w (w2.heap.size + 1) (w.heap.size + 1) 2 W1 w') (repeat (first | assumption | exact hH0 | refine Hld.drew ?_ | refine Hld.setCell ?_ (by first | (left; simp; done) | (right; simp; done) | (right; simp; omega) | (right; omega)) _ | refine Hld.alloc ?_ _))
    (first
      | (go_at_call 153
         refine Hld.from (s := w.heap.size) (w := w) (B := w2.heap.size + 1) (g := w.heap.size + 1) (k := 2) (W0 := W1) ?_ (fun hH => ?_)
         · (repeat (first | assumption | exact hH0 | refine Hld.drew ?_ | refine Hld.setCell ?_ (by first | (left; simp; done) | (right; simp; done) | (right; simp; omega) | (right; omega)) _ | refine Hld.alloc ?_ _))
         refine (clone32 A1 n1 c1 _ _ (ha2.now hH.bel) (by omega)).mono ?_
         rintro e w3 ⟨A3, n3, c3, rfl, h3, hbc⟩
         have hH3 := hH.call hbc
         obtain ⟨v0, hv0⟩ := hH3.res 0 (by omega)
         obtain ⟨v1, hv1⟩ := hH3.res 1 (by omega)
         have hf0 := hH3.fro 0 (by omega)
         have hf1 := hH3.fro 1 (by omega)
         have h3 := h3.base_le hH.base))
  all_goals
    go_wp2_with fail
    refine bodyPost_ret (v := .agg #[.bool (sgz (-a)), .slice A3 n3 c3]) (by simp [results, Tryz.results112, go_sem, World.cell?_setCell_other, hv0, hv1]) rfl ⟨A3, n3, c3, rfl, ?_, ?_⟩
    · refine Own.base_le (((h3.setLow ?_ _).setLow ?_ _)) (by omega)
      · simp
      simp
    (have hb := hH3.bel; (repeat (first | exact Below.refl _ _ | assumption | refine Below.drew ?_ | refine Below.setCell ?_ (by first | exact Nat.le_refl _ | (simp; done) | (simp; omega) | omega) _ | refine Below.alloc ?_ (by first | exact Nat.le_refl _ | exact Below.size (by assumption) | (simp; done) | (simp; omega) | omega) _)))
set_option maxHeartbeats 2000000 in
theorem big_Abs (na : Bool) (A : Option Addr) (n c : Nat) (xs : List Nat) (w : World) (ha : U32 w w.heap.size A n c xs) (hn : n ≤ 1099511627775) :
  Calls Tryz.prog 113 #[.agg #[.bool na, .slice A n c]] w (OutZ (((zin na xs).natAbs : Int)) w) := by
 obtain ⟨A1, n1, c1, ha1, hn1, hof1⟩ := big_of na A n c xs w ha
 generalize zin na xs = a at *
 have ha2 : U32 w w.heap.size A1 n1 c1 (dg 4294967296 ((a.natAbs : Int)).natAbs) := by rw [Int.natAbs_natCast]; exact ha1
 have fn := field_num
 have fm := field_mag
 go_enter Tryz.func113, Tryz.ntmps113
 go_upto_region 1 with fail
 refine at_wp (fun W0 => Hld (w.heap.size) w (w.heap.size + 1) (w.heap.size + 1) 2 W0 W0 ∧ W0.cell? ⟨w.heap.size, 0, none⟩ = some (.bool na) ∧ W0.cell? ⟨w.heap.size, 1, none⟩ = some (.slice A n c)) ?_ ?_
 ·refine ⟨⟨by (repeat (first | exact Below.refl _ _ | assumption | refine Below.drew ?_ | refine Below.setCell ?_ (by first | exact Nat.le_refl _ | (simp; done) | (simp; omega) | omega) _ | refine Below.alloc ?_ (by first | exact Nat.le_refl _ | exact Below.size (by assumption) | (simp; done) | (simp; omega) | omega) _)), by simp, by simp, by omega, by omega, fun _ _ _ _ => rfl, fun o ho => ?_⟩, ?_, ?_⟩
  ·match o, ho with
   | 0, _ => constructor <;> go_simp
   | 1, _ => constructor <;> go_simp
  ·go_simp
  go_simp
 rintro W0 ⟨hH0, p0, p1⟩
 go_wp2_with fail
 refine (hof1 _ hH0.bel).mono ?_
 rintro e w1 ⟨rfl, hba⟩
 have hH1 := hH0.call hba
 go_wp2_with fail
 refine (clone32 A1 n1 c1 _ _ (ha2.now hH1.bel) (by omega)).mono ?_
 rintro e w3 ⟨A3, n3, c3, rfl, h3, hbc⟩
 have hH3 := hH1.call hbc
 obtain ⟨v0, hv0⟩ := hH3.res 0 (by omega)
 obtain ⟨v1, hv1⟩ := hH3.res 1 (by omega)
 have hf0 := hH3.fro 0 (by omega)
 have hf1 := hH3.fro 1 (by omega)
 have h3 := h3.base_le hH1.base
 have e0 : sgz (a.natAbs : Int) = false := by unfold sgz; simp
 go_wp2_with fail
 refine bodyPost_ret (v := .agg #[.bool (sgz ((a.natAbs : Int))), .slice A3 n3 c3]) (by simp [results, Tryz.results113, go_sem, World.cell?_setCell_other, hv0, hv1, e0]) rfl ⟨A3, n3, c3, rfl, ?_, ?_⟩
 ·refine Own.base_le (((h3.setLow ?_ _).setLow ?_ _)) (by omega)
  ·simp
  simp
 (have hb := hH3.bel; (repeat (first | exact Below.refl _ _ | assumption | refine Below.drew ?_ | refine Below.setCell ?_ (by first | exact Nat.le_refl _ | (simp; done) | (simp; omega) | omega) _ | refine Below.alloc ?_ (by first | exact Nat.le_refl _ | exact Below.size (by assumption) | (simp; done) | (simp; omega) | omega) _)))
set_option maxHeartbeats 2000000 in
theorem big_Cmp (na nb : Bool) (A B : Option Addr) (n m c d : Nat) (xs ys : List Nat) (w : World) (ha : U32 w w.heap.size A n c xs) (hb : U32 w w.heap.size B m d ys) (hn : n ≤ 1099511627775) (hm : m ≤ 1099511627775) :
  Calls Tryz.prog 76 #[.agg #[.bool na, .slice A n c], .agg #[.bool nb, .slice B m d]] w fun e w' => e = .returned (.int .i64 (zin na xs - zin nb ys).sign) ∧ Below w.heap.size w w' := by
 go_enter Tryz.func76, Tryz.ntmps76
 go_wp2_with fail
 refine (big_Sub na nb A B n m c d xs ys _ (ha.now (by (repeat (first | exact Below.refl _ _ | assumption | refine Below.drew ?_ | refine Below.setCell ?_ (by first | exact Nat.le_refl _ | (simp; done) | (simp; omega) | omega) _ | refine Below.alloc ?_ (by first | exact Nat.le_refl _ | exact Below.size (by assumption) | (simp; done) | (simp; omega) | omega) _)))) (hb.now (by (repeat (first | exact Below.refl _ _ | assumption | refine Below.drew ?_ | refine Below.setCell ?_ (by first | exact Nat.le_refl _ | (simp; done) | (simp; omega) | omega) _ | refine Below.alloc ?_ (by first | exact Nat.le_refl _ | exact Below.size (by assumption) | (simp; done) | (simp; omega) | omega) _)))) hn hm).mono ?_
 rintro e w1 ⟨A1, n1, c1, rfl, h1, hb1⟩
 have hbw : Below w.heap.size w w1 := below_call (by (repeat (first | exact Below.refl _ _ | assumption | refine Below.drew ?_ | refine Below.setCell ?_ (by first | exact Nat.le_refl _ | (simp; done) | (simp; omega) | omega) _ | refine Below.alloc ?_ (by first | exact Nat.le_refl _ | exact Below.size (by assumption) | (simp; done) | (simp; omega) | omega) _))) (by simp; omega) hb1
 go_wp2_with fail
 refine (big_Sign _ A1 n1 c1 _ _ h1.u32).mono ?_
 rintro e w2 ⟨rfl, hb2⟩
 rw [zin_dg]
 have hbw2 : Below w.heap.size w w2 := hbw.trans (hb2.mono hbw.size)
 go_wp2_with fail
 go_ret
 exact ⟨rfl, hbw2⟩
theorem URows.two {w : World} {g n m c d : Nat} {A B : Option Addr} {xs ys : List Nat} (h0 : w.cell? ⟨g, 0, none⟩ = some (.slice A n c)) (h1 : w.cell? ⟨g, 1, none⟩ = some (.slice B m d)) (hg : g < w.heap.size)
  (ha : U32 w w.heap.size A n c xs) (hb : U32 w w.heap.size B m d ys) : URows w w.heap.size (some ⟨g, 0, none⟩) 2 2 [xs, ys] := by
 refine ⟨rfl, Nat.le_refl _, by omega, fun k hk => ?_⟩
 match k, hk with
 | 0, _ => exact ⟨g, 0, none, A, n, c, rfl, hg, h0, ha⟩
 | 1, _ => exact ⟨g, 0, none, B, m, d, rfl, hg, h1, hb⟩
set_option maxHeartbeats 2000000 in
theorem big_Gcd (na nb : Bool) (A B : Option Addr) (n m c d : Nat) (xs ys : List Nat) (w : World) (ha : U32 w w.heap.size A n c xs) (hb : U32 w w.heap.size B m d ys) (hn : n ≤ 549755813888) (hm : m ≤ 549755813888) :
    Calls Tryz.prog 121 #[.agg #[.bool na, .slice A n c], .agg #[.bool nb, .slice B m d]] w (OutZ (Int.gcd (zin na xs) (zin nb ys)) w) := by
  obtain ⟨A1, n1, c1, ha1, hn1, hof1⟩ := big_of na A n c xs w ha
  obtain ⟨B1, m1, d1, hb1, hm1, hof2⟩ := big_of nb B m d ys w hb
  generalize zin na xs = a at *
  generalize zin nb ys = b at *
  have fn := field_num
  have fm := field_mag
  have HA := Lib.hid ha1.len
  have HB := Lib.hid hb1.len
  go_enter Tryz.func121, Tryz.ntmps121
  go_wp2_with fail
  refine at_wp (fun W0 => Hld (w.heap.size) w (w.heap.size + 2) (w.heap.size + 2) 2 W0 W0 ∧ W0.cell? ⟨w.heap.size, 0, none⟩ = some (.bool na) ∧ W0.cell? ⟨w.heap.size, 1, none⟩ = some (.slice A n c) ∧ W0.cell? ⟨w.heap.size + 1, 0, none⟩ = some (.bool nb) ∧ W0.cell? ⟨w.heap.size + 1, 1, none⟩ = some (.slice B m d)) ?_ ?_
  · refine ⟨⟨by (repeat (first | exact Below.refl _ _ | assumption | refine Below.drew ?_ | refine Below.setCell ?_ (by first | exact Nat.le_refl _ | (simp; done) | (simp; omega) | omega) _ | refine Below.alloc ?_ (by first | exact Nat.le_refl _ | exact Below.size (by assumption) | (simp; done) | (simp; omega) | omega) _)), by simp, by simp, by omega, by omega, fun _ _ _ _ => rfl, fun o ho => ?_⟩, ?_, ?_, ?_, ?_⟩
    · match o, ho with
      | 0, _ => constructor <;> go_simp
      | 1, _ => constructor <;> go_simp
    · go_simp
    · go_simp
    · go_simp
    go_simp
  rintro W0 ⟨hH0, p0, p1, p2, p3⟩
  go_region_held3 (fun w' => Hld (w.heap.size) w (w.heap.size + 2) (w.heap.size + 2) 2 W0 w') (repeat (first | assumption | exact hH0 | refine Hld.drew ?_ | refine Hld.setCell ?_ (by first | (left; simp; done) | (right; simp; done) | (right; simp; omega) | (right; omega)) _ | refine Hld.alloc ?_ _))
    (first
      | (go_at_call 151
         refine Hld.from (s := w.heap.size) (w := w) (B := w.heap.size + 2) (g := w.heap.size + 2) (k := 2) (W0 := W0) ?_ (fun hH => ?_)
         · (repeat (first | assumption | exact hH0 | refine Hld.drew ?_ | refine Hld.setCell ?_ (by first | (left; simp; done) | (right; simp; done) | (right; simp; omega) | (right; omega)) _ | refine Hld.alloc ?_ _))
         first
           | (with_reducible refine (hof1 _ hH.bel).mono ?_
              rintro e w1 ⟨rfl, hba⟩
              have hH1 := hH.call hba)
           | (with_reducible refine (hof2 _ hH.bel).mono ?_
              rintro e w2 ⟨rfl, hbb⟩
              have hH2 := hH.call hbb))
      | (go_at_call 157
         refine Hld.from (s := w.heap.size) (w := w) (B := w.heap.size + 2) (g := w.heap.size + 2) (k := 2) (W0 := W0) ?_ (fun hH => ?_)
         · (repeat (first | assumption | exact hH0 | refine Hld.drew ?_ | refine Hld.setCell ?_ (by first | (left; simp; done) | (right; simp; done) | (right; simp; omega) | (right; omega)) _ | refine Hld.alloc ?_ _))
         refine (nat_Gcd _ 2 2 [dg 4294967296 a.natAbs, dg 4294967296 b.natAbs] _ (URows.two (cell_new _ _ _ 0 rfl) (cell_new _ _ _ 1 rfl) (by simp) (ha1.now hH.bel) (hb1.now hH.bel)) (by omega) ?_).mono ?_
         · intro k hk
           match k, hk with
           | 0, _ => (have e := HA.out; show (dg 4294967296 a.natAbs).length ≤ _; omega)
           | 1, _ => (have e := HB.out; show (dg 4294967296 b.natAbs).length ≤ _; omega)
         rintro e w3 ⟨A3, n3, c3, rfl, h3, hbc⟩
         rw [gcdL_two, vl_dg (by omega), vl_dg (by omega)] at h3
         have hH3 := hH.call hbc
         have h3 := h3.base_le hH.base
         have hl3 := h3.len
         have hcap3 := h3.u32.cap
         have hbig3 := h3.u32.big)
      | (go_at_call 148
         refine Hld.from (s := w.heap.size) (w := w) (B := w.heap.size + 2) (g := w.heap.size + 2) (k := 2) (W0 := W0) ?_ (fun hH => ?_)
         · (repeat (first | assumption | exact hH0 | refine Hld.drew ?_ | refine Hld.setCell ?_ (by first | (left; simp; done) | (right; simp; done) | (right; simp; omega) | (right; omega)) _ | refine Hld.alloc ?_ _))
         refine (big_signed _ A3 n3 c3 (by omega) _).mono ?_
         rintro e w5 ⟨rfl, hbd⟩
         rw [Bool.false_and]
         have h5 := h3.over hbd
         have hH5 := hH.call hbd
         obtain ⟨v0, hv0⟩ := hH5.res 0 (by omega)
         obtain ⟨v1, hv1⟩ := hH5.res 1 (by omega)
         have hf0 := hH5.fro 0 (by omega)
         have hf1 := hH5.fro 1 (by omega)))
  all_goals
    go_wp2_with fail
    have e0 : sgz (Int.gcd a b : Int) = false := by unfold sgz; simp
    refine bodyPost_ret (v := .agg #[.bool (sgz (Int.gcd a b : Int)), .slice A3 n3 c3]) (by simp [results, Tryz.results121, go_sem, World.cell?_setCell_other, hv0, hv1, e0]) rfl ⟨A3, n3, c3, rfl, ?_, ?_⟩
    · rw [Int.natAbs_natCast]
      refine Own.base_le (((h5.setLow ?_ _).setLow ?_ _)) (by omega)
      · simp
      simp
    (have hb := hH5.bel; (repeat (first | exact Below.refl _ _ | assumption | refine Below.drew ?_ | refine Below.setCell ?_ (by first | exact Nat.le_refl _ | (simp; done) | (simp; omega) | omega) _ | refine Below.alloc ?_ (by first | exact Nat.le_refl _ | exact Below.size (by assumption) | (simp; done) | (simp; omega) | omega) _)))
theorem sgn_mul (a b : Int) : sgn (!(sgz a == sgz b)) (a.natAbs * b.natAbs) = a * b := by
 show sgn (sgz a != sgz b) (a.natAbs * b.natAbs) = a * b
 unfold sgn sgz
 have e : ((a.natAbs * b.natAbs : Nat) : Int) = (a.natAbs : Int) * (b.natAbs : Int) := by simp
 rw [e]
 by_cases ha : a < 0 <;> by_cases hb : b < 0 <;> simp only [ha, hb, decide_true, decide_false, bne_self_eq_false, Bool.false_eq_true, if_false, if_true, Bool.true_bne, Bool.false_bne, Bool.not_false, Bool.not_true]
 ·rw [show (a.natAbs : Int) = -a by omega, show (b.natAbs : Int) = -b by omega, Int.neg_mul_neg]
 ·rw [show (a.natAbs : Int) = -a by omega, show (b.natAbs : Int) = b by omega, Int.neg_mul, Int.neg_neg]
 ·rw [show (a.natAbs : Int) = a by omega, show (b.natAbs : Int) = -b by omega, Int.mul_neg, Int.neg_neg]
 rw [show (a.natAbs : Int) = a by omega, show (b.natAbs : Int) = b by omega]
set_option maxHeartbeats 2000000 in
theorem big_Mul (na nb : Bool) (A B : Option Addr) (n m c d : Nat) (xs ys : List Nat) (w : World) (ha : U32 w w.heap.size A n c xs) (hb : U32 w w.heap.size B m d ys) (hn : n ≤ 549755813888) (hm : m ≤ 549755813888) :
    Calls Tryz.prog 116 #[.agg #[.bool na, .slice A n c], .agg #[.bool nb, .slice B m d]] w (OutZ (zin na xs * zin nb ys) w) := by
  obtain ⟨A1, n1, c1, ha1, hn1, hof1⟩ := big_of na A n c xs w ha
  obtain ⟨B1, m1, d1, hb1, hm1, hof2⟩ := big_of nb B m d ys w hb
  generalize zin na xs = a at *
  generalize zin nb ys = b at *
  go_enter Tryz.func116, Tryz.ntmps116
  go_upto_region 1 with fail
  refine at_wp (fun W0 => Hld (w.heap.size) w (w.heap.size + 2) (w.heap.size + 2) 2 W0 W0 ∧ W0.cell? ⟨w.heap.size, 0, none⟩ = some (.bool na) ∧ W0.cell? ⟨w.heap.size, 1, none⟩ = some (.slice A n c) ∧ W0.cell? ⟨w.heap.size + 1, 0, none⟩ = some (.bool nb) ∧ W0.cell? ⟨w.heap.size + 1, 1, none⟩ = some (.slice B m d)) ?_ ?_
  · refine ⟨⟨by (repeat (first | exact Below.refl _ _ | assumption | refine Below.drew ?_ | refine Below.setCell ?_ (by first | exact Nat.le_refl _ | (simp; done) | (simp; omega) | omega) _ | refine Below.alloc ?_ (by first | exact Nat.le_refl _ | exact Below.size (by assumption) | (simp; done) | (simp; omega) | omega) _)), by simp, by simp, by omega, by omega, fun _ _ _ _ => rfl, fun o ho => ?_⟩, ?_, ?_, ?_, ?_⟩
    · match o, ho with
      | 0, _ => constructor <;> go_simp
      | 1, _ => constructor <;> go_simp
    · go_simp
    · go_simp
    · go_simp
    go_simp
  rintro W0 ⟨hH0, p0, p1, p2, p3⟩
  go_cut [5, 6] from 7 (fun x y wx => ∃ g5 g6, x = .pointer (some ⟨g5, 0, none⟩) ∧ y = .pointer (some ⟨g6, 0, none⟩) ∧ Hld w.heap.size w wx.heap.size (w.heap.size + 2) 2 wx wx ∧ (w.heap.size + 2 < g5 ∧ w.heap.size + 2 < g6 ∧ g5 < wx.heap.size ∧ g6 < wx.heap.size) ∧
    wx.cell? ⟨g5, 0, none⟩ = some (.bool (sgz a)) ∧ wx.cell? ⟨g5, 1, none⟩ = some (.slice A1 n1 c1) ∧ wx.cell? ⟨g6, 0, none⟩ = some (.bool (sgz b)) ∧ wx.cell? ⟨g6, 1, none⟩ = some (.slice B1 m1 d1))
  case first =>
    have hz0 := hH0.base
    have hl1 : ∀ a b : Nat, a < b → a < b + 1 := fun _ _ h => Nat.lt_succ_of_lt h
    have hn1 : ∀ a b : Nat, a < b → a ≠ b := fun _ _ h => Nat.ne_of_lt h
    have hn2 : ∀ a b : Nat, b < a → a ≠ b := fun _ _ h => Nat.ne_of_gt h
    go_region_held3 (fun w' => Hld (w.heap.size) w (w.heap.size + 2) (w.heap.size + 2) 2 W0 w') (repeat (first | assumption | exact hH0 | exact hH4 | refine Hld.drew ?_ | refine Hld.setCell ?_ (by first | (left; simp; done) | (right; simp; done) | (right; simp; omega) | (right; omega)) _ | refine Hld.alloc ?_ _))
      (first
        | (go_at_call 151
           refine Hld.from (s := w.heap.size) (w := w) (B := w.heap.size + 2) (g := w.heap.size + 2) (k := 2) (W0 := W0) ?_ (fun hH => ?_)
           · (repeat (first | assumption | exact hH0 | exact hH4 | refine Hld.drew ?_ | refine Hld.setCell ?_ (by first | (left; simp; done) | (right; simp; done) | (right; simp; omega) | (right; omega)) _ | refine Hld.alloc ?_ _))
           first
             | (with_reducible refine (hof1 _ hH.bel).mono ?_
                rintro e w1 ⟨rfl, hba⟩
                have hH1 := hH.call hba
                have hz1 := hH1.base
                obtain ⟨hca, hfa⟩ := bcell hba
                (try simp [heap_drew] at hca hfa)
                (try have ia0 : W0.heap.size < w1.heap.size := by (have h := hba.size; (try simp [heap_drew] at h); omega))
                (try have ia1 : W0.heap.size + 1 < w1.heap.size := by (have h := hba.size; (try simp [heap_drew] at h); omega))
                (try have ia2 : w2.heap.size < w1.heap.size := by (have h := hba.size; (try simp [heap_drew] at h); omega))
                (try have ia3 : w2.heap.size + 1 < w1.heap.size := by (have h := hba.size; (try simp [heap_drew] at h); omega)))
             | (with_reducible refine (hof2 _ hH.bel).mono ?_
                rintro e w2 ⟨rfl, hbb⟩
                have hH2 := hH.call hbb
                have hz2 := hH2.base
                obtain ⟨hcb, hfb⟩ := bcell hbb
                (try simp [heap_drew] at hcb hfb)
                (try have ib0 : W0.heap.size < w2.heap.size := by (have h := hbb.size; (try simp [heap_drew] at h); omega))
                (try have ib1 : W0.heap.size + 1 < w2.heap.size := by (have h := hbb.size; (try simp [heap_drew] at h); omega))
                (try have ib2 : w1.heap.size < w2.heap.size := by (have h := hbb.size; (try simp [heap_drew] at h); omega))
                (try have ib3 : w1.heap.size + 1 < w2.heap.size := by (have h := hbb.size; (try simp [heap_drew] at h); omega)))))
    all_goals
      go_wp2_with fail
      go_meet
      refine ⟨_, _, rfl, rfl, Hld.rebase (by assumption) (Nat.le_refl _) ?_, ⟨?_, ?_, ?_, ?_⟩, ?_, ?_, ?_, ?_⟩ <;> first | omega | (simp; omega) | (simp; done) | (go_simp; done) | (go_simp; refine cell_set_eq ?_; go_simp; done)
  case rest =>
    obtain ⟨g5, g6, rfl, rfl, hH4, ⟨r5, r6, r7, r8⟩, p4, p5, p6, p7⟩ := hcut
    have q5 : g5 ≠ w.heap.size + 2 := by omega
    have q6 : g6 ≠ w.heap.size + 2 := by omega
    go_wp2_with fail
    go_region_held3 (fun w' => Hld (w.heap.size) w (wc.heap.size) (w.heap.size + 2) 2 wc w') (repeat (first | assumption | exact hH0 | exact hH4 | refine Hld.drew ?_ | refine Hld.setCell ?_ (by first | (left; simp; done) | (right; simp; done) | (right; simp; omega) | (right; omega)) _ | refine Hld.alloc ?_ _))
      (first
        | (go_at_call 155
           refine Hld.from (s := w.heap.size) (w := w) (B := wc.heap.size) (g := w.heap.size + 2) (k := 2) (W0 := wc) ?_ (fun hH => ?_)
           · (repeat (first | assumption | exact hH0 | exact hH4 | refine Hld.drew ?_ | refine Hld.setCell ?_ (by first | (left; simp; done) | (right; simp; done) | (right; simp; omega) | (right; omega)) _ | refine Hld.alloc ?_ _))
           refine (nat_Mul A1 B1 n1 m1 c1 d1 _ _ _ (ha1.now hH.bel) (hb1.now hH.bel) (by omega) (by omega)).mono ?_
           rintro e w3 ⟨A3, n3, c3, rfl, h3, hbc⟩
           rw [vl_dg (by omega), vl_dg (by omega)] at h3
           have hH3 := hH.call hbc
           have h3 := h3.base_le hH.base
           have hl3 := h3.len
           have hcap3 := h3.u32.cap
           have hbig3 := h3.u32.big)
        | (go_at_call 148
           refine Hld.from (s := w.heap.size) (w := w) (B := wc.heap.size) (g := w.heap.size + 2) (k := 2) (W0 := wc) ?_ (fun hH => ?_)
           · (repeat (first | assumption | exact hH0 | exact hH4 | refine Hld.drew ?_ | refine Hld.setCell ?_ (by first | (left; simp; done) | (right; simp; done) | (right; simp; omega) | (right; omega)) _ | refine Hld.alloc ?_ _))
           refine (big_signed _ A3 n3 c3 (by omega) _).mono ?_
           rintro e w5 ⟨rfl, hbd⟩
           rw [sgn_dg hl3, sgn_mul]
           have h5 := h3.over hbd
           have hH5 := hH.call hbd
           obtain ⟨v0, hv0⟩ := hH5.res 0 (by omega)
           obtain ⟨v1, hv1⟩ := hH5.res 1 (by omega)
           have hf0 := hH5.fro 0 (by omega)
           have hf1 := hH5.fro 1 (by omega)))
    all_goals
      go_wp2_with fail
      refine bodyPost_ret (v := .agg #[.bool (sgz (a * b)), .slice A3 n3 c3]) (by simp [results, Tryz.results116, go_sem, World.cell?_setCell_other, hv0, hv1]) rfl ⟨A3, n3, c3, rfl, ?_, ?_⟩
      · rw [Int.natAbs_mul]
        refine Own.base_le (((h5.setLow ?_ _).setLow ?_ _)) (by omega)
        · simp
        simp
      (have hb := hH5.bel; (repeat (first | exact Below.refl _ _ | assumption | refine Below.drew ?_ | refine Below.setCell ?_ (by first | exact Nat.le_refl _ | (simp; done) | (simp; omega) | omega) _ | refine Below.alloc ?_ (by first | exact Nat.le_refl _ | exact Below.size (by assumption) | (simp; done) | (simp; omega) | omega) _)))
abbrev Hld2 (s : Nat) (w : World) (B g g' k : Nat) (W0 w' : World) : Prop :=
 Below s w w' ∧ (g < w'.heap.size ∧ g' < w'.heap.size ∧ s ≤ g') ∧ B ≤ w'.heap.size ∧ s ≤ g ∧ s ≤ B ∧ (∀ b o, b < B → b ≠ g → b ≠ g' → w'.cell? ⟨b, o, none⟩ = W0.cell? ⟨b, o, none⟩) ∧ (∀ o, o < k → (w'.cell? ⟨g, o, none⟩).isSome = true ∧ w'.frozen? ⟨g, o, none⟩ = false) ∧
  (∀ o, o < k → (w'.cell? ⟨g', o, none⟩).isSome = true ∧ w'.frozen? ⟨g', o, none⟩ = false)
theorem Hld2.call {s B g g' k : Nat} {w W0 W w1 : World} (h : Hld2 s w B g g' k W0 W) (hb : Below W.heap.size W w1) : Hld2 s w B g g' k W0 w1 := by
 obtain ⟨h1, ⟨h2, h2'', h2b⟩, h2', h3, h4, h5, h6, h7⟩ := h
 refine ⟨h1.trans (hb.mono (by omega)), ⟨Nat.lt_of_lt_of_le h2 hb.size, Nat.lt_of_lt_of_le h2'' hb.size, h2b⟩, Nat.le_trans h2' hb.size, h3, h4, fun b o hlt hne hne' => ?_, fun o ho => ?_, fun o ho => ?_⟩
 ·rw [hb.cell (p := ⟨b, o, none⟩) (show b < W.heap.size by omega)]
  exact h5 b o hlt hne hne'
 ·rw [hb.cell (p := ⟨g, o, none⟩) h2, hb.frozen (p := ⟨g, o, none⟩) h2]
  exact h6 o ho
 rw [hb.cell (p := ⟨g', o, none⟩) h2'', hb.frozen (p := ⟨g', o, none⟩) h2'']
 exact h7 o ho
theorem Hld2.alloc {s B g g' k : Nat} {w W0 W : World} (h : Hld2 s w B g g' k W0 W) (o : Obj) : Hld2 s w B g g' k W0 (W.alloc o) := Hld2.call h (below_new W o)
theorem Hld2.drew {s B g g' k : Nat} {w W0 W : World} (h : Hld2 s w B g g' k W0 W) : Hld2 s w B g g' k W0 W.drew := ⟨h.1.drew, h.2⟩
theorem Hld2.setCell {s B g g' k : Nat} {w W0 W : World} (h : Hld2 s w B g g' k W0 W) {p : Addr} (hp : p.block = g ∨ p.block = g' ∨ B ≤ p.block) (v : Value) : Hld2 s w B g g' k W0 (W.setCell p v) := by
 obtain ⟨h1, ⟨h2, h2'', h2b⟩, h2', h3, h4, h5, h6, h7⟩ := h
 refine ⟨h1.setCell (by omega) v, ⟨by simpa using h2, by simpa using h2'', h2b⟩, by simpa using h2', h3, h4, fun b o hlt hne hne' => ?_, fun o ho => ⟨?_, ?_⟩, fun o ho => ⟨?_, ?_⟩⟩
 ·rw [World.cell?_setCell_far _ _ _ _ (by show p.block ≠ b; omega)]
  exact h5 b o hlt hne hne'
 ·obtain ⟨v', hv'⟩ := Option.isSome_iff_exists.1 (h6 o ho).1
  obtain ⟨v'', hv''⟩ := cell?_setCell_some (p := p) (x := v) hv'
  rw [hv'']; rfl
 ·rw [frozen_setCell]; exact (h6 o ho).2
 ·obtain ⟨v', hv'⟩ := Option.isSome_iff_exists.1 (h7 o ho).1
  obtain ⟨v'', hv''⟩ := cell?_setCell_some (p := p) (x := v) hv'
  rw [hv'']; rfl
 rw [frozen_setCell]; exact (h7 o ho).2
theorem Hld2.from {P : Program} {f : FuncId} {args : Array Value} {s B g g' k : Nat} {w W0 W : World} {R : Ending → World → Prop} (hS : Hld2 s w B g g' k W0 W) (h : Hld2 s w B g g' k W0 W → Calls P f args W R) : Calls P f args W R := h hS
theorem Hld2.bel {s B g g' k : Nat} {w W0 W : World} (h : Hld2 s w B g g' k W0 W) : Below s w W := h.1
theorem Hld2.res {s B g g' k : Nat} {w W0 W : World} (h : Hld2 s w B g g' k W0 W) (o : Nat) (ho : o < k) : ∃ v, W.cell? ⟨g, o, none⟩ = some v := Option.isSome_iff_exists.1 (h.2.2.2.2.2.2.1 o ho).1
theorem Hld2.fro {s B g g' k : Nat} {w W0 W : World} (h : Hld2 s w B g g' k W0 W) (o : Nat) (ho : o < k) : W.frozen? ⟨g, o, none⟩ = false := (h.2.2.2.2.2.2.1 o ho).2
theorem Hld2.res' {s B g g' k : Nat} {w W0 W : World} (h : Hld2 s w B g g' k W0 W) (o : Nat) (ho : o < k) : ∃ v, W.cell? ⟨g', o, none⟩ = some v := Option.isSome_iff_exists.1 (h.2.2.2.2.2.2.2 o ho).1
theorem Hld2.fro' {s B g g' k : Nat} {w W0 W : World} (h : Hld2 s w B g g' k W0 W) (o : Nat) (ho : o < k) : W.frozen? ⟨g', o, none⟩ = false := (h.2.2.2.2.2.2.2 o ho).2
theorem Hld2.base {s B g g' k : Nat} {w W0 W : World} (h : Hld2 s w B g g' k W0 W) : g + 1 ≤ W.heap.size := h.2.1.1
theorem Hld2.base' {s B g g' k : Nat} {w W0 W : World} (h : Hld2 s w B g g' k W0 W) : g' + 1 ≤ W.heap.size := h.2.1.2.1
theorem Hld2.rebase {s B g g' k : Nat} {w W0 W : World} (h : Hld2 s w B g g' k W0 W) {B' : Nat} (h1 : B' ≤ W.heap.size) (h2 : s ≤ B') : Hld2 s w B' g g' k W W :=
 ⟨h.1, h.2.1, h1, h.2.2.2.1, h2, fun _ _ _ _ _ => rfl, h.2.2.2.2.2.2⟩
theorem Own.drw {t : TypeId} {w : World} {base n c : Nat} {A : Option Addr} {xs : List Nat} (h : Own t w base A n c xs) : Own t w.drew base A n c xs := ⟨h.row, h.lim⟩
theorem u32_one (w : World) (x : Nat) (hx : x < 4294967296) (e : TypeId) : U32 (w.alloc (.cells #[.int .u32 (x : Int)] e)) (w.alloc (.cells #[.int .u32 (x : Int)] e)).heap.size (some ⟨w.heap.size, 0, none⟩) 1 1 [x] := by
 refine ⟨⟨rfl, Nat.le_refl _, by omega, fun _ => ⟨⟨w.heap.size, 0, none⟩, rfl, by simp, fun k u hk => ?_⟩⟩, fun y hy => by simp at hy; omega⟩
 match k with
 | 0 =>
  have e1 : (⟨w.heap.size, 0, none⟩ : Addr).add 0 = ⟨w.heap.size, 0, none⟩ := rfl
  rw [e1, cell_new _ _ _ 0 rfl]
  simpa [c32] using hk
 | k + 1 => simp [c32] at hk
abbrev Hld0 (s : Nat) (w : World) (B : Nat) (W0 w' : World) : Prop :=
 Below s w w' ∧ B ≤ w'.heap.size ∧ s ≤ B ∧ (∀ b o, b < B → w'.cell? ⟨b, o, none⟩ = W0.cell? ⟨b, o, none⟩)
theorem Hld0.call {s B : Nat} {w W0 W w1 : World} (h : Hld0 s w B W0 W) (hb : Below W.heap.size W w1) : Hld0 s w B W0 w1 := by
 obtain ⟨h1, h2, h4, h5⟩ := h
 refine ⟨h1.trans (hb.mono (by omega)), Nat.le_trans h2 hb.size, h4, fun b o hlt => ?_⟩
 rw [hb.cell (p := ⟨b, o, none⟩) (show b < W.heap.size by omega)]
 exact h5 b o hlt
theorem Hld0.bel {s B : Nat} {w W0 W : World} (h : Hld0 s w B W0 W) : Below s w W := h.1
theorem fdm {a b q r : Int} (h0 : b ≠ 0) (h : r + b * q = a) (hp : 0 < b → 0 ≤ r ∧ r < b) (hn : b < 0 → b < r ∧ r ≤ 0) : a.fdiv b = q ∧ a.fmod b = r := by
 by_cases hb : 0 < b
 ·exact (Int.fdiv_fmod_unique hb).2 ⟨h, hp hb⟩
 exact (Int.fdiv_fmod_unique' (by omega)).2 ⟨h, hn (by omega)⟩
theorem dm_same {a b : Int} (h0 : b ≠ 0) (hs : sgz a = sgz b) : a.fdiv b = sgn false (a.natAbs / b.natAbs) ∧ a.fmod b = sgn (sgz b) (a.natAbs % b.natAbs) := by
 have e := Nat.div_add_mod a.natAbs b.natAbs
 have l := Nat.mod_lt a.natAbs (show 0 < b.natAbs by omega)
 generalize a.natAbs / b.natAbs = q at *
 generalize a.natAbs % b.natAbs = r at *
 have e2 : (b.natAbs : Int) * q + r = a.natAbs := by exact_mod_cast e
 by_cases hb : b < 0
 ·have ha : a < 0 := by simpa [sgz, hb] using hs
  rw [show (b.natAbs : Int) = -b by omega, show (a.natAbs : Int) = -a by omega, Int.neg_mul] at e2
  apply fdm h0 <;> simp [sgn, sgz, hb] <;> omega
 have ha : ¬ a < 0 := by simpa [sgz, hb] using hs
 rw [show (b.natAbs : Int) = b by omega, show (a.natAbs : Int) = a by omega] at e2
 apply fdm h0 <;> simp [sgn, sgz, hb] <;> omega
theorem dm_zero {a b : Int} (h0 : b ≠ 0) (hs : sgz a ≠ sgz b) (hr : a.natAbs % b.natAbs = 0) : a.fdiv b = sgn true (a.natAbs / b.natAbs) ∧ a.fmod b = sgn (sgz b) (a.natAbs % b.natAbs) := by
 have e := Nat.div_add_mod a.natAbs b.natAbs
 rw [hr] at e ⊢
 generalize a.natAbs / b.natAbs = q at *
 have e2 : (b.natAbs : Int) * q = a.natAbs := by exact_mod_cast e
 by_cases hb : b < 0
 ·have ha : ¬ a < 0 := by simpa [sgz, hb] using hs
  rw [show (b.natAbs : Int) = -b by omega, show (a.natAbs : Int) = a by omega, Int.neg_mul] at e2
  apply fdm h0 <;> simp [sgn, sgz, hb, Int.mul_neg] <;> omega
 have ha : a < 0 := by simpa [sgz, hb] using hs
 rw [show (b.natAbs : Int) = b by omega, show (a.natAbs : Int) = -a by omega] at e2
 apply fdm h0 <;> simp [sgn, sgz, hb, Int.mul_neg] <;> omega
theorem dm_rest {a b : Int} (h0 : b ≠ 0) (hs : sgz a ≠ sgz b) (hr : a.natAbs % b.natAbs ≠ 0) : a.fdiv b = sgn true (a.natAbs / b.natAbs + 1) ∧ a.fmod b = sgn (sgz b) (b.natAbs - a.natAbs % b.natAbs) := by
 have e := Nat.div_add_mod a.natAbs b.natAbs
 have l := Nat.mod_lt a.natAbs (show 0 < b.natAbs by omega)
 generalize a.natAbs / b.natAbs = q at *
 generalize a.natAbs % b.natAbs = r at *
 have e2 : (b.natAbs : Int) * q + r = a.natAbs := by exact_mod_cast e
 by_cases hb : b < 0
 ·have ha : ¬ a < 0 := by simpa [sgz, hb] using hs
  rw [show (b.natAbs : Int) = -b by omega, show (a.natAbs : Int) = a by omega, Int.neg_mul] at e2
  apply fdm h0 <;> simp [sgn, sgz, hb, Int.mul_neg, Int.mul_add] <;> omega
 have ha : a < 0 := by simpa [sgz, hb] using hs
 rw [show (b.natAbs : Int) = b by omega, show (a.natAbs : Int) = -a by omega] at e2
 apply fdm h0 <;> simp [sgn, sgz, hb, Int.mul_neg, Int.mul_add] <;> omega
def OutQR (q r : Int) (w : World) (e : Ending) (w' : World) : Prop :=
 ∃ A n c A' n' c', e = .returned (.tuple #[.agg #[.bool (sgz q), .slice A n c], .agg #[.bool (sgz r), .slice A' n' c'], .int .i64 0]) ∧ Own 109 w' w.heap.size A n c (dg 4294967296 q.natAbs) ∧ Own 109 w' w.heap.size A' n' c' (dg 4294967296 r.natAbs) ∧ Below w.heap.size w w'
set_option maxHeartbeats 4000000 in
theorem big_DivMod (na nb : Bool) (A B : Option Addr) (n m c d : Nat) (xs ys : List Nat) (w : World) (ha : U32 w w.heap.size A n c xs) (hb : U32 w w.heap.size B m d ys) (hn : n ≤ 549755813888) (hm : m ≤ 549755813888) (h0 : zin nb ys ≠ 0) :
    Calls Tryz.prog 154 #[.agg #[.bool na, .slice A n c], .agg #[.bool nb, .slice B m d]] w (OutQR ((zin na xs).fdiv (zin nb ys)) ((zin na xs).fmod (zin nb ys)) w) := by
  obtain ⟨A1, n1, c1, ha1, hn1, hof1⟩ := big_of na A n c xs w ha
  obtain ⟨B1, m1, d1, hb1, hm1, hof2⟩ := big_of nb B m d ys w hb
  generalize zin na xs = a at *
  generalize zin nb ys = b at *
  go_enter Tryz.func154, Tryz.ntmps154
  go_upto_region 1 with fail
  refine at_wp (fun W0 => Hld2 w.heap.size w (w.heap.size + 2) (w.heap.size + 2) (w.heap.size + 3) 2 W0 W0 ∧ W0.cell? ⟨w.heap.size, 0, none⟩ = some (.bool na) ∧ W0.cell? ⟨w.heap.size, 1, none⟩ = some (.slice A n c) ∧ W0.cell? ⟨w.heap.size + 1, 0, none⟩ = some (.bool nb) ∧ W0.cell? ⟨w.heap.size + 1, 1, none⟩ = some (.slice B m d)) ?_ ?_
  · refine ⟨⟨by (repeat (first | exact Below.refl _ _ | assumption | refine Below.drew ?_ | refine Below.setCell ?_ (by first | exact Nat.le_refl _ | (simp; done) | (simp; omega) | omega) _ | refine Below.alloc ?_ (by first | exact Nat.le_refl _ | exact Below.size (by assumption) | (simp; done) | (simp; omega) | omega) _)), ⟨by simp, by simp, by omega⟩, by (first | (simp; done) | (simp; omega)), by omega, by omega, fun _ _ _ _ _ => rfl, fun o ho => ?_, fun o ho => ?_⟩, ?_, ?_, ?_, ?_⟩
    · match o, ho with
      | 0, _ => constructor <;> go_simp
      | 1, _ => constructor <;> go_simp
    · match o, ho with
      | 0, _ => constructor <;> go_simp
      | 1, _ => constructor <;> go_simp
    · go_simp
    · go_simp
    · go_simp
    go_simp
  rintro W0 ⟨hH0, p0, p1, p2, p3⟩
  go_cut [7, 8] from 9 (fun x y wx => ∃ g5 g6, x = .pointer (some ⟨g5, 0, none⟩) ∧ y = .pointer (some ⟨g6, 0, none⟩) ∧ Hld2 w.heap.size w wx.heap.size (w.heap.size + 2) (w.heap.size + 3) 2 wx wx ∧ (w.heap.size + 3 < g5 ∧ w.heap.size + 3 < g6 ∧ g5 < wx.heap.size ∧ g6 < wx.heap.size) ∧
    wx.cell? ⟨g5, 0, none⟩ = some (.bool (sgz a)) ∧ wx.cell? ⟨g5, 1, none⟩ = some (.slice A1 n1 c1) ∧ wx.cell? ⟨g6, 0, none⟩ = some (.bool (sgz b)) ∧ wx.cell? ⟨g6, 1, none⟩ = some (.slice B1 m1 d1))
  case first =>
    have hz0 := hH0.base'
    have hn1 : ∀ a b : Nat, a < b → a ≠ b := fun _ _ h => Nat.ne_of_lt h
    have hn2 : ∀ a b : Nat, b < a → a ≠ b := fun _ _ h => Nat.ne_of_gt h
    go_region_held3 (fun w' => Hld2 (w.heap.size) w (w.heap.size + 2) (w.heap.size + 2) (w.heap.size + 3) 2 W0 w') (repeat (first | assumption | exact hH0 | exact hH4 | refine Hld2.drew ?_ | refine Hld2.setCell ?_ (by first | (left; simp; done) | (right; left; simp; done) | (right; right; simp; done) | (right; right; simp; omega) | (right; right; omega)) _ | refine Hld2.alloc ?_ _))
      (first
        | (go_at_call 151
           refine Hld2.from (s := w.heap.size) (w := w) (B := w.heap.size + 2) (g := w.heap.size + 2) (g' := w.heap.size + 3) (k := 2) (W0 := W0) ?_ (fun hH => ?_)
           · (repeat (first | assumption | exact hH0 | exact hH4 | refine Hld2.drew ?_ | refine Hld2.setCell ?_ (by first | (left; simp; done) | (right; left; simp; done) | (right; right; simp; done) | (right; right; simp; omega) | (right; right; omega)) _ | refine Hld2.alloc ?_ _))
           first
             | (with_reducible refine (hof1 _ hH.bel).mono ?_
                rintro e w1 ⟨rfl, hba⟩
                have hH1 := hH.call hba
                have hz1 := hH1.base'
                obtain ⟨hca, hfa⟩ := bcell hba
                (try simp [heap_drew] at hca hfa)
                (try have ia0 : W0.heap.size < w1.heap.size := by (have h := hba.size; (try simp [heap_drew] at h); omega))
                (try have ia1 : W0.heap.size + 1 < w1.heap.size := by (have h := hba.size; (try simp [heap_drew] at h); omega))
                (try have ia2 : w2.heap.size < w1.heap.size := by (have h := hba.size; (try simp [heap_drew] at h); omega))
                (try have ia3 : w2.heap.size + 1 < w1.heap.size := by (have h := hba.size; (try simp [heap_drew] at h); omega)))
             | (with_reducible refine (hof2 _ hH.bel).mono ?_
                rintro e w2 ⟨rfl, hbb⟩
                have hH2 := hH.call hbb
                have hz2 := hH2.base'
                obtain ⟨hcb, hfb⟩ := bcell hbb
                (try simp [heap_drew] at hcb hfb)
                (try have ib0 : W0.heap.size < w2.heap.size := by (have h := hbb.size; (try simp [heap_drew] at h); omega))
                (try have ib1 : W0.heap.size + 1 < w2.heap.size := by (have h := hbb.size; (try simp [heap_drew] at h); omega))
                (try have ib2 : w1.heap.size < w2.heap.size := by (have h := hbb.size; (try simp [heap_drew] at h); omega))
                (try have ib3 : w1.heap.size + 1 < w2.heap.size := by (have h := hbb.size; (try simp [heap_drew] at h); omega)))))
    all_goals
      go_wp2_with fail
      go_meet
      refine ⟨_, _, rfl, rfl, Hld2.rebase (by assumption) (Nat.le_refl _) ?_, ⟨?_, ?_, ?_, ?_⟩, ?_, ?_, ?_, ?_⟩ <;> first | omega | (simp; omega) | (simp; done) | (go_simp; done) | (go_simp; refine cell_set_eq ?_; go_simp; done)
  case rest =>
    obtain ⟨g5, g6, rfl, rfl, hH4, ⟨r5, r6, r7, r8⟩, p4, p5, p6, p7⟩ := hcut
    have q5 : g5 ≠ w.heap.size + 2 := by omega
    have q6 : g6 ≠ w.heap.size + 2 := by omega
    have q7 : g5 ≠ w.heap.size + 3 := by omega
    have q8 : g6 ≠ w.heap.size + 3 := by omega
    go_wp2_with fail
    refine (nat_DivMod A1 B1 n1 m1 c1 d1 _ _ _ (ha1.now hH4.bel) (hb1.now hH4.bel) (by omega) (by omega) (by rw [vl_dg (by omega)]; omega)).mono ?_
    rintro e w3 ⟨A3, n3, c3, A4, n4, c4, rfl, h3, h4, hap, hbc⟩
    rw [vl_dg (by omega), vl_dg (by omega)] at h3 h4
    have hH5 := hH4.call hbc
    have h3 := h3.base_le hH4.base'
    have h4 := h4.base_le hH4.base'
    have hl3 := h3.len
    have hcap3 := h3.u32.cap
    have hbig3 := h3.u32.big
    have hl4 := h4.len
    have hcap4 := h4.u32.cap
    have hbig4 := h4.u32.big
    have HL3 := Lib.hid hl3
    have HL4 := Lib.hid hl4
    clear hl3 hl4
    by_cases hs : sgz a = sgz b
    · obtain ⟨m1', m2'⟩ := dm_same h0 hs
      have M1 := Lib.hid m1'
      have M2 := Lib.hid m2'
      have e1 : (sgz a == sgz b) = true := by simpa using hs
      clear m1' m2' hs
      go_wp2_with fail
      have h3 := h3.drw
      have h4 := h4.drw
      have hB8 := hH5.bel.size
      go_region_held3 (fun w' => Hld2 (w.heap.size) w (wc.heap.size) (w.heap.size + 2) (w.heap.size + 3) 2 wc w') (repeat (first | assumption |  exact hH5 | exact Hld2.drew (by assumption) | refine Hld2.drew ?_ | refine Hld2.setCell ?_ (by first | (left; simp; done) | (right; left; simp; done) | (right; right; simp; done) | (right; right; simp; omega) | (right; right; omega)) _ | refine Hld2.alloc ?_ _))
          (first
            | (go_at_call 148
               refine Hld2.from (s := w.heap.size) (w := w) (B := wc.heap.size) (g := w.heap.size + 2) (g' := w.heap.size + 3) (k := 2) (W0 := wc) ?_ (fun hH => ?_)
               · (repeat (first | assumption |  exact hH5 | exact Hld2.drew (by assumption) | refine Hld2.drew ?_ | refine Hld2.setCell ?_ (by first | (left; simp; done) | (right; left; simp; done) | (right; right; simp; done) | (right; right; simp; omega) | (right; right; omega)) _ | refine Hld2.alloc ?_ _))
               first
                 | (with_reducible refine (big_signed _ A3 n3 c3 (by omega) _).mono ?_
                    rintro e w8 ⟨rfl, hbs⟩
                    rw [sgn_dg HL3.out, ← M1.out]
                    have h3 := h3.over hbs
                    have h4 := h4.over hbs
                    have hHX := hH.call hbs
                    obtain ⟨v0, hv0⟩ := hHX.res 0 (by omega)
                    obtain ⟨v0', hv0'⟩ := hHX.res' 0 (by omega)
                    have hf0 := hHX.fro 0 (by omega)
                    have hf0' := hHX.fro' 0 (by omega)
                    obtain ⟨v1, hv1⟩ := hHX.res 1 (by omega)
                    obtain ⟨v1', hv1'⟩ := hHX.res' 1 (by omega)
                    have hf1 := hHX.fro 1 (by omega)
                    have hf1' := hHX.fro' 1 (by omega))
                 | (with_reducible refine (big_signed _ A4 n4 c4 (by omega) _).mono ?_
                    rintro e w9 ⟨rfl, hbs⟩
                    rw [sgn_dg HL4.out, ← M2.out]
                    have h3 := h3.over hbs
                    have h4 := h4.over hbs
                    have hHX := hH.call hbs
                    obtain ⟨v0, hv0⟩ := hHX.res 0 (by omega)
                    obtain ⟨v0', hv0'⟩ := hHX.res' 0 (by omega)
                    have hf0 := hHX.fro 0 (by omega)
                    have hf0' := hHX.fro' 0 (by omega)
                    obtain ⟨v1, hv1⟩ := hHX.res 1 (by omega)
                    obtain ⟨v1', hv1'⟩ := hHX.res' 1 (by omega)
                    have hf1 := hHX.fro 1 (by omega)
                    have hf1' := hHX.fro' 1 (by omega))))
      all_goals
        go_wp2_with fail
        refine bodyPost_ret (v := .tuple #[.agg #[.bool (sgz (a.fdiv b)), .slice A3 n3 c3], .agg #[.bool (sgz (a.fmod b)), .slice A4 n4 c4], .int .i64 0]) (by simp [results, Tryz.results154, go_sem, World.cell?_setCell_other, hv0, hv1, hv0', hv1']) rfl ⟨A3, n3, c3, A4, n4, c4, rfl, ?_, ?_, ?_⟩
        · rw [M1.out, sgn_abs]
          refine Own.base_le (((((h3.setLow ?_ _).setLow ?_ _).setLow ?_ _).setLow ?_ _)) (show w.heap.size ≤ w.heap.size + 3 + 1 by omega) <;> simp
        · rw [M2.out, sgn_abs]
          refine Own.base_le (((((h4.setLow ?_ _).setLow ?_ _).setLow ?_ _).setLow ?_ _)) (show w.heap.size ≤ w.heap.size + 3 + 1 by omega) <;> simp
        exact Hld2.bel (by assumption)
    have e1 : (sgz a == sgz b) = false := by simpa using hs
    have hr3 : n3 ≤ 549755813888 := by
      have := dg_length_mono (B := 4294967296) (by omega) (Nat.div_le_self a.natAbs b.natAbs)
      rw [HL3.out, ha1.len] at this
      omega
    rcases Nat.eq_zero_or_pos n4 with hz | hz
    · have hz0 : a.natAbs % b.natAbs = 0 := (dg_eq_nil (B := 4294967296) (by omega)).1 (List.eq_nil_of_length_eq_zero (by rw [HL4.out, hz]))
      obtain ⟨m1', m2'⟩ := dm_zero h0 hs hz0
      have M1 := Lib.hid m1'
      have M2 := Lib.hid m2'
      clear m1' m2' hs
      subst hz
      have HZ := Lib.hid hz0
      clear hz0
      go_wp2_with fail
      have h3 := h3.drw
      have h4 := h4.drw
      have hB8 := hH5.bel.size
      go_region_held3 (fun w' => Hld2 (w.heap.size) w (wc.heap.size) (w.heap.size + 2) (w.heap.size + 3) 2 wc w') (repeat (first | assumption |  exact hH5 | exact Hld2.drew (by assumption) | refine Hld2.drew ?_ | refine Hld2.setCell ?_ (by first | (left; simp; done) | (right; left; simp; done) | (right; right; simp; done) | (right; right; simp; omega) | (right; right; omega)) _ | refine Hld2.alloc ?_ _))
          (first
            | (go_at_call 148
               refine Hld2.from (s := w.heap.size) (w := w) (B := wc.heap.size) (g := w.heap.size + 2) (g' := w.heap.size + 3) (k := 2) (W0 := wc) ?_ (fun hH => ?_)
               · (repeat (first | assumption |  exact hH5 | exact Hld2.drew (by assumption) | refine Hld2.drew ?_ | refine Hld2.setCell ?_ (by first | (left; simp; done) | (right; left; simp; done) | (right; right; simp; done) | (right; right; simp; omega) | (right; right; omega)) _ | refine Hld2.alloc ?_ _))
               first
                 | (with_reducible refine (big_signed _ A3 n3 c3 (by omega) _).mono ?_
                    rintro e w8 ⟨rfl, hbs⟩
                    rw [sgn_dg HL3.out, ← M1.out]
                    have h3 := h3.over hbs
                    have h4 := h4.over hbs
                    have hHX := hH.call hbs
                    obtain ⟨v0, hv0⟩ := hHX.res 0 (by omega)
                    obtain ⟨v0', hv0'⟩ := hHX.res' 0 (by omega)
                    have hf0 := hHX.fro 0 (by omega)
                    have hf0' := hHX.fro' 0 (by omega)
                    obtain ⟨v1, hv1⟩ := hHX.res 1 (by omega)
                    obtain ⟨v1', hv1'⟩ := hHX.res' 1 (by omega)
                    have hf1 := hHX.fro 1 (by omega)
                    have hf1' := hHX.fro' 1 (by omega))
                 | (with_reducible refine (big_signed _ A4 0 c4 (by omega) _).mono ?_
                    rintro e w9 ⟨rfl, hbs⟩
                    rw [sgn_dg HL4.out, ← M2.out]
                    have h3 := h3.over hbs
                    have h4 := h4.over hbs
                    have hHX := hH.call hbs
                    obtain ⟨v0, hv0⟩ := hHX.res 0 (by omega)
                    obtain ⟨v0', hv0'⟩ := hHX.res' 0 (by omega)
                    have hf0 := hHX.fro 0 (by omega)
                    have hf0' := hHX.fro' 0 (by omega)
                    obtain ⟨v1, hv1⟩ := hHX.res 1 (by omega)
                    obtain ⟨v1', hv1'⟩ := hHX.res' 1 (by omega)
                    have hf1 := hHX.fro 1 (by omega)
                    have hf1' := hHX.fro' 1 (by omega))))
      all_goals
        go_wp2_with fail
        refine bodyPost_ret (v := .tuple #[.agg #[.bool (sgz (a.fdiv b)), .slice A3 n3 c3], .agg #[.bool (sgz (a.fmod b)), .slice A4 0 c4], .int .i64 0]) (by simp [results, Tryz.results154, go_sem, World.cell?_setCell_other, hv0, hv1, hv0', hv1']) rfl ⟨A3, n3, c3, A4, 0, c4, rfl, ?_, ?_, ?_⟩
        · rw [M1.out, sgn_abs]
          refine Own.base_le (((((h3.setLow ?_ _).setLow ?_ _).setLow ?_ _).setLow ?_ _)) (show w.heap.size ≤ w.heap.size + 3 + 1 by omega) <;> simp
        · rw [M2.out, sgn_abs]
          refine Own.base_le (((((h4.setLow ?_ _).setLow ?_ _).setLow ?_ _).setLow ?_ _)) (show w.heap.size ≤ w.heap.size + 3 + 1 by omega) <;> simp
        exact Hld2.bel (by assumption)
    have hz0 : a.natAbs % b.natAbs ≠ 0 := fun h => by
      have h5 : (dg 4294967296 0).length = n4 := by rw [← h]; exact HL4.out
      rw [(dg_eq_nil (B := 4294967296) (by omega)).2 rfl] at h5
      exact absurd h5 (by simp; omega)
    obtain ⟨m1', m2'⟩ := dm_rest h0 hs hz0
    have M1 := Lib.hid m1'
    have M2 := Lib.hid m2'
    clear m1' m2' hs
    go_wp2_with fail
    refine (limb_Add A3 _ n3 1 c3 1 _ [1] _ (h3.u32.now (below_new _ _)) (u32_one w3 1 (by omega) _) (by omega) (by omega)).mono ?_
    rintro e w4 ⟨A5, n5, c5, rfl, h5, hbd⟩
    have hH6 := (hH5.alloc _).call hbd
    have h5 := h5.base_le (hH5.alloc _).base'
    have e5 : vl 4294967296 (dg 4294967296 (a.natAbs / b.natAbs)) + vl 4294967296 [1] = a.natAbs / b.natAbs + 1 := by rw [vl_dg (by omega)]; rfl
    rw [e5] at h5
    clear e5
    have h4 := h4.over (below_call (below_new w3 _) (by simp) hbd)
    have HL5 := Lib.hid h5.len
    have hcap5 := h5.u32.cap
    have hbig5 := h5.u32.big
    have HZ := Lib.hid hz0
    clear hz0
    go_wp2_with fail
    refine (limb_Sub B1 A4 m1 n4 d1 c4 _ _ _ (hb1.now hH6.bel) h4.u32 (by omega) ?_).mono ?_
    · rw [vl_dg (by omega), vl_dg (by omega)]
      exact Nat.le_of_lt (Nat.mod_lt _ (by omega))
    rintro e w5 ⟨A6, n6, c6, rfl, h6, hbe⟩
    rw [vl_dg (by omega), vl_dg (by omega)] at h6
    have hH7 := hH6.call hbe
    have h6 := h6.base_le hH6.base'
    have h5 := h5.over hbe
    have HL6 := Lib.hid h6.len
    have hcap6 := h6.u32.cap
    have hbig6 := h6.u32.big
    go_wp2_with fail
    have h5 := h5.drw
    have h6 := h6.drw
    have hB8 := hH7.bel.size
    go_region_held3 (fun w' => Hld2 (w.heap.size) w (wc.heap.size) (w.heap.size + 2) (w.heap.size + 3) 2 wc w') (repeat (first | assumption |  exact hH5 | exact Hld2.drew (by assumption) | refine Hld2.drew ?_ | refine Hld2.setCell ?_ (by first | (left; simp; done) | (right; left; simp; done) | (right; right; simp; done) | (right; right; simp; omega) | (right; right; omega)) _ | refine Hld2.alloc ?_ _))
        (first
          | (go_at_call 148
             refine Hld2.from (s := w.heap.size) (w := w) (B := wc.heap.size) (g := w.heap.size + 2) (g' := w.heap.size + 3) (k := 2) (W0 := wc) ?_ (fun hH => ?_)
             · (repeat (first | assumption |  exact hH5 | exact Hld2.drew (by assumption) | refine Hld2.drew ?_ | refine Hld2.setCell ?_ (by first | (left; simp; done) | (right; left; simp; done) | (right; right; simp; done) | (right; right; simp; omega) | (right; right; omega)) _ | refine Hld2.alloc ?_ _))
             first
               | (with_reducible refine (big_signed _ A5 n5 c5 (by omega) _).mono ?_
                  rintro e w8 ⟨rfl, hbs⟩
                  rw [sgn_dg HL5.out, ← M1.out]
                  have h5 := h5.over hbs
                  have h6 := h6.over hbs
                  have hHX := hH.call hbs
                  obtain ⟨v0, hv0⟩ := hHX.res 0 (by omega)
                  obtain ⟨v0', hv0'⟩ := hHX.res' 0 (by omega)
                  have hf0 := hHX.fro 0 (by omega)
                  have hf0' := hHX.fro' 0 (by omega)
                  obtain ⟨v1, hv1⟩ := hHX.res 1 (by omega)
                  obtain ⟨v1', hv1'⟩ := hHX.res' 1 (by omega)
                  have hf1 := hHX.fro 1 (by omega)
                  have hf1' := hHX.fro' 1 (by omega))
               | (with_reducible refine (big_signed _ A6 n6 c6 (by omega) _).mono ?_
                  rintro e w9 ⟨rfl, hbs⟩
                  rw [sgn_dg HL6.out, ← M2.out]
                  have h5 := h5.over hbs
                  have h6 := h6.over hbs
                  have hHX := hH.call hbs
                  obtain ⟨v0, hv0⟩ := hHX.res 0 (by omega)
                  obtain ⟨v0', hv0'⟩ := hHX.res' 0 (by omega)
                  have hf0 := hHX.fro 0 (by omega)
                  have hf0' := hHX.fro' 0 (by omega)
                  obtain ⟨v1, hv1⟩ := hHX.res 1 (by omega)
                  obtain ⟨v1', hv1'⟩ := hHX.res' 1 (by omega)
                  have hf1 := hHX.fro 1 (by omega)
                  have hf1' := hHX.fro' 1 (by omega))))
    all_goals
      go_wp2_with fail
      refine bodyPost_ret (v := .tuple #[.agg #[.bool (sgz (a.fdiv b)), .slice A5 n5 c5], .agg #[.bool (sgz (a.fmod b)), .slice A6 n6 c6], .int .i64 0]) (by simp [results, Tryz.results154, go_sem, World.cell?_setCell_other, hv0, hv1, hv0', hv1']) rfl ⟨A5, n5, c5, A6, n6, c6, rfl, ?_, ?_, ?_⟩
      · rw [M1.out, sgn_abs]
        refine Own.base_le (((((h5.setLow ?_ _).setLow ?_ _).setLow ?_ _).setLow ?_ _)) (show w.heap.size ≤ w.heap.size + 3 + 1 by omega) <;> simp
      · rw [M2.out, sgn_abs]
        refine Own.base_le (((((h6.setLow ?_ _).setLow ?_ _).setLow ?_ _).setLow ?_ _)) (show w.heap.size ≤ w.heap.size + 3 + 1 by omega) <;> simp
      exact Hld2.bel (by assumption)
theorem dg_two {u : Nat} (h : u < 18446744073709551616) : dg 4294967296 u = trim [u % 4294967296, u / 4294967296] := by
 have e : vl 4294967296 [u % 4294967296, u / 4294967296] = u := by
  simp only [vl]
  omega
 have hl : Lim 4294967296 [u % 4294967296, u / 4294967296] := by
  intro x hx
  simp at hx
  omega
 rw [← dg_vl (by omega) hl, e]
theorem u32_pair (w : World) (x y : Nat) (hx : x < 4294967296) (hy : y < 4294967296) (e : TypeId) : U32 (w.alloc (.cells #[.int .u32 (x : Int), .int .u32 (y : Int)] e)) (w.alloc (.cells #[.int .u32 (x : Int), .int .u32 (y : Int)] e)).heap.size (some ⟨w.heap.size, 0, none⟩) 2 2 [x, y] := by
 refine ⟨⟨rfl, Nat.le_refl _, by omega, fun _ => ⟨⟨w.heap.size, 0, none⟩, rfl, by simp, fun k u hk => ?_⟩⟩, fun z hz => by simp at hz; omega⟩
 match k with
 | 0 =>
  have e1 : (⟨w.heap.size, 0, none⟩ : Addr).add 0 = ⟨w.heap.size, 0, none⟩ := rfl
  rw [e1, cell_new _ _ _ 0 rfl]
  simpa [c32] using hk
 | 1 =>
  have e1 : (⟨w.heap.size, 0, none⟩ : Addr).add 1 = ⟨w.heap.size, 1, none⟩ := rfl
  rw [e1, cell_new _ _ _ 1 rfl]
  simpa [c32] using hk
 | k + 2 => simp [c32] at hk
set_option maxHeartbeats 2000000 in
theorem big_Of (z : Int) (w : World) (h1 : -9223372036854775808 ≤ z) (h2 : z ≤ 9223372036854775807) :
  Calls Tryz.prog 109 #[.int .i64 z] w (OutZ z w) := by
 by_cases hz : z < 0
 ·have e0 : IntKind.u64.wrap (-IntKind.u64.wrap z) = (z.natAbs : Int) := by
   rw [IntKind.wrap_u64, IntKind.wrap_u64]
   omega
  have e1 : IntKind.u64.wrap (-IntKind.u64.wrap z) % 4294967296 = ((z.natAbs % 4294967296 : Nat) : Int) := by rw [e0]; omega
  have e2 : IntKind.u64.wrap (-IntKind.u64.wrap z) / 4294967296 % 4294967296 = ((z.natAbs / 4294967296 : Nat) : Int) := by rw [e0]; omega
  have E1 := Lib.hid e1
  have E2 := Lib.hid e2
  clear e0 e1 e2
  go_enter Tryz.func109, Tryz.ntmps109
  go_upto_region 1 with fail
  refine at_wp (fun W0 => Hld w.heap.size w w.heap.size w.heap.size 2 W0 W0) ?_ ?_
  ·refine ⟨by (repeat (first | exact Below.refl _ _ | assumption | refine Below.drew ?_ | refine Below.setCell ?_ (by first | exact Nat.le_refl _ | (simp; done) | (simp; omega) | omega) _ | refine Below.alloc ?_ (by first | exact Nat.le_refl _ | exact Below.size (by assumption) | (simp; done) | (simp; omega) | omega) _)), by simp, by simp, by omega, by omega, fun _ _ _ _ => rfl, fun o ho => ?_⟩
   match o, ho with
   | 0, _ => constructor <;> go_simp
   | 1, _ => constructor <;> go_simp
  intro W0 hH0
  go_wp2_with fail
  rw [E1.out, E2.out]
  refine (limb_Trim _ 2 2 [z.natAbs % 4294967296, z.natAbs / 4294967296] _ (u32_pair W0 _ _ (by omega) (by omega) _) (by omega)).mono ?_
  rintro e w1 ⟨A1, n1, c1, rfl, h3, hb1⟩
  rw [← dg_two (by omega)] at h3
  have hH1 := (hH0.alloc _).call hb1
  have h3 := h3.base_le (hH0.alloc _).base
  have hl3 := h3.len
  have hcap3 := h3.u32.cap
  have hbig3 := h3.u32.big
  have HL3 := Lib.hid hl3
  clear hl3
  go_wp2_with fail
  refine (big_signed _ A1 n1 c1 (by omega) _).mono ?_
  rintro e w2 ⟨rfl, hb2⟩
  rw [sgn_dg HL3.out, show sgn true z.natAbs = z by unfold sgn; simp; omega]
  have h3 := h3.over hb2
  have hH2 := hH1.call hb2
  obtain ⟨v0, hv0⟩ := hH2.res 0 (by omega)
  obtain ⟨v1, hv1⟩ := hH2.res 1 (by omega)
  have hf0 := hH2.fro 0 (by omega)
  have hf1 := hH2.fro 1 (by omega)
  go_wp2_with fail
  refine bodyPost_ret (v := .agg #[.bool (sgz z), .slice A1 n1 c1]) (by simp [results, Tryz.results109, go_sem, World.cell?_setCell_other, hv0, hv1]) rfl ⟨A1, n1, c1, rfl, ?_, ?_⟩
  ·refine Own.base_le (((h3.setLow ?_ _).setLow ?_ _)) (by omega) <;> simp
  (have hb := hH2.bel; (repeat (first | exact Below.refl _ _ | assumption | refine Below.drew ?_ | refine Below.setCell ?_ (by first | exact Nat.le_refl _ | (simp; done) | (simp; omega) | omega) _ | refine Below.alloc ?_ (by first | exact Nat.le_refl _ | exact Below.size (by assumption) | (simp; done) | (simp; omega) | omega) _)))
 have e1 : z % 4294967296 = ((z.natAbs % 4294967296 : Nat) : Int) := by omega
 have e2 : z / 4294967296 = ((z.natAbs / 4294967296 : Nat) : Int) := by omega
 have E1 := Lib.hid e1
 have E2 := Lib.hid e2
 clear e1 e2
 go_enter Tryz.func109, Tryz.ntmps109
 go_upto_region 1 with fail
 refine at_wp (fun W0 => Hld w.heap.size w w.heap.size w.heap.size 2 W0 W0) ?_ ?_
 ·refine ⟨by (repeat (first | exact Below.refl _ _ | assumption | refine Below.drew ?_ | refine Below.setCell ?_ (by first | exact Nat.le_refl _ | (simp; done) | (simp; omega) | omega) _ | refine Below.alloc ?_ (by first | exact Nat.le_refl _ | exact Below.size (by assumption) | (simp; done) | (simp; omega) | omega) _)), by simp, by simp, by omega, by omega, fun _ _ _ _ => rfl, fun o ho => ?_⟩
  match o, ho with
  | 0, _ => constructor <;> go_simp
  | 1, _ => constructor <;> go_simp
 intro W0 hH0
 go_wp2_with fail
 rw [E1.out, E2.out]
 refine (limb_Trim _ 2 2 [z.natAbs % 4294967296, z.natAbs / 4294967296] _ (u32_pair W0 _ _ (by omega) (by omega) _) (by omega)).mono ?_
 rintro e w1 ⟨A1, n1, c1, rfl, h3, hb1⟩
 rw [← dg_two (by omega)] at h3
 have hH1 := (hH0.alloc _).call hb1
 have h3 := h3.base_le (hH0.alloc _).base
 have hl3 := h3.len
 have hcap3 := h3.u32.cap
 have hbig3 := h3.u32.big
 have HL3 := Lib.hid hl3
 clear hl3
 go_wp2_with fail
 refine (big_signed _ A1 n1 c1 (by omega) _).mono ?_
 rintro e w2 ⟨rfl, hb2⟩
 rw [sgn_dg HL3.out, show sgn false z.natAbs = z by unfold sgn; simp; omega]
 have h3 := h3.over hb2
 have hH2 := hH1.call hb2
 obtain ⟨v0, hv0⟩ := hH2.res 0 (by omega)
 obtain ⟨v1, hv1⟩ := hH2.res 1 (by omega)
 have hf0 := hH2.fro 0 (by omega)
 have hf1 := hH2.fro 1 (by omega)
 go_wp2_with fail
 refine bodyPost_ret (v := .agg #[.bool (sgz z), .slice A1 n1 c1]) (by simp [results, Tryz.results109, go_sem, World.cell?_setCell_other, hv0, hv1]) rfl ⟨A1, n1, c1, rfl, ?_, ?_⟩
 ·refine Own.base_le (((h3.setLow ?_ _).setLow ?_ _)) (by omega) <;> simp
 (have hb := hH2.bel; (repeat (first | exact Below.refl _ _ | assumption | refine Below.drew ?_ | refine Below.setCell ?_ (by first | exact Nat.le_refl _ | (simp; done) | (simp; omega) | omega) _ | refine Below.alloc ?_ (by first | exact Nat.le_refl _ | exact Below.size (by assumption) | (simp; done) | (simp; omega) | omega) _)))
set_option maxHeartbeats 2000000 in
theorem rat_one (w : World) : Calls Tryz.prog 110 #[] w (OutZ 1 w) := by
 go_enter Tryz.func110, Tryz.ntmps110
 go_upto_region 1 with fail
 refine at_wp (fun W0 => Hld (w.heap.size) w (w.heap.size) (w.heap.size) 2 W0 W0) ?_ ?_
 ·refine ⟨by (repeat (first | exact Below.refl _ _ | assumption | refine Below.drew ?_ | refine Below.setCell ?_ (by first | exact Nat.le_refl _ | (simp; done) | (simp; omega) | omega) _ | refine Below.alloc ?_ (by first | exact Nat.le_refl _ | exact Below.size (by assumption) | (simp; done) | (simp; omega) | omega) _)), by simp, by simp, by omega, by omega, fun _ _ _ _ => rfl, fun o ho => ?_⟩
  match o, ho with
  | 0, _ => constructor <;> go_simp
  | 1, _ => constructor <;> go_simp
 rintro W0 hH0
 go_wp2_with fail
 refine (big_Of 1 _ (by omega) (by omega)).mono ?_
 rintro e w1 ⟨A1, n1, c1, rfl, h1, hb1⟩
 have hH1 := hH0.call hb1
 have h1 := h1.base_le hH0.base
 obtain ⟨v0, hv0⟩ := hH1.res 0 (by omega)
 obtain ⟨v1, hv1⟩ := hH1.res 1 (by omega)
 have hf0 := hH1.fro 0 (by omega)
 have hf1 := hH1.fro 1 (by omega)
 go_wp2_with fail
 refine bodyPost_ret (v := .agg #[.bool (sgz 1), .slice A1 n1 c1]) (by simp [results, Tryz.results110, go_sem, World.cell?_setCell_other, hv0, hv1]) rfl ⟨A1, n1, c1, rfl, ?_, ?_⟩
 ·refine Own.base_le (((h1.setLow ?_ _).setLow ?_ _)) (by omega) <;> simp
 (have hb := hH1.bel; (repeat (first | exact Below.refl _ _ | assumption | refine Below.drew ?_ | refine Below.setCell ?_ (by first | exact Nat.le_refl _ | (simp; done) | (simp; omega) | omega) _ | refine Below.alloc ?_ (by first | exact Nat.le_refl _ | exact Below.size (by assumption) | (simp; done) | (simp; omega) | omega) _)))
def rightQ (na : Bool) (xs : List Nat) (nb : Bool) (ys : List Nat) : Bool := rightI na xs && rightI nb ys && decide (0 < zin nb ys) && (Int.gcd (zin na xs) (zin nb ys) == 1)
theorem zin_len {xs : List Nat} (hl : Lim 4294967296 xs) {neg : Bool} : (dg 4294967296 (zin neg xs).natAbs).length ≤ xs.length := by
 cases h : rightI neg xs
 ·rw [zin_wrong h, show dg 4294967296 (Int.natAbs 0) = [] from (dg_eq_nil (by omega)).2 rfl]
  simp
 rw [zin_abs hl h]
 exact Nat.le_refl _
set_option maxHeartbeats 2000000 in
theorem rat_Right (na nb : Bool) (A B : Option Addr) (n m c d : Nat) (xs ys : List Nat) (w : World) (ha : U32 w w.heap.size A n c xs) (hb : U32 w w.heap.size B m d ys) (hn : n ≤ 549755813888) (hm : m ≤ 549755813888) :
  Calls Tryz.prog 79 #[.agg #[.bool na, .slice A n c, .bool nb, .slice B m d]] w fun e w' => e = .returned (.bool (rightQ na xs nb ys)) ∧ Below w.heap.size w w' := by
 unfold rightQ
 cases hr1 : rightI na xs
 ·simp only [Bool.false_and]
  go_enter Tryz.func79, Tryz.ntmps79
  go_upto_region 1 with fail
  refine at_wp (fun W0 => Hld0 (w.heap.size) w (w.heap.size + 1) W0 W0 ∧ W0.cell? ⟨w.heap.size, 0, none⟩ = some (.bool na) ∧ W0.cell? ⟨w.heap.size, 1, none⟩ = some (.slice A n c) ∧ W0.cell? ⟨w.heap.size, 2, none⟩ = some (.bool nb) ∧ W0.cell? ⟨w.heap.size, 3, none⟩ = some (.slice B m d)) ?_ ?_
  ·refine ⟨⟨by (repeat (first | exact Below.refl _ _ | assumption | refine Below.drew ?_ | refine Below.setCell ?_ (by first | exact Nat.le_refl _ | (simp; done) | (simp; omega) | omega) _ | refine Below.alloc ?_ (by first | exact Nat.le_refl _ | exact Below.size (by assumption) | (simp; done) | (simp; omega) | omega) _)), by simp, by omega, fun _ _ _ => rfl⟩, ?_, ?_, ?_, ?_⟩ <;> go_simp
  rintro W0 ⟨hH0, p0, p1, p2, p3⟩
  go_wp2_with fail
  refine (big_Right na A n c xs _ (ha.now hH0.bel)).mono ?_
  rintro e w1 ⟨rfl, hb1⟩
  rw [hr1]
  have hH1 := hH0.call hb1
  go_wp2_with fail
  go_ret
  exact ⟨rfl, hH1.bel⟩
 simp only [Bool.true_and]
 cases hr2 : rightI nb ys
 ·simp only [Bool.false_and]
  go_enter Tryz.func79, Tryz.ntmps79
  go_upto_region 1 with fail
  refine at_wp (fun W0 => Hld0 (w.heap.size) w (w.heap.size + 1) W0 W0 ∧ W0.cell? ⟨w.heap.size, 0, none⟩ = some (.bool na) ∧ W0.cell? ⟨w.heap.size, 1, none⟩ = some (.slice A n c) ∧ W0.cell? ⟨w.heap.size, 2, none⟩ = some (.bool nb) ∧ W0.cell? ⟨w.heap.size, 3, none⟩ = some (.slice B m d)) ?_ ?_
  ·refine ⟨⟨by (repeat (first | exact Below.refl _ _ | assumption | refine Below.drew ?_ | refine Below.setCell ?_ (by first | exact Nat.le_refl _ | (simp; done) | (simp; omega) | omega) _ | refine Below.alloc ?_ (by first | exact Nat.le_refl _ | exact Below.size (by assumption) | (simp; done) | (simp; omega) | omega) _)), by simp, by omega, fun _ _ _ => rfl⟩, ?_, ?_, ?_, ?_⟩ <;> go_simp
  rintro W0 ⟨hH0, p0, p1, p2, p3⟩
  go_wp2_with fail
  refine (big_Right na A n c xs _ (ha.now hH0.bel)).mono ?_
  rintro e w1 ⟨rfl, hb1⟩
  rw [hr1]
  have hH1 := hH0.call hb1
  go_wp2_with fail
  refine (big_Right nb B m d ys _ (hb.now hH1.bel)).mono ?_
  rintro e w2 ⟨rfl, hb2⟩
  rw [hr2]
  have hH2 := hH1.call hb2
  go_wp2_with fail
  go_ret
  exact ⟨rfl, hH2.bel⟩
 simp only [Bool.true_and]
 obtain ⟨z, hz⟩ : ∃ z, zin nb ys = z := ⟨_, rfl⟩
 obtain ⟨y, hy⟩ : ∃ y, zin na xs = y := ⟨_, rfl⟩
 by_cases h0 : 0 < z
 ·rw [hz, hy, decide_eq_true h0, Bool.true_and]
  have HZ := Lib.hid hz
  have HY := Lib.hid hy
  clear hz hy
  have s1 : z.sign = 1 := Int.sign_eq_one_of_pos h0
  have HS := Lib.hid s1
  clear s1
  go_enter Tryz.func79, Tryz.ntmps79
  go_upto_region 1 with fail
  refine at_wp (fun W0 => Hld0 (w.heap.size) w (w.heap.size + 1) W0 W0 ∧ W0.cell? ⟨w.heap.size, 0, none⟩ = some (.bool na) ∧ W0.cell? ⟨w.heap.size, 1, none⟩ = some (.slice A n c) ∧ W0.cell? ⟨w.heap.size, 2, none⟩ = some (.bool nb) ∧ W0.cell? ⟨w.heap.size, 3, none⟩ = some (.slice B m d)) ?_ ?_
  ·refine ⟨⟨by (repeat (first | exact Below.refl _ _ | assumption | refine Below.drew ?_ | refine Below.setCell ?_ (by first | exact Nat.le_refl _ | (simp; done) | (simp; omega) | omega) _ | refine Below.alloc ?_ (by first | exact Nat.le_refl _ | exact Below.size (by assumption) | (simp; done) | (simp; omega) | omega) _)), by simp, by omega, fun _ _ _ => rfl⟩, ?_, ?_, ?_, ?_⟩ <;> go_simp
  rintro W0 ⟨hH0, p0, p1, p2, p3⟩
  go_wp2_with fail
  refine (big_Right na A n c xs _ (ha.now hH0.bel)).mono ?_
  rintro e w1 ⟨rfl, hb1⟩
  rw [hr1]
  have hH1 := hH0.call hb1
  go_wp2_with fail
  refine (big_Right nb B m d ys _ (hb.now hH1.bel)).mono ?_
  rintro e w2 ⟨rfl, hb2⟩
  rw [hr2]
  have hH2 := hH1.call hb2
  go_wp2_with fail
  refine (big_Sign nb B m d ys _ (hb.now hH2.bel)).mono ?_
  rintro e w3 ⟨rfl, hb3⟩
  rw [HZ.out, HS.out]
  have hH3 := hH2.call hb3
  go_wp2_with fail
  refine (big_Gcd na nb A B n m c d xs ys _ (ha.now hH3.bel) (hb.now hH3.bel) hn hm).mono ?_
  rintro e w4 ⟨A1, n1, c1, rfl, h4, hb4⟩
  rw [HZ.out, HY.out] at h4
  rw [HZ.out, HY.out]
  have hH4 := hH3.call hb4
  have hn4 : n1 ≤ 549755813888 := by
   have hle : Int.gcd y z ≤ z.natAbs := Nat.gcd_le_right _ (by omega)
   have hlen := dg_length_mono (B := 4294967296) (by omega) hle
   have hz1 := zin_len hb.lim (neg := nb)
   rw [HZ.out] at hz1
   have hl1 := h4.len
   have hl2 := hb.len
   rw [Int.natAbs_natCast] at hl1
   omega
  go_wp2_with fail
  refine (rat_one _).mono ?_
  rintro e w5 ⟨A2, n2, c2, rfl, h5, hb5⟩
  have hH5 := hH4.call hb5
  have hn5 : n2 ≤ 1099511627775 := by
   have hl := h5.len
   have : (dg 4294967296 (Int.natAbs 1)).length = 1 := rfl
   omega
  have h4 := h4.over hb5
  go_wp2_with fail
  refine (big_Cmp (sgz _) (sgz 1) A1 A2 n1 n2 c1 c2 _ _ _ h4.u32 h5.u32 (by omega) hn5).mono ?_
  rintro e w6 ⟨rfl, hb6⟩
  rw [zin_dg, zin_dg]
  have hH6 := hH5.call hb6
  obtain ⟨k, hk⟩ : ∃ k, ((Int.gcd y z : Int) - 1).sign = k := ⟨_, rfl⟩
  rw [hk]
  have HK := Lib.hid hk
  clear hk
  go_wp2_with fail
  go_ret
  refine ⟨?_, hH6.bel⟩
  have e : (Int.gcd y z == 1) = (k == 0) := by
   rw [← HK.out, Bool.eq_iff_iff]
   simp [Int.sign_eq_zero_iff_zero]
   omega
  rw [e]
  rfl
 rw [hz, hy, decide_eq_false h0, Bool.false_and]
 have HZ := Lib.hid hz
 clear hz hy
 obtain ⟨k, hk, hk2⟩ : ∃ k, z.sign = k ∧ k ≤ 0 := ⟨_, rfl, by
  rcases Int.lt_trichotomy z 0 with h | h | h
  ·rw [Int.sign_eq_neg_one_of_neg h]; omega
  ·rw [h]; decide
  exact absurd h h0⟩
 have HS := Lib.hid hk
 clear hk
 have hk3 : ¬ 0 < k := by omega
 go_enter Tryz.func79, Tryz.ntmps79
 go_upto_region 1 with fail
 refine at_wp (fun W0 => Hld0 (w.heap.size) w (w.heap.size + 1) W0 W0 ∧ W0.cell? ⟨w.heap.size, 0, none⟩ = some (.bool na) ∧ W0.cell? ⟨w.heap.size, 1, none⟩ = some (.slice A n c) ∧ W0.cell? ⟨w.heap.size, 2, none⟩ = some (.bool nb) ∧ W0.cell? ⟨w.heap.size, 3, none⟩ = some (.slice B m d)) ?_ ?_
 ·refine ⟨⟨by (repeat (first | exact Below.refl _ _ | assumption | refine Below.drew ?_ | refine Below.setCell ?_ (by first | exact Nat.le_refl _ | (simp; done) | (simp; omega) | omega) _ | refine Below.alloc ?_ (by first | exact Nat.le_refl _ | exact Below.size (by assumption) | (simp; done) | (simp; omega) | omega) _)), by simp, by omega, fun _ _ _ => rfl⟩, ?_, ?_, ?_, ?_⟩ <;> go_simp
 rintro W0 ⟨hH0, p0, p1, p2, p3⟩
 go_wp2_with fail
 refine (big_Right na A n c xs _ (ha.now hH0.bel)).mono ?_
 rintro e w1 ⟨rfl, hb1⟩
 rw [hr1]
 have hH1 := hH0.call hb1
 go_wp2_with fail
 refine (big_Right nb B m d ys _ (hb.now hH1.bel)).mono ?_
 rintro e w2 ⟨rfl, hb2⟩
 rw [hr2]
 have hH2 := hH1.call hb2
 go_wp2_with fail
 refine (big_Sign nb B m d ys _ (hb.now hH2.bel)).mono ?_
 rintro e w3 ⟨rfl, hb3⟩
 rw [HZ.out, HS.out]
 have hH3 := hH2.call hb3
 go_wp2_with fail
 go_ret
 exact ⟨rfl, hH3.bel⟩
def qin (na : Bool) (xs : List Nat) (nb : Bool) (ys : List Nat) : Rat := if rightQ na xs nb ys then Rat.divInt (zin na xs) (zin nb ys) else 0
theorem rightQ_of {na nb : Bool} {xs ys : List Nat} (h : rightQ na xs nb ys = true) : rightI na xs = true ∧ rightI nb ys = true ∧ 0 < zin nb ys ∧ Int.gcd (zin na xs) (zin nb ys) = 1 := by
 unfold rightQ at h
 simp only [Bool.and_eq_true, decide_eq_true_eq, beq_iff_eq] at h
 exact ⟨h.1.1.1, h.1.1.2, h.1.2, h.2⟩
theorem divInt_num {a b : Int} (h0 : 0 < b) (hg : Int.gcd a b = 1) : (Rat.divInt a b).num = a := by
 rw [Rat.num_divInt, Int.gcd_comm, hg, Int.sign_eq_one_of_pos h0]
 simp
theorem divInt_den {a b : Int} (h0 : 0 < b) (hg : Int.gcd a b = 1) : ((Rat.divInt a b).den : Int) = b := by
 rw [Rat.den_divInt, Int.gcd_comm, hg, if_neg (by omega)]
 simp
 omega
theorem qin_num {na nb : Bool} {xs ys : List Nat} (h : rightQ na xs nb ys = true) : (qin na xs nb ys).num = zin na xs := by
 obtain ⟨_, _, h3, h4⟩ := rightQ_of h
 unfold qin
 rw [if_pos h, divInt_num h3 h4]
theorem qin_den {na nb : Bool} {xs ys : List Nat} (h : rightQ na xs nb ys = true) : ((qin na xs nb ys).den : Int) = zin nb ys := by
 obtain ⟨_, _, h3, h4⟩ := rightQ_of h
 unfold qin
 rw [if_pos h, divInt_den h3 h4]
theorem qin_wrong {na nb : Bool} {xs ys : List Nat} (h : rightQ na xs nb ys = false) : qin na xs nb ys = 0 := by
 unfold qin
 rw [h]
 rfl
def Sz (L : Nat) (q : Rat) : Prop := (dg 4294967296 q.num.natAbs).length ≤ L ∧ (dg 4294967296 q.den).length ≤ L
theorem dg_nil0 : dg 4294967296 0 = [] := (dg_eq_nil (by omega)).2 rfl
theorem qin_sz {na nb : Bool} {xs ys : List Nat} {L : Nat} (hx : Lim 4294967296 xs) (hy : Lim 4294967296 ys) (h1 : xs.length ≤ L) (h2 : ys.length ≤ L) (h3 : 1 ≤ L) : Sz L (qin na xs nb ys) := by
 cases h : rightQ na xs nb ys
 ·rw [qin_wrong h]
  refine ⟨?_, ?_⟩
  ·show (dg 4294967296 0).length ≤ L
   rw [dg_nil0]
   exact Nat.zero_le _
  show (dg 4294967296 1).length ≤ L
  exact h3
 refine ⟨?_, ?_⟩
 ·rw [qin_num h]
  exact Nat.le_trans (zin_len hx) h1
 rw [show (qin na xs nb ys).den = (zin nb ys).natAbs by rw [← qin_den h]; simp]
 exact Nat.le_trans (zin_len hy) h2
def Src (b0 base : Nat) (w : World) (A : Option Addr) (n c : Nat) (xs : List Nat) : Prop := U32 w b0 A n c xs ∨ Own 109 w base A n c xs
theorem Src.u32 {b0 base n c : Nat} {w : World} {A : Option Addr} {xs : List Nat} (h : Src b0 base w A n c xs) (h0 : b0 ≤ w.heap.size) : U32 w w.heap.size A n c xs := by
 rcases h with h | h
 ·exact h.more h0
 exact h.u32
theorem Src.setCell {b0 base n c : Nat} {w : World} {A : Option Addr} {xs : List Nat} (h : Src b0 base w A n c xs) {p : Addr} (h0 : b0 ≤ p.block) (h1 : p.block < base) (v : Value) : Src b0 base (w.setCell p v) A n c xs := by
 rcases h with h | h
 ·refine .inl (h.keep fun q hq => World.cell?_setCell_far _ _ _ _ ?_)
  omega
 exact .inr (h.setLow h1 v)
theorem Src.drew {b0 base n c : Nat} {w : World} {A : Option Addr} {xs : List Nat} (h : Src b0 base w A n c xs) : Src b0 base w.drew A n c xs := by
 rcases h with h | h
 ·exact .inl ⟨⟨h.rd.len, h.rd.cap, h.rd.big, h.rd.cell⟩, h.lim⟩
 exact .inr ⟨h.row, h.lim⟩
theorem Src.base_le {b0 base base' n c : Nat} {w : World} {A : Option Addr} {xs : List Nat} (h : Src b0 base w A n c xs) (hb : base' ≤ base) : Src b0 base' w A n c xs := by
 rcases h with h | h
 ·exact .inl h
 exact .inr (h.base_le hb)
def RdS (b0 : Nat) (q : Rat) (w : World) (e : Ending) (w' : World) : Prop :=
 ∃ A n c B m d, e = .returned (.agg #[.bool (sgz q.num), .slice A n c, .bool false, .slice B m d]) ∧ Src b0 w.heap.size w' A n c (dg 4294967296 q.num.natAbs) ∧ Src b0 w.heap.size w' B m d (dg 4294967296 q.den) ∧ Below w.heap.size w w'
def RdQ (q : Rat) (w : World) (e : Ending) (w' : World) : Prop :=
 ∃ A n c B m d, e = .returned (.agg #[.bool (sgz q.num), .slice A n c, .bool false, .slice B m d]) ∧ U32 w' w'.heap.size A n c (dg 4294967296 q.num.natAbs) ∧ U32 w' w'.heap.size B m d (dg 4294967296 q.den) ∧ Below w.heap.size w w'
def OutQ (q : Rat) (w : World) (e : Ending) (w' : World) : Prop :=
 ∃ A n c B m d, e = .returned (.agg #[.bool (sgz q.num), .slice A n c, .bool false, .slice B m d]) ∧ Own 109 w' w.heap.size A n c (dg 4294967296 q.num.natAbs) ∧ Own 109 w' w.heap.size B m d (dg 4294967296 q.den) ∧ Apart A B ∧ Below w.heap.size w w'
theorem sgz_den (n : Nat) : sgz (n : Int) = false := by unfold sgz; simp
set_option maxHeartbeats 2000000 in
theorem rat_rightS (b0 : Nat) (na nb : Bool) (A B : Option Addr) (n m c d : Nat) (xs ys : List Nat) (w : World) (ha : U32 w b0 A n c xs) (hb : U32 w b0 B m d ys) (hb0 : b0 ≤ w.heap.size) (hn : n ≤ 549755813888) (hm : m ≤ 549755813888) :
  Calls Tryz.prog 75 #[.agg #[.bool na, .slice A n c, .bool nb, .slice B m d]] w (RdS b0 (qin na xs nb ys) w) := by
 cases hr : rightQ na xs nb ys
 ·rw [qin_wrong hr]
  go_enter Tryz.func75, Tryz.ntmps75
  go_upto_region 1 with fail
  refine at_wp (fun W0 => Hld (w.heap.size) w (w.heap.size + 1) (w.heap.size + 1) 4 W0 W0 ∧ W0.cell? ⟨w.heap.size, 0, none⟩ = some (.bool na) ∧ W0.cell? ⟨w.heap.size, 1, none⟩ = some (.slice A n c) ∧ W0.cell? ⟨w.heap.size, 2, none⟩ = some (.bool nb) ∧ W0.cell? ⟨w.heap.size, 3, none⟩ = some (.slice B m d)) ?_ ?_
  ·refine ⟨⟨by (repeat (first | exact Below.refl _ _ | assumption | refine Below.drew ?_ | refine Below.setCell ?_ (by first | exact Nat.le_refl _ | (simp; done) | (simp; omega) | omega) _ | refine Below.alloc ?_ (by first | exact Nat.le_refl _ | exact Below.size (by assumption) | (simp; done) | (simp; omega) | omega) _)), by simp, by simp, by omega, by omega, fun _ _ _ _ => rfl, fun o ho => ?_⟩, ?_, ?_, ?_, ?_⟩
   ·match o, ho with
    | 0, _ => constructor <;> go_simp
    | 1, _ => constructor <;> go_simp
    | 2, _ => constructor <;> go_simp
    | 3, _ => constructor <;> go_simp
   ·go_simp
   ·go_simp
   ·go_simp
   go_simp
  rintro W0 ⟨hH0, p0, p1, p2, p3⟩
  go_wp2_with fail
  refine (rat_Right na nb A B n m c d xs ys _ ((ha.more hb0).now hH0.bel) ((hb.more hb0).now hH0.bel) hn hm).mono ?_
  rintro e w1 ⟨rfl, hb1⟩
  rw [hr]
  have hH1 := hH0.call hb1
  go_wp2_with fail
  refine (rat_one _).mono ?_
  rintro e w2 ⟨A2, n2, c2, rfl, h2, hb2⟩
  have hH2 := hH1.call hb2
  have h2 := h2.base_le hH1.base
  obtain ⟨v0, hv0⟩ := hH2.res 0 (by omega)
  obtain ⟨v1, hv1⟩ := hH2.res 1 (by omega)
  obtain ⟨v2, hv2⟩ := hH2.res 2 (by omega)
  obtain ⟨v3, hv3⟩ := hH2.res 3 (by omega)
  have hf0 := hH2.fro 0 (by omega)
  have hf1 := hH2.fro 1 (by omega)
  have hf2 := hH2.fro 2 (by omega)
  have hf3 := hH2.fro 3 (by omega)
  have e1 : sgz 1 = false := rfl
  go_wp2_with fail
  refine bodyPost_ret (v := .agg #[.bool false, .slice none 0 0, .bool false, .slice A2 n2 c2]) (by simp [results, Tryz.results75, go_sem, World.cell?_setCell_other, hv0, hv1, hv2, hv3]) rfl ⟨none, 0, 0, A2, n2, c2, rfl, ?_, ?_, ?_⟩
  ·refine .inl ?_
   show U32 _ _ none 0 0 (dg 4294967296 0)
   rw [dg_nil0]
   exact U32.nil
  ·exact .inr (Own.base_le (((((h2.setLow (by simp) _).setLow (by simp) _).setLow (by simp) _).setLow (by simp) _)) (by omega))
  (have hb := hH2.bel; (repeat (first | exact Below.refl _ _ | assumption | refine Below.drew ?_ | refine Below.setCell ?_ (by first | exact Nat.le_refl _ | (simp; done) | (simp; omega) | omega) _ | refine Below.alloc ?_ (by first | exact Nat.le_refl _ | exact Below.size (by assumption) | (simp; done) | (simp; omega) | omega) _)))
 obtain ⟨r1, r2, r3, r4⟩ := rightQ_of hr
 have e1 : sgz (qin na xs nb ys).num = na := by rw [qin_num hr, zin_neg ha.lim r1]
 have e2 : dg 4294967296 (qin na xs nb ys).num.natAbs = xs := by rw [qin_num hr, zin_abs ha.lim r1]
 have e3 : nb = false := by
  rw [← zin_neg hb.lim r2]
  unfold sgz
  exact decide_eq_false (by omega)
 have e4 : dg 4294967296 (qin na xs nb ys).den = ys := by
  rw [show (qin na xs nb ys).den = (zin nb ys).natAbs by rw [← qin_den hr]; simp, zin_abs hb.lim r2]
 unfold RdS
 rw [e1, e2, e4]
 clear e1 e2 e4
 subst e3
 go_enter Tryz.func75, Tryz.ntmps75
 go_upto_region 1 with fail
 refine at_wp (fun W0 => Hld (w.heap.size) w (w.heap.size + 1) (w.heap.size + 1) 4 W0 W0 ∧ W0.cell? ⟨w.heap.size, 0, none⟩ = some (.bool na) ∧ W0.cell? ⟨w.heap.size, 1, none⟩ = some (.slice A n c) ∧ W0.cell? ⟨w.heap.size, 2, none⟩ = some (.bool false) ∧ W0.cell? ⟨w.heap.size, 3, none⟩ = some (.slice B m d)) ?_ ?_
 ·refine ⟨⟨by (repeat (first | exact Below.refl _ _ | assumption | refine Below.drew ?_ | refine Below.setCell ?_ (by first | exact Nat.le_refl _ | (simp; done) | (simp; omega) | omega) _ | refine Below.alloc ?_ (by first | exact Nat.le_refl _ | exact Below.size (by assumption) | (simp; done) | (simp; omega) | omega) _)), by simp, by simp, by omega, by omega, fun _ _ _ _ => rfl, fun o ho => ?_⟩, ?_, ?_, ?_, ?_⟩
  ·match o, ho with
   | 0, _ => constructor <;> go_simp
   | 1, _ => constructor <;> go_simp
   | 2, _ => constructor <;> go_simp
   | 3, _ => constructor <;> go_simp
  ·go_simp
  ·go_simp
  ·go_simp
  go_simp
 rintro W0 ⟨hH0, p0, p1, p2, p3⟩
 go_wp2_with fail
 refine (rat_Right na false A B n m c d xs ys _ ((ha.more hb0).now hH0.bel) ((hb.more hb0).now hH0.bel) hn hm).mono ?_
 rintro e w1 ⟨rfl, hb1⟩
 rw [hr]
 have hH1 := hH0.call hb1
 obtain ⟨v0, hv0⟩ := hH1.res 0 (by omega)
 obtain ⟨v1, hv1⟩ := hH1.res 1 (by omega)
 obtain ⟨v2, hv2⟩ := hH1.res 2 (by omega)
 obtain ⟨v3, hv3⟩ := hH1.res 3 (by omega)
 have hf0 := hH1.fro 0 (by omega)
 have hf1 := hH1.fro 1 (by omega)
 have hf2 := hH1.fro 2 (by omega)
 have hf3 := hH1.fro 3 (by omega)
 go_wp2_with fail
 refine bodyPost_ret (v := .agg #[.bool na, .slice A n c, .bool false, .slice B m d]) (by simp [results, Tryz.results75, go_sem, World.cell?_setCell_other, hv0, hv1, hv2, hv3]) rfl ⟨A, n, c, B, m, d, rfl, ?_, ?_, ?_⟩
 ·exact .inl (ha.below (Below.mono (by (have hb := hH1.bel; (repeat (first | exact Below.refl _ _ | assumption | refine Below.drew ?_ | refine Below.setCell ?_ (by first | exact Nat.le_refl _ | (simp; done) | (simp; omega) | omega) _ | refine Below.alloc ?_ (by first | exact Nat.le_refl _ | exact Below.size (by assumption) | (simp; done) | (simp; omega) | omega) _)))) hb0))
 ·exact .inl (hb.below (Below.mono (by (have hb := hH1.bel; (repeat (first | exact Below.refl _ _ | assumption | refine Below.drew ?_ | refine Below.setCell ?_ (by first | exact Nat.le_refl _ | (simp; done) | (simp; omega) | omega) _ | refine Below.alloc ?_ (by first | exact Nat.le_refl _ | exact Below.size (by assumption) | (simp; done) | (simp; omega) | omega) _)))) hb0))
 (have hb := hH1.bel; (repeat (first | exact Below.refl _ _ | assumption | refine Below.drew ?_ | refine Below.setCell ?_ (by first | exact Nat.le_refl _ | (simp; done) | (simp; omega) | omega) _ | refine Below.alloc ?_ (by first | exact Nat.le_refl _ | exact Below.size (by assumption) | (simp; done) | (simp; omega) | omega) _)))
theorem rat_right (na nb : Bool) (A B : Option Addr) (n m c d : Nat) (xs ys : List Nat) (w : World) (ha : U32 w w.heap.size A n c xs) (hb : U32 w w.heap.size B m d ys) (hn : n ≤ 549755813888) (hm : m ≤ 549755813888) :
  Calls Tryz.prog 75 #[.agg #[.bool na, .slice A n c, .bool nb, .slice B m d]] w (RdQ (qin na xs nb ys) w) :=
 (rat_rightS w.heap.size na nb A B n m c d xs ys w ha hb (Nat.le_refl _) hn hm).mono fun _ _ ⟨A1, n1, c1, B1, m1, d1, he, h1, h2, hb⟩ => ⟨A1, n1, c1, B1, m1, d1, he, h1.u32 hb.size, h2.u32 hb.size, hb⟩
end Go.Proofs.YtofllcodkcjajaaGreat
