/- Part 9 of a proof: Zl to B1. -/
import Derived.Test.YtofllcodkcjajaaGreatM8
import Derived.Test.YtofllcodkcjajaaGreatM4
import Derived.Test.YtofllcodkcjajaaGreatM5
set_option maxRecDepth 100000
set_option linter.unusedVariables false
set_option linter.unusedSimpArgs false
namespace Go.Proofs.YtofllcodkcjajaaGreat
open Go Go.RowKit
section
variable {l : List Nat} {k N : Nat} {z : Int} {xs : List Nat} {neg : Bool}
theorem zin_wrong' (hr : rightI neg xs = false) : zin neg xs = 0 := by simp [zin, hr]
theorem rightI_nil (h : xs.length = 0) : rightI neg xs = !neg := by
 rw [List.length_eq_zero_iff] at h
 subst h
 simp [rightI]
theorem rightI_pos {n : Nat} (hn : xs.length = n) (h : 0 < n) : rightI neg xs = decide (((nth xs (n - 1) : Nat) : Int) ≠ 0) := by
 subst hn
 rcases xs with _ | ⟨x, l⟩
 ·simp at h
 simp only [rightI, List.isEmpty_cons, Bool.false_and, Bool.not_false, Bool.true_and, Bool.false_or]
 by_cases h0 : nth (x :: l) ((x :: l).length - 1) = 0
 ·rw [h0]; rfl
 rw [bne_iff_ne.2 h0, decide_eq_true (by omega)]
theorem sgn_not (k : Int) : sgn (!(sgz k)) k.natAbs = -k := by
 unfold sgn sgz
 by_cases h : k < 0 <;> simp [h] <;> omega
theorem add_len {xs ys : List Nat} (hx : Lim 4294967296 xs) (hy : Lim 4294967296 ys) : (dg 4294967296 (vl 4294967296 xs + vl 4294967296 ys)).length ≤ xs.length + ys.length + 1 := by
 refine dg_length_le (by omega) ?_
 have h1 := vl_lt hx
 have h2 := vl_lt hy
 have h3 : 4294967296 ^ xs.length ≤ 4294967296 ^ (xs.length + ys.length) := Nat.pow_le_pow_right (by omega) (by omega)
 have h4 : 4294967296 ^ ys.length ≤ 4294967296 ^ (xs.length + ys.length) := Nat.pow_le_pow_right (by omega) (by omega)
 rw [Nat.pow_succ]
 omega
theorem sub_len {xs ys : List Nat} (hx : Lim 4294967296 xs) : (dg 4294967296 (vl 4294967296 xs - vl 4294967296 ys)).length ≤ xs.length := dg_length_le (by omega) (Nat.lt_of_le_of_lt (Nat.sub_le _ _) (vl_lt hx))
theorem mul_len {xs ys : List Nat} (hx : Lim 4294967296 xs) (hy : Lim 4294967296 ys) : (dg 4294967296 (vl 4294967296 xs * vl 4294967296 ys)).length ≤ xs.length + ys.length := by
 refine dg_length_le (by omega) ?_
 rw [Nat.pow_add]
 exact Nat.mul_lt_mul'' (vl_lt hx) (vl_lt hy)
theorem natAbs_val (k : Int) : vl 4294967296 (dg 4294967296 k.natAbs) = k.natAbs := vl_dg (by omega) _
theorem dg_le_len {a b : Nat} (h : a ≤ b) : (dg 4294967296 a).length ≤ (dg 4294967296 b).length := dg_length_mono (by omega) h
theorem mulz_len (k k' : Int) : (dg 4294967296 (k * k').natAbs).length ≤ (dg 4294967296 k.natAbs).length + (dg 4294967296 k'.natAbs).length := by
 rw [Int.natAbs_mul]
 have h := mul_len (Lim_dg (B := 4294967296) (by omega) k.natAbs) (Lim_dg (B := 4294967296) (by omega) k'.natAbs)
 rwa [natAbs_val, natAbs_val] at h
theorem negz_len (k : Int) : (dg 4294967296 (-(k)).natAbs).length = (dg 4294967296 k.natAbs).length := by rw [Int.natAbs_neg]
theorem of_parts {n : Int} (h1 : -9223372036854775808 ≤ n) (h2 : n ≤ 9223372036854775807) : -4294967295 ≤ Int.tmod n 4294967296 ∧ Int.tmod n 4294967296 ≤ 4294967295 ∧ -2147483648 ≤ Int.tdiv n 4294967296 ∧ Int.tdiv n 4294967296 ≤ 2147483648 ∧ (Int.tmod n 4294967296).natAbs + 4294967296 * (Int.tdiv n 4294967296).natAbs = n.natAbs ∧ True := by
 obtain ⟨m, hm⟩ : ∃ m : Nat, n.natAbs = m := ⟨_, rfl⟩
 rw [hm]
 rcases (show n = m ∨ n = -(m : Int) by omega) with h | h
 ·subst h
  have e1 : Int.tmod (m : Int) 4294967296 = ((m % 4294967296 : Nat) : Int) := by rw [Int.tmod_eq_emod_of_nonneg (by omega)]; omega
  have e2 : Int.tdiv (m : Int) 4294967296 = ((m / 4294967296 : Nat) : Int) := by rw [Int.tdiv_eq_ediv_of_nonneg (by omega)]; omega
  rw [e1, e2]
  exact ⟨by omega, by omega, by omega, by omega, by rw [Int.natAbs_natCast, Int.natAbs_natCast]; omega, trivial⟩
 subst h
 have e1 : Int.tmod (-(m : Int)) 4294967296 = -((m % 4294967296 : Nat) : Int) := by rw [Int.neg_tmod, Int.tmod_eq_emod_of_nonneg (by omega)]; omega
 have e2 : Int.tdiv (-(m : Int)) 4294967296 = -((m / 4294967296 : Nat) : Int) := by rw [Int.neg_tdiv, Int.tdiv_eq_ediv_of_nonneg (by omega)]; omega
 rw [e1, e2]
 exact ⟨by omega, by omega, by omega, by omega, by rw [Int.natAbs_neg, Int.natAbs_neg, Int.natAbs_natCast, Int.natAbs_natCast]; omega, trivial⟩
theorem of_val {n : Int} {a b : Nat} (h : a + 4294967296 * b = n.natAbs) : sgn (decide (n < 0)) (vl 4294967296 [a, b]) = n := by
 have e : vl 4294967296 [a, b] = n.natAbs := by simp [vl]; omega
 rw [e]
 exact sgn_self n
theorem zadd_same {k k' : Int} {s : Bool} (h : s = sgz k) (h' : sgz k = sgz k') : sgn s (k.natAbs + k'.natAbs) = k + k' := by
 subst h
 unfold sgz at *
 unfold sgn
 by_cases h1 : k < 0 <;> by_cases h2 : k' < 0 <;> simp [h1, h2] at h' ⊢ <;> omega
theorem zadd_ge {k k' : Int} {s : Bool} (h : s = sgz k) (h' : sgz k ≠ sgz k') (hl : ¬ k.natAbs < k'.natAbs) : sgn s (k.natAbs - k'.natAbs) = k + k' := by
 subst h
 unfold sgz at *
 unfold sgn
 by_cases h1 : k < 0 <;> by_cases h2 : k' < 0 <;> simp [h1, h2] at h' ⊢ <;> omega
theorem zadd_lt {k k' : Int} {s : Bool} (h : s = sgz k') (h' : sgz k ≠ sgz k') (hl : k.natAbs < k'.natAbs) : sgn s (k'.natAbs - k.natAbs) = k + k' := by
 subst h
 unfold sgz at *
 unfold sgn
 by_cases h1 : k < 0 <;> by_cases h2 : k' < 0 <;> simp [h1, h2] at h' ⊢ <;> omega
theorem parts_step {X os : List Nat} {k q : Nat} {a : Nat} (hk : 0 < k) (hkx : k ≤ X.length) (hos : os.length = X.length) {v r : Nat} (h : vl 65536 (X.drop k) = v * vl 65536 (os.drop k) + r) (ha : a = nth X (k - 1)) (hq : q = (a + 65536 * r) / v) :
  vl 65536 (X.drop (k - 1)) = v * vl 65536 ((os.set (k - 1) q).drop (k - 1)) + (a + 65536 * r - q * v) := by
 obtain ⟨j, rfl⟩ : ∃ j, k = j + 1 := ⟨k - 1, by omega⟩
 simp only [Nat.add_sub_cancel] at *
 have e1 : X.drop j = nth X j :: X.drop (j + 1) := by rw [List.drop_eq_getElem_cons (by omega), nth_get (by omega)]
 have e2 : (os.set j q).drop j = q :: os.drop (j + 1) := by
  rw [List.drop_eq_getElem_cons (by rw [List.length_set]; omega), List.getElem_set_self, List.drop_set_of_lt (by omega)]
 have h2 : q * v ≤ a + 65536 * r := by rw [hq]; exact Nat.div_mul_le_self _ _
 rw [e1, e2, vl_cons, vl_cons, h, Nat.mul_add, Nat.mul_add, Nat.mul_comm v q, Nat.mul_left_comm v 65536, ← ha]
 omega
theorem half_mul_len {xs ys : List Nat} (hx : Lim 65536 xs) (hy : Lim 65536 ys) : (dg 65536 (vl 65536 xs * vl 65536 ys)).length ≤ xs.length + ys.length := by
 refine dg_length_le (by omega) ?_
 rw [Nat.pow_add]
 exact Nat.mul_lt_mul'' (vl_lt hx) (vl_lt hy)
theorem less_len {u v n m : Nat} (hn : (dg 65536 u).length = n) (hm : (dg 65536 v).length = m) (h : n ≠ m) : decide ((n : Int) < (m : Int)) = decide (u < v) := by
 have e1 := vl_dg (B := 65536) (by omega) u
 have e2 := vl_dg (B := 65536) (by omega) v
 rcases Nat.lt_or_gt_of_ne h with h1 | h1
 ·have h2 := vl_lt_of_length (B := 65536) (a := dg 65536 u) (b := dg 65536 v) (by omega) (Lim_dg (by omega) u) (trim_dg (by omega) v) (by omega)
  rw [decide_eq_true (by omega), decide_eq_true (by omega)]
 have h2 := vl_lt_of_length (B := 65536) (a := dg 65536 v) (b := dg 65536 u) (by omega) (Lim_dg (by omega) v) (trim_dg (by omega) u) (by omega)
 rw [decide_eq_false (by omega), decide_eq_false (by omega)]
theorem less_at {u v k : Nat} (hag : ∀ j, k + 1 ≤ j → nth (dg 65536 u) j = nth (dg 65536 v) j) (h : nth (dg 65536 u) k ≠ nth (dg 65536 v) k) : decide (((nth (dg 65536 u) k : Nat) : Int) < ((nth (dg 65536 v) k : Nat) : Int)) = decide (u < v) := by
 have e1 := vl_dg (B := 65536) (by omega) u
 have e2 := vl_dg (B := 65536) (by omega) v
 rcases Nat.lt_or_gt_of_ne h with h1 | h1
 ·have h2 := lt_at (Lim_dg (by omega) u) hag h1
  rw [decide_eq_true (by omega), decide_eq_true (by omega)]
 have h2 := lt_at (Lim_dg (by omega) v) (fun j hj => (hag j hj).symm) h1
 rw [decide_eq_false (by omega), decide_eq_false (by omega)]
theorem take_step {X Y os : List Nat} {n k br br' d : Nat} (hl : os.length = k) (h : vl 65536 os + n * vl 65536 (Y.take k) = vl 65536 (X.take k) + 65536 ^ k * br) (hd : d + n * nth Y k + br = nth X k + 65536 * br') :
  vl 65536 (os ++ [d]) + n * vl 65536 (Y.take (k + 1)) = vl 65536 (X.take (k + 1)) + 65536 ^ (k + 1) * br' := by
 rw [vl_snoc, vl_take_nth, vl_take_nth, hl, Nat.pow_succ, Nat.mul_assoc, Nat.mul_add, Nat.mul_left_comm n]
 have h3 : 65536 ^ k * (d + n * nth Y k + br) = 65536 ^ k * (nth X k + 65536 * br') := by rw [hd]
 rw [Nat.mul_add, Nat.mul_add, Nat.mul_add] at h3
 omega
theorem take_end {u v n k br ln : Nat} {os : List Nat} (hx : (dg 65536 u).length = ln) (hk : os.length = ln) (hol : Lim 65536 os) (h : vl 65536 os + n * vl 65536 ((dg 65536 v).take k) = vl 65536 ((dg 65536 u).take k) + 65536 ^ k * br) (hnv : n * v ≤ u) (hkk : k = ln := by omega) : vl 65536 os = u - n * v := by
 have h1 := vl_lt hol
 rw [vl_take_all 65536 (l := dg 65536 u) (by omega), vl_dg (by omega)] at h
 have h2 : n * vl 65536 ((dg 65536 v).take k) = n * v := by
  rcases Nat.eq_zero_or_pos n with h0 | h0
  ·rw [h0, Nat.zero_mul, Nat.zero_mul]
  have h3 : v ≤ u := Nat.le_trans (Nat.le_mul_of_pos_left v h0) hnv
  have h4 := dg_length_mono (B := 65536) (by omega) h3
  rw [vl_take_all 65536 (l := dg 65536 v) (by omega), vl_dg (by omega)]
 rw [h2] at h
 rcases Nat.eq_zero_or_pos br with h0 | h0
 ·rw [h0, Nat.mul_zero] at h
  omega
 have h5 : 65536 ^ k * 1 ≤ 65536 ^ k * br := Nat.mul_le_mul_left _ h0
 rw [hk, ← hkk] at h1
 omega
theorem often_end {u v lo hi : Nat} (h1 : lo * v ≤ u) (h2 : u < hi * v) (h : hi = lo + 1) : u / v = lo := by
 subst h
 have hv : 0 < v := by
  rcases Nat.eq_zero_or_pos v with h0 | h0
  ·subst h0; simp at h2
  exact h0
 exact (Nat.div_eq_iff hv).2 (by rw [Nat.add_mul] at h2; omega)
theorem trim_cons_dg {a r : Nat} (ha : a < 65536) : trim ([a] ++ dg 65536 r) = dg 65536 (a + 65536 * r) :=
 dg_of (by omega) (Lim.cons ha (Lim_dg (by omega) r)) (by show a + 65536 * vl 65536 (dg 65536 r) = _; rw [vl_dg (by omega)])
theorem cons_len {a r v : Nat} (ha : a < 65536) (hr : r < v) : (dg 65536 (a + 65536 * r)).length ≤ (dg 65536 v).length + 1 := by
 rw [← trim_cons_dg ha]
 refine Nat.le_trans (trim_length _) ?_
 have := dg_length_mono (B := 65536) (by omega) (Nat.le_of_lt hr)
 simp only [List.length_append, List.length_cons, List.length_nil]
 omega
theorem nth_set_self {l : List Nat} {j v : Nat} (h : j < l.length) : nth (l.set j v) j = v := by simp [nth, h]
theorem parts_end {u v r q : Nat} (h : u = v * q + r) (hr : r < v) : q = u / v ∧ r = u % v := by
 subst h
 rw [Nat.mul_add_div (by omega), Nat.div_eq_of_lt hr, Nat.mul_add_mod, Nat.mod_eq_of_lt hr]
 exact ⟨rfl, rfl⟩
theorem sign_ne {x y : Int} (hx : x.sign ≠ 0) (h : x.sign ≠ y.sign) (hy : y ≠ 0) : (x < 0 ∧ 0 < y) ∨ (0 < x ∧ y < 0) := by
 rcases Int.lt_trichotomy x 0 with h1 | h1 | h1
 ·rcases Int.lt_trichotomy y 0 with h2 | h2 | h2
  ·rw [Int.sign_eq_neg_one_of_neg h1, Int.sign_eq_neg_one_of_neg h2] at h; exact absurd rfl h
  ·exact absurd h2 hy
  exact .inl ⟨h1, h2⟩
 ·rw [h1] at hx; exact absurd rfl hx
 rcases Int.lt_trichotomy y 0 with h2 | h2 | h2
 ·exact .inr ⟨h1, h2⟩
 ·exact absurd h2 hy
 rw [Int.sign_eq_one_of_pos h1, Int.sign_eq_one_of_pos h2] at h; exact absurd rfl h
theorem sign_or {x y : Int} (h : x.sign = 0 ∨ x.sign = y.sign) (hy : y ≠ 0) : x = 0 ∨ (x < 0 ∧ y < 0) ∨ (0 < x ∧ 0 < y) := by
 rcases Int.lt_trichotomy x 0 with h1 | h1 | h1
 ·rw [Int.sign_eq_neg_one_of_neg h1] at h
  rcases Int.lt_trichotomy y 0 with h2 | h2 | h2
  ·exact .inr (.inl ⟨h1, h2⟩)
  ·exact absurd h2 hy
  rw [Int.sign_eq_one_of_pos h2] at h; omega
 ·exact .inl h1
 rw [Int.sign_eq_one_of_pos h1] at h
 rcases Int.lt_trichotomy y 0 with h2 | h2 | h2
 ·rw [Int.sign_eq_neg_one_of_neg h2] at h; omega
 ·exact absurd h2 hy
 exact .inr (.inr ⟨h1, h2⟩)
theorem dm_tr {a b : Int} (h0 : b ≠ 0) : sgn (sgz a) (a.natAbs % b.natAbs) + b * sgn (sgz a != sgz b) (a.natAbs / b.natAbs) = a ∧ (sgn (sgz a) (a.natAbs % b.natAbs)).natAbs < b.natAbs := by
 have e := Nat.div_add_mod a.natAbs b.natAbs
 have l := Nat.mod_lt a.natAbs (show 0 < b.natAbs by omega)
 refine ⟨?_, by rw [sgn_abs]; exact l⟩
 generalize a.natAbs / b.natAbs = q at *
 generalize a.natAbs % b.natAbs = r at *
 have e2 : (b.natAbs : Int) * q + r = a.natAbs := by exact_mod_cast e
 by_cases hb : b < 0 <;> by_cases ha : a < 0
 ·rw [show (b.natAbs : Int) = -b by omega, show (a.natAbs : Int) = -a by omega, Int.neg_mul] at e2
  simp [sgn, sgz, hb, ha]; omega
 ·rw [show (b.natAbs : Int) = -b by omega, show (a.natAbs : Int) = a by omega, Int.neg_mul] at e2
  simp [sgn, sgz, hb, ha, Int.mul_neg]; omega
 ·rw [show (b.natAbs : Int) = b by omega, show (a.natAbs : Int) = -a by omega] at e2
  simp [sgn, sgz, hb, ha, Int.mul_neg]; omega
 rw [show (b.natAbs : Int) = b by omega, show (a.natAbs : Int) = a by omega] at e2
 simp [sgn, sgz, hb, ha]; omega
theorem dm_adj1 {a b r q : Int} (h0 : b ≠ 0) (hr : r = sgn (sgz a) (a.natAbs % b.natAbs)) (hq : q = sgn (sgz a != sgz b) (a.natAbs / b.natAbs)) (h1 : r.sign ≠ 0) (h2 : r.sign ≠ b.sign) : q - 1 = a.fdiv b ∧ r + b = a.fmod b := by
 obtain ⟨h3, h4⟩ := dm_tr (a := a) h0
 rw [← hr] at h3 h4
 rw [← hq] at h3
 have h5 := sign_ne h1 h2 h0
 have h6 := fdm (a := a) (b := b) (q := q - 1) (r := r + b) h0 (by rw [Int.mul_sub, Int.mul_one]; omega) (by omega) (by omega)
 exact ⟨h6.1.symm, h6.2.symm⟩
theorem dm_adj2 {a b r q : Int} (h0 : b ≠ 0) (hr : r = sgn (sgz a) (a.natAbs % b.natAbs)) (hq : q = sgn (sgz a != sgz b) (a.natAbs / b.natAbs)) (h : r.sign = 0 ∨ r.sign = b.sign) : q = a.fdiv b ∧ r = a.fmod b := by
 obtain ⟨h3, h4⟩ := dm_tr (a := a) h0
 rw [← hr] at h3 h4
 rw [← hq] at h3
 have h5 := sign_or h h0
 have h6 := fdm (a := a) (b := b) (q := q) (r := r) h0 h3 (by omega) (by omega)
 exact ⟨h6.1.symm, h6.2.symm⟩
theorem natabs_zero {k : Int} (h : (dg 4294967296 k.natAbs).length = 0) : k.natAbs = 0 := (dg_eq_nil (by omega)).1 (List.length_eq_zero_iff.1 h)
theorem natabs_nz {k : Int} (h : (dg 4294967296 k.natAbs).length ≠ 0) : k ≠ 0 := by
 intro h0
 subst h0
 exact h (by rw [show Int.natAbs 0 = 0 from rfl, dg_zero]; rfl)
def lbp (l : List Nat) (k N : Nat) : List Nat := lb (l.take k) ++ List.replicate (N - (k + 1) / 2) 0
theorem lbp_zero : lbp l 0 N = List.replicate N 0 := by simp [lbp, lb]
theorem lbp_all (hN : N = (l.length + 1) / 2) (h : l.length ≤ k) : lbp l k N = lb l := by
 unfold lbp
 rw [List.take_of_length_le h, show N - (k + 1) / 2 = 0 by omega]
 simp
theorem lbp_len (hN : N = (l.length + 1) / 2) (hk : k ≤ l.length) : (lbp l k N).length = N := by
 unfold lbp
 rw [List.length_append, List.length_replicate, lb_len, List.length_take, Nat.min_eq_left hk]
 omega
theorem lb_even : ∀ {l : List Nat} {j : Nat}, 2 * j < l.length → lb (l.take (2 * j + 1)) = lb (l.take (2 * j)) ++ [nth l (2 * j)]
 | [], _, h => by simp at h
 | [a], 0, _ => by simp [lb, nth]
 | [a], j + 1, h => by simp at h
 | a :: b :: l, 0, _ => by simp [lb, nth]
 | a :: b :: l, j + 1, h => by
  have ih := lb_even (l := l) (j := j) (by simp at h; omega)
  have e2 : 2 * (j + 1) = 2 * j + 1 + 1 := by omega
  rw [e2, List.take_succ_cons, List.take_succ_cons, List.take_succ_cons, List.take_succ_cons]
  simp only [lb, List.cons_append]
  rw [ih]
  simp [nth]
theorem set_mid {α : Type} (A R : List α) (x y : α) {j : Nat} (h : A.length = j) : (A ++ x :: R).set j y = A ++ y :: R := by
 subst h
 rw [List.set_append_right _ _ (Nat.le_refl _), Nat.sub_self]
 rfl
theorem nth_mid (A R : List Nat) (x : Nat) {j : Nat} (h : A.length = j) : nth (A ++ x :: R) j = x := by
 subst h
 simp [nth]
theorem lbp_even (hN : N = (l.length + 1) / 2) (hk : k < l.length) (he : k % 2 = 0) : (lbp l k N).set (k / 2) (nth l k) = lbp l (k + 1) N := by
 obtain ⟨j, rfl⟩ : ∃ j, k = 2 * j := ⟨k / 2, by omega⟩
 have hA : (lb (l.take (2 * j))).length = j := by rw [lb_len, List.length_take, Nat.min_eq_left (by omega)]; omega
 unfold lbp
 rw [show 2 * j / 2 = j by omega, show N - (2 * j + 1) / 2 = (N - (2 * j + 1 + 1) / 2) + 1 by omega, List.replicate_succ, set_mid _ _ _ _ hA, lb_even hk, List.append_assoc]
 rfl
theorem lbp_odd_nth (hN : N = (l.length + 1) / 2) (hk : k < l.length) (ho : k % 2 = 1) : nth (lbp l k N) (k / 2) = nth l (k - 1) := by
 obtain ⟨j, rfl⟩ : ∃ j, k = 2 * j + 1 := ⟨k / 2, by omega⟩
 have hA : (lb (l.take (2 * j))).length = j := by rw [lb_len, List.length_take, Nat.min_eq_left (by omega)]; omega
 unfold lbp
 rw [show (2 * j + 1) / 2 = j by omega, lb_even (by omega), List.append_assoc]
 exact nth_mid _ _ _ hA
theorem lbp_odd (hN : N = (l.length + 1) / 2) (hk : k < l.length) (ho : k % 2 = 1) : (lbp l k N).set (k / 2) (nth (lbp l k N) (k / 2) + 65536 * nth l k) = lbp l (k + 1) N := by
 rw [lbp_odd_nth hN hk ho]
 obtain ⟨j, rfl⟩ : ∃ j, k = 2 * j + 1 := ⟨k / 2, by omega⟩
 have hA : (lb (l.take (2 * j))).length = j := by rw [lb_len, List.length_take, Nat.min_eq_left (by omega)]; omega
 unfold lbp
 rw [show (2 * j + 1) / 2 = j by omega, lb_even (by omega), List.append_assoc, show 2 * j + 1 + 1 = 2 * (j + 1) by omega, lb_take (by omega), List.append_assoc, show 2 * j + 1 - 1 = 2 * j by omega]
 rw [show N - (2 * (j + 1)) / 2 = N - (2 * (j + 1) + 1) / 2 by omega]
 exact set_mid _ _ _ _ hA
theorem vl_set {l : List Nat} {j v : Nat} : j < l.length → vl 65536 (l.set j v) + 65536 ^ j * nth l j = vl 65536 l + 65536 ^ j * v := by
 induction l generalizing j with
 | nil => intro h; simp at h
 | cons x l ih =>
  intro h
  rcases j with _ | j
  ·simp [nth, vl_cons]; omega
  have := ih (j := j) (by simpa using h)
  simp only [List.set_cons_succ, vl_cons]
  rw [Nat.pow_succ, show nth (x :: l) (j + 1) = nth l j by simp [nth], Nat.mul_comm (65536 ^ j) 65536, Nat.mul_assoc, Nat.mul_assoc]
  omega
theorem times_step {os a b : List Nat} {i k cr x : Nat} (hj : i + k < os.length) (h : vl 65536 os + 65536 ^ (i + k) * cr = vl 65536 (a.take i) * vl 65536 b + 65536 ^ i * (nth a i * vl 65536 (b.take k))) (hx : x = nth os (i + k) + cr + nth a i * nth b k) :
  vl 65536 (os.set (i + k) (x % 65536)) + 65536 ^ (i + (k + 1)) * (x / 65536) = vl 65536 (a.take i) * vl 65536 b + 65536 ^ i * (nth a i * vl 65536 (b.take (k + 1))) := by
 have h1 := vl_set (v := x % 65536) hj
 have h2 := Nat.mod_add_div x 65536
 have h3 : 65536 ^ (i + k) * x = 65536 ^ (i + k) * (x % 65536) + 65536 ^ (i + k) * (65536 * (x / 65536)) := by rw [← Nat.mul_add, h2]
 have h4 : 65536 ^ (i + k) * x = 65536 ^ (i + k) * nth os (i + k) + 65536 ^ (i + k) * cr + 65536 ^ (i + k) * (nth a i * nth b k) := by rw [hx, Nat.mul_add, Nat.mul_add]
 rw [vl_take_nth, Nat.mul_add, Nat.mul_add, show i + (k + 1) = i + k + 1 by omega, Nat.pow_succ, Nat.mul_assoc]
 have h5 : 65536 ^ i * (nth a i * (65536 ^ k * nth b k)) = 65536 ^ (i + k) * (nth a i * nth b k) := by
  rw [Nat.pow_add, Nat.mul_left_comm (nth a i), Nat.mul_assoc]
 omega
theorem times_next {a b : List Nat} {i k : Nat} (hk : b.length ≤ k) : vl 65536 (a.take i) * vl 65536 b + 65536 ^ i * (nth a i * vl 65536 (b.take k)) = vl 65536 (a.take (i + 1)) * vl 65536 b := by
 rw [vl_take_all 65536 hk, vl_take_nth, Nat.add_mul, Nat.mul_assoc]
theorem times_in {os a b : List Nat} {i k cr : Nat} (ha : Lim 65536 a) (hb : Lim 65536 b) (hi : i < a.length) (hk : k ≤ b.length + 1) (h : vl 65536 os + 65536 ^ (i + k) * cr = vl 65536 (a.take i) * vl 65536 b + 65536 ^ i * (nth a i * vl 65536 (b.take k))) (hc : 0 < cr) : k ≤ b.length := by
 rcases Nat.lt_or_ge b.length k with h1 | h1
 ·exfalso
  rw [times_next (by omega)] at h
  have h2 := vl_lt (ha.take (i + 1))
  have h3 := vl_lt hb
  have h4 : vl 65536 (a.take (i + 1)) * vl 65536 b < 65536 ^ (a.take (i + 1)).length * 65536 ^ b.length := Nat.mul_lt_mul'' h2 h3
  rw [← Nat.pow_add, List.length_take, Nat.min_eq_left (by omega), show i + 1 + b.length = i + k by omega] at h4
  have h5 : 65536 ^ (i + k) * 1 ≤ 65536 ^ (i + k) * cr := Nat.mul_le_mul_left _ hc
  omega
 exact h1
end
theorem zcmp_pn {k k' : Int} (h : sgz k = true) (h' : sgz k' = false) : (-1 : Int) = (k - k').sign := by
 unfold sgz at h h'
 simp at h h'
 rw [Int.sign_eq_neg_one_of_neg (by omega)]
theorem zcmp_np {k k' : Int} (h : sgz k = false) (h' : sgz k' = true) : (1 : Int) = (k - k').sign := by
 unfold sgz at h h'
 simp at h h'
 rw [Int.sign_eq_one_of_pos (by omega)]
theorem zcmp_nn {k k' : Int} (h : sgz k = true) (h' : sgz k' = true) : (((k'.natAbs : Nat) : Int) - ((k.natAbs : Nat) : Int)).sign = (k - k').sign := by
 unfold sgz at h h'
 simp at h h'
 rw [show ((k'.natAbs : Nat) : Int) - ((k.natAbs : Nat) : Int) = k - k' by omega]
theorem zcmp_pp {k k' : Int} (h : sgz k = false) (h' : sgz k' = false) : (((k.natAbs : Nat) : Int) - ((k'.natAbs : Nat) : Int)).sign = (k - k').sign := by
 unfold sgz at h h'
 simp at h h'
 rw [show ((k.natAbs : Nat) : Int) - ((k'.natAbs : Nat) : Int) = k - k' by omega]
theorem dg_limb_len2 (v : Nat) : (dg 4294967296 v).length ≤ (dg 65536 v).length := by
 rw [← lb_dg, lb_len]
 omega
theorem i64_ob (xs : List Nat) {k : Nat} (h : k < xs.length) : ((i64T xs).map AV.t)[0 + k * 1]? = some (tv (.int .i64 ((nth xs k : Nat) : Int))) := by simp [i64T, nth_get h, h, tv]
theorem u32_ob (xs : List Nat) {k : Nat} (h : k < xs.length) : ((u32T xs).map AV.t)[0 + k * 1]? = some (tv (.int .u32 ((nth xs k : Nat) : Int))) := by simp [u32T, nth_get h, h, tv]
theorem i64_put (xs : List Nat) {k v : Nat} (h : k < xs.length) : putA ((i64T xs).map AV.t) (0 + k * 1) [tv (.int .i64 (v : Int))] = (i64T (xs.set k v)).map .t := by
 rw [Nat.zero_add, Nat.mul_one, List.set_eq_take_append_cons_drop, if_pos h]
 simp [putA, i64T, tv, List.map_take, List.map_drop]
theorem u32_put (xs : List Nat) {k v : Nat} (h : k < xs.length) : putA ((u32T xs).map AV.t) (0 + k * 1) [tv (.int .u32 (v : Int))] = (u32T (xs.set k v)).map .t := by
 rw [Nat.zero_add, Nat.mul_one, List.set_eq_take_append_cons_drop, if_pos h]
 simp [putA, u32T, tv, List.map_take, List.map_drop]
theorem i64_le (xs : List Nat) {k : Nat} {a : AV} (h : k < xs.length) : 0 + k * 1 + [a].length ≤ ((i64T xs).map AV.t).length := by simp [i64T]; omega
theorem u32_le (xs : List Nat) {k : Nat} {a : AV} (h : k < xs.length) : 0 + k * 1 + [a].length ≤ ((u32T xs).map AV.t).length := by simp [u32T]; omega
theorem i64_zero (m : Nat) : (List.replicate m (Value.int .i64 0)).map tv = (i64T (List.replicate m 0)).map .t := by simp [i64T, tv]
theorem u32_zero (m : Nat) : (List.replicate m (Value.int .u32 0)).map tv = (u32T (List.replicate m 0)).map .t := by simp [u32T, tv]
structure Zi where
 s : Bool
 x : List Nat
def Zi.of (k : Int) : Zi := ⟨sgz k, dg 4294967296 k.natAbs⟩
def gF (a : Zi) : FV := .agg (([.v (.bool a.s), sU false a.x] : List Tr).map .t)
def kF (k : Int) : FV := .agg (([.v (.bool (sgz k)), sU false (dg 4294967296 k.natAbs)] : List Tr).map .t)
def kO (k : Int) : FV := .agg (([.v (.bool (sgz k)), sU true (dg 4294967296 k.natAbs)] : List Tr).map .t)
def Zn (a : Zi) (k : Int) : Prop := Lim 4294967296 a.x ∧ a.x.length ≤ 137438953472 ∧ zin a.s a.x = k
theorem Zn.of {k : Int} (h : (dg 4294967296 k.natAbs).length ≤ 137438953472) : Zn (.of k) k := ⟨Lim_dg (by omega) _, h, zin_dg k⟩
theorem zn0 : Zn ⟨false, []⟩ 0 := ⟨Lim.nil, by simp, rfl⟩
theorem Zn.len {a : Zi} {k : Int} (h : Zn a k) : (dg 4294967296 k.natAbs).length ≤ 137438953472 := by
 obtain ⟨h1, h2, rfl⟩ := h
 exact Nat.le_trans (zin_len h1) h2
theorem Zn.right {a : Zi} {k : Int} (h : Zn a k) (hr : rightI a.s a.x = true) : sgz k = a.s ∧ dg 4294967296 k.natAbs = a.x := by
 obtain ⟨h1, h2, rfl⟩ := h
 exact ⟨zin_neg h1 hr, zin_abs h1 hr⟩
theorem Zn.wrong {a : Zi} {k : Int} (h : Zn a k) (hr : rightI a.s a.x = false) : k = 0 := by
 obtain ⟨h1, h2, rfl⟩ := h
 exact zin_wrong' hr
theorem kF_right {a : Zi} {k : Int} (h : Zn a k) (hr : rightI a.s a.x = true) : gF a = kF k := by
 obtain ⟨h1, h2⟩ := h.right hr
 unfold gF kF
 rw [h1, h2]
theorem kO_eq {b : Bool} {m : Nat} {k : Int} (h : b = sgz k) (hm : m = k.natAbs) : FV.agg [tv (.bool b), .t (sU true (dg 4294967296 m))] = kO k := by subst h hm; rfl
theorem kF_zero : FV.agg [tv (.bool false), .t (sU false [])] = kF 0 := by
 unfold kF
 rw [show Int.natAbs 0 = 0 from rfl, dg_zero]
 rfl
theorem nofr_z (k : Int) : NoFrF (kO k) := by
 simp only [NoFrF, kO, NoFrF1, List.map_cons, List.map_nil, NoFrAL, NoFrA, sU, NoFr]
 exact ⟨trivial, .inl ⟨trivial, nofr_u32 _⟩, trivial⟩
theorem nofr_zm (b : Bool) (m : Nat) : NoFrF (.agg (([.v (.bool b), sU true (dg 4294967296 m)] : List Tr).map .t)) := by
 simp only [NoFrF, NoFrF1, List.map_cons, List.map_nil, NoFrAL, NoFrA, sU, NoFr]
 exact ⟨trivial, .inl ⟨trivial, nofr_u32 _⟩, trivial⟩
def Qn (a : Fr4) (p : Rat) : Prop := a.ok ∧ a.q = p
section
variable {a : Fr4} {p q : Rat} {k k' : Int} {L M : Nat}
theorem zn_num (h : Sz L p) (hL : L ≤ 137438953472 := by omega) : Zn (.of p.num) p.num := .of (Nat.le_trans h.1 hL)
theorem zn_den (h : Sz L p) (hL : L ≤ 137438953472 := by omega) : Zn ⟨false, dg 4294967296 p.den⟩ (p.den : Int) := ⟨Lim_dg (by omega) _, Nat.le_trans h.2 hL, zin_nat p.den⟩
theorem Qn.sz (h : Qn a p) : Sz 68719476736 p := by
 obtain ⟨⟨h1, h2, h3, h4⟩, rfl⟩ := h
 exact qin_sz h1 h2 h3 h4 (by omega)
theorem Qn.of (h : Sz L p) (hL : L ≤ 68719476736 := by omega) : Qn (.of p) p := ⟨⟨Lim_dg (by omega) _, Lim_dg (by omega) _, Nat.le_trans h.1 hL, Nat.le_trans h.2 hL⟩, Fr4.q_of p⟩
theorem Qn.right (h : Qn a p) (hr : rightQ a.s a.x a.t a.y = true) : Fr4.of p = a := by
 obtain ⟨⟨l1, l2, _, _⟩, rfl⟩ := h
 obtain ⟨h1, h2, h3, h4⟩ := rightQ_of hr
 have e1 := qin_num hr
 have e2 := qin_den hr
 have e3 := zin_neg l1 h1
 have e4 := zin_abs l1 h1
 have e5 := zin_neg l2 h2
 have e6 := zin_abs l2 h2
 rw [← e1] at e3 e4
 rw [← e2] at e5 e6
 rw [sgz_den] at e5
 rw [Int.natAbs_natCast] at e6
 unfold Fr4.of Fr4.q
 rw [e3, e4, e5, e6]
theorem Qn.wrong (h : Qn a p) (hr : rightQ a.s a.x a.t a.y = false) : p = 0 := by
 obtain ⟨_, rfl⟩ := h
 exact qin_wrong hr
theorem qF_make (hn : q.num = k) (hd : (q.den : Int) = k') : FV.agg [tv (.bool (sgz k)), .t (sU false (dg 4294967296 k.natAbs)), tv (.bool (sgz k')), .t (sU false (dg 4294967296 k'.natAbs))] = qF (.of q) := by
 subst hn hd
 have e : sgz (q.den : Int) = false := by unfold sgz; exact decide_eq_false (by omega)
 rw [e]
 rfl
theorem gcd_len (h0 : k' ≠ 0) : (dg 4294967296 (((Int.gcd k k' : Nat) : Int)).natAbs).length ≤ (dg 4294967296 k'.natAbs).length := by
 rw [Int.natAbs_natCast]
 exact dg_le_len (Nat.le_of_dvd (by omega) (Int.gcd_dvd_natAbs_right k k'))
theorem of_len {n : Int} (h1 : -9223372036854775808 ≤ n) (h2 : n ≤ 9223372036854775807) : (dg 4294967296 n.natAbs).length ≤ 2 := dg_length_le (by omega) (by omega)
theorem new_laws {a b : Int} (h0 : b ≠ 0) : (0 < b → (Rat.divInt a b).num = a.fdiv (Int.gcd a b) ∧ ((Rat.divInt a b).den : Int) = b.fdiv (Int.gcd a b)) ∧ (b < 0 → (Rat.divInt a b).num = (-a).fdiv (Int.gcd (-a) (-b)) ∧ ((Rat.divInt a b).den : Int) = (-b).fdiv (Int.gcd (-a) (-b))) := by
 refine ⟨fun h => fdiv_gcd h, fun h => ?_⟩
 rw [← Rat.neg_divInt_neg]
 exact fdiv_gcd (by omega)
theorem gcd_nz {a b : Int} (h : b ≠ 0) : ((Int.gcd a b : Nat) : Int) ≠ 0 := by
 have := Int.gcd_pos_of_ne_zero_right a h
 omega
end
theorem flat_at {α : Type} {f : α → List Tr} {z : Nat} (hf : ∀ x, (f x).length = z) : ∀ {xs : List α} {k : Nat} {x : α}, xs[k]? = some x → ((xs.flatMap f).drop (k * z)).take z = f x
 | [], _, _, h => by simp at h
 | y :: xs, 0, x, h => by
  simp at h
  subst h
  rw [Nat.zero_mul, List.drop_zero, List.flatMap_cons, List.take_append_of_le_length (by rw [hf]; exact Nat.le_refl _), List.take_of_length_le (by rw [hf]; exact Nat.le_refl _)]
 | y :: xs, k + 1, x, h => by
  rw [List.getElem?_cons_succ] at h
  have e : (f y ++ xs.flatMap f).drop z = xs.flatMap f := by rw [← hf y]; simp
  rw [List.flatMap_cons, Nat.succ_mul, Nat.add_comm, ← List.drop_drop, e]
  exact flat_at hf h
theorem flat_len {α : Type} {f : α → List Tr} {z : Nat} (hf : ∀ x, (f x).length = z) : ∀ (xs : List α), (xs.flatMap f).length = xs.length * z
 | [] => by simp
 | y :: xs => by rw [List.flatMap_cons, List.length_append, hf, flat_len hf xs, List.length_cons, Nat.succ_mul, Nat.add_comm]
def nilF : Fr4 := ⟨false, [], false, []⟩
def nthF (xs : List Fr4) (k : Nat) : Fr4 := xs.getD k nilF
theorem nthF_get {xs : List Fr4} {k : Nat} (h : k < xs.length) : xs[k]? = some (nthF xs k) := by simp [nthF, h]
theorem nthF_mem {xs : List Fr4} {k : Nat} (h : k < xs.length) : nthF xs k ∈ xs := List.mem_of_getElem? (nthF_get h)
def sQ (o : Bool) (xs : List Fr4) : Tr := .s o 49 4 xs.length (xs.flatMap (Fr4.tr o))
theorem rat_at (xs : List Fr4) {k : Nat} (h : k < xs.length) : ((xs.flatMap (Fr4.tr false)).drop (k * 4)).take ((nthF xs k).tr false).length = (nthF xs k).tr false := flat_at (f := Fr4.tr false) (fun _ => rfl) (nthF_get h)
section
variable {xs : List Fr4} {k : Nat}
theorem take_q (h : k < xs.length) : (xs.take (k + 1)).map Fr4.q = (xs.take k).map Fr4.q ++ [(nthF xs k).q] := by rw [List.take_add_one, nthF_get h]; simp
theorem gt_sgn (p q : Rat) : 0 < (p - q).num.sign ↔ q < p := by simpa using gt_sign q p
end
theorem flat_sub {α : Type} {f : α → List Tr} {z o m : Nat} (hf : ∀ x, (f x).length = z) {xs : List α} {k : Nat} {x : α} (h : xs[k]? = some x) (hm : o + m ≤ z) : ((xs.flatMap f).drop (k * z + o)).take m = ((f x).drop o).take m := by
 have e := flat_at hf h
 rw [← List.drop_drop, ← e, List.drop_take, List.take_take, Nat.min_eq_left (by omega)]
def vtr (o : Bool) (x : Int × Rat) : List Tr := .v (.int .i64 x.1) :: (Fr4.of x.2).tr o
def nthV (vs : List (Int × Rat)) (k : Nat) : Int × Rat := vs.getD k (0, 0)
section
variable {vs : List (Int × Rat)} {k : Nat}
theorem nthV_get (h : k < vs.length) : vs[k]? = some (nthV vs k) := by simp [nthV, h]
theorem nthV_mem (h : k < vs.length) : nthV vs k ∈ vs := List.mem_of_getElem? (nthV_get h)
theorem take_v (h : k < vs.length) : vs.take (k + 1) = vs.take k ++ [nthV vs k] := by rw [List.take_add_one, nthV_get h]; rfl
theorem vin_at (o : Bool) (h : k < vs.length) : ((vs.flatMap (vtr o)).drop (k * 5)).take (vtr o (nthV vs k)).length = vtr o (nthV vs k) := flat_at (f := vtr o) (fun _ => rfl) (nthV_get h)
theorem vin_q (o : Bool) (h : k < vs.length) : ((vs.flatMap (vtr o)).drop (k * 5 + 1)).take ((Fr4.of (nthV vs k).2).tr o).length = (Fr4.of (nthV vs k).2).tr o := flat_sub (f := vtr o) (o := 1) (m := 4) (fun _ => rfl) (nthV_get h) (by omega)
def sV (t : Nat) (o : Bool) (vs : List (Int × Rat)) : Tr := .s o t 5 vs.length (vs.flatMap (vtr o))
theorem vflat_len (o : Bool) (vs : List (Int × Rat)) : (vs.flatMap (vtr o)).length = vs.length * 5 := flat_len (f := vtr o) (z := 5) (fun _ => rfl) vs
end
def qsum (l : List Rat) : Rat := l.foldl (· + ·) 0
theorem qsum_snoc (l : List Rat) (q : Rat) : qsum (l ++ [q]) = qsum l + q := by simp [qsum]
theorem rd_v (vs : List (Int × Rat)) : rdL ((vs.flatMap (vtr false)).map .t) = true := by
 induction vs with
 | nil => rfl
 | cons x vs ih => simpa [vtr, Fr4.tr, sU, rdL, rdA] using ih
theorem lone_v (vs : List (Int × Rat)) : loneL ((vs.flatMap (vtr false)).map .t) = true := by
 induction vs with
 | nil => rfl
 | cons x vs ih => simpa [vtr, Fr4.tr, sU, loneL, lone] using ih
def putE (right : Bool) (q : Rat) (y last : Int) (pt : Bool) : Int :=
 if !right then 2 else if decide (q.num.sign < 0) then 2 else if pt && decide (y ≤ last) then 4 else 0
def putL (e : Int) (q : Rat) (y : Int) (l : List (Int × Rat)) : List (Int × Rat) := if e = 0 then (if decide (0 < q.num.sign) then l ++ [(y, q)] else l) else l
def putY (e : Int) (y last : Int) : Int := if e = 0 then y else last
def putP (e : Int) (pt : Bool) : Bool := if e = 0 then true else pt
def dl0 (_ : Int) (q : Rat) : Bool := decide (q.num.sign = 0)
theorem qmin_sz {N : Nat} {p : Rat} {l : List Rat} (hp : Sz N p) (h : ∀ q ∈ l, Sz N q) : Sz N (qmin p l) := by
 rcases qmin_mem p l with h1 | h1
 ·rw [h1]; exact hp
 exact h _ h1
def szq (q : Rat) : Nat := max (dg 4294967296 q.num.natAbs).length (dg 4294967296 q.den).length
theorem sz_iff {L : Nat} {q : Rat} : Sz L q ↔ szq q ≤ L := by
 unfold Sz szq
 omega
def wt (q : Rat) : Nat := szq q + 1
def wts (l : List Rat) : Nat := (l.map wt).sum
theorem wts_mem {l : List Rat} {q : Rat} (h : q ∈ l) : wt q ≤ wts l := by
 unfold wts
 induction l with
 | nil => cases h
 | cons x l ih =>
  rw [List.map_cons, List.sum_cons]
  rcases List.mem_cons.1 h with rfl | h
  ·omega
  have := ih h; omega
theorem wts_append (a b : List Rat) : wts (a ++ b) = wts a + wts b := by simp [wts]
theorem wts_sub {a b : List Rat} (h : List.Sublist a b) : wts a ≤ wts b := by
 induction h with
 | slnil => omega
 | cons x h ih => simp only [wts, List.map_cons, List.sum_cons] at ih ⊢; omega
 | cons_cons x h ih => simp only [wts, List.map_cons, List.sum_cons] at ih ⊢; omega
theorem wt_zero : wt 0 ≤ 2 := by
 have h := int_sz (z := 0) (by omega) (by omega)
 have h1 : szq (0 : Rat) = 1 := by
  unfold szq
  rw [show (0 : Rat).num = 0 from rfl, show (0 : Rat).den = 1 from rfl]
  have e1 : (dg 4294967296 (Int.natAbs 0)).length = 0 := by rw [show Int.natAbs 0 = 0 from rfl, dg_nil0]; rfl
  have e2 : (dg 4294967296 1).length = 1 := by
   rw [dg_pos (by omega) (by omega)]
   rw [show 1 / 4294967296 = 0 by omega, dg_nil0]
   rfl
  rw [e1, e2]
  rfl
 unfold wt
 omega
theorem wt_sub (p q : Rat) : wt (p - q) ≤ wt p + wt q := by
 have h := sub_sz (sz_iff.2 (Nat.le_refl (szq p))) (sz_iff.2 (Nat.le_refl (szq q)))
 have := sz_iff.1 h
 unfold wt
 omega
theorem qmin_two (v m : Rat) : qmin v [m] = if m < v then m else v := rfl
theorem wt_min (v m : Rat) : wt (v - qmin v [m]) + wt (m - qmin v [m]) ≤ wt v + wt m + 2 := by
 rw [qmin_two]
 split
 ·rw [show m - m = 0 by grind]
  have := wt_zero
  have := wt_sub v m
  omega
 rw [show v - v = 0 by grind]
 have := wt_zero
 have := wt_sub m v
 omega
def useS (fr : Int) (s : List (Int × Rat) × List (Int × Rat) × Rat) (x : Int × Rat) : List (Int × Rat) × List (Int × Rat) × Rat :=
 if decide (fr ≤ x.1) && decide (0 < s.2.2.num.sign) then (s.1 ++ [(x.1, x.2 - qmin x.2 [s.2.2])], s.2.1 ++ [(x.1, qmin x.2 [s.2.2])], s.2.2 - qmin x.2 [s.2.2]) else (s.1 ++ [x], s.2.1, s.2.2)
def useL (fr : Int) (l : List (Int × Rat)) (p : Rat) : List (Int × Rat) × List (Int × Rat) × Rat := l.foldl (useS fr) ([], [], p)
theorem useS_yes {fr : Int} {s : List (Int × Rat) × List (Int × Rat) × Rat} {y : Int} {q : Rat} (h1 : fr ≤ y) (h2 : 0 < s.2.2.num.sign) :
  useS fr s (y, q) = (s.1 ++ [(y, q - qmin q [s.2.2])], s.2.1 ++ [(y, qmin q [s.2.2])], s.2.2 - qmin q [s.2.2]) := by
 unfold useS
 rw [if_pos (by simp only [Bool.and_eq_true, decide_eq_true_eq]; exact ⟨h1, h2⟩)]
theorem useS_no {fr : Int} {s : List (Int × Rat) × List (Int × Rat) × Rat} {x : Int × Rat} (h : ¬ (fr ≤ x.1 ∧ 0 < s.2.2.num.sign)) : useS fr s x = (s.1 ++ [x], s.2.1, s.2.2) := by
 unfold useS
 rw [if_neg (by simp only [Bool.and_eq_true, decide_eq_true_eq]; exact h)]
theorem useL_len (fr : Int) (l : List (Int × Rat)) (p : Rat) : (useL fr l p).1.length = l.length := by
 have key : ∀ (l : List (Int × Rat)) s, (l.foldl (useS fr) s).1.length = s.1.length + l.length := by
  intro l
  induction l with
  | nil => intro s; simp
  | cons x l ih =>
   intro s
   rw [List.foldl_cons, ih]
   unfold useS
   split <;> simp <;> omega
 have := key l ([], [], p)
 simpa [useL] using this
theorem sgn_pos (q : Rat) : 0 < q.num.sign ↔ 0 < q := by
 rw [Int.sign_pos_iff, ← gt_iff_lt, Rat.lt_iff]
 simp
theorem wt_min2 (v m : Rat) : wt (m - qmin v [m]) ≤ wt v + wt m + 2 := by have := wt_min v m; omega
section
variable {f : FuncId} {args : List FV}
theorem spec_newz {k : Int} (h : ∀ (N : Nat → Prop) (w : World) us, FVL w N [] args us → (∀ b, N b → b < w.heap.size) → Calls Tryz.prog f us.toArray w (NewZ 109 k w)) : Spec true Tryz.prog f [] args (Ret (kO k)) := by
 intro N w cs us hL
 obtain ⟨rfl, hf⟩ := start0 hL
 refine (h _ w us hf (fun b hb => hb.1)).mono ?_
 rintro e W ⟨z, rfl, ⟨h1, h3⟩, hS, hn, hb⟩
 obtain ⟨y1, a1, a2, a3, a4⟩ := or_own (N := fun b => true = false ∧ (b < W.heap.size ∧ b ∉ VT.fpL [.w (.bool z.s)]) ∧ (N b ∨ w.heap.size ≤ b)) h3
 have hfp : VT.fpL [.w (.bool z.s), y1] = (ownz 109 z k).S := by simp [VT.fpL, VT.fp, a4, ownz]
 refine .mk0 (y := [.w (.bool z.s), y1]) rfl hb (by simp only [VT.okL, VT.ok]; exact ⟨trivial, a3, trivial⟩) (by rw [hfp]; exact hn) (fun b hb => hS b (by rw [← hfp]; exact hb)) ?_
 refine ⟨by simp only [List.map_cons, List.map_nil, a1]; rfl, ?_⟩
 simp only [List.map_cons, List.map_nil, CRL, CR, sU]
 exact ⟨by simp [OR, h1], OR_keep (fun _ _ => rfl) (fun b hb => absurd hb.1 (by simp)) _ _ a2, trivial⟩
theorem isz_of_G {W : World} {N : Nat → Prop} {a : Zi} {k : Int} {v : Value} (h : FVR1 W N [] (gF a) v) (ha : Zn a k) : ∃ z : Zv, v = .agg z.cs.toArray ∧ (isz z k).p W N := by
 obtain ⟨us, rfl, h⟩ := h
 match us, h with
 | [u0, u1], h =>
  simp only [List.map_cons, List.map_nil, ARL, AR] at h
  obtain ⟨h0, h1, _⟩ := h
  simp only [FR] at h0
  subst h0
  obtain ⟨A, c, rfl, l1⟩ := limR_of h1 ha.1
  exact ⟨⟨a.s, A, a.x.length, c⟩, rfl, a.x, l1, ha.2.2, by have := ha.2.1; show a.x.length ≤ _; omega⟩
 | [], h => simp only [List.map_cons, ARL] at h
 | [_], h => simp only [List.map_cons, List.map_nil, ARL] at h; exact h.2.elim
 | _ :: _ :: _ :: _, h => simp only [List.map_cons, List.map_nil, ARL] at h; exact absurd h.2.2 (by simp)
end
section
variable {a b : Fr4} {p q : Rat} {x y : Zi} {k k' : Int}
theorem p_one : Spec true Tryz.prog 110 [] [] (Ret (kO 1)) := spec_newz fun N w us hf hN => by
 obtain rfl : us = [] := by simpa [FVL] using hf
 exact k_rat_one
theorem p_bMul (h : Zn x k) (h' : Zn y k') : Spec true Tryz.prog 116 [] [gF x, gF y] (Ret (kO (k * k'))) := spec_newz fun N w us hf hN => by
 obtain ⟨u, v, rfl, h1, h2⟩ := fvl2 hf
 obtain ⟨z, rfl, i1⟩ := isz_of_G h1 h
 obtain ⟨z', rfl, i2⟩ := isz_of_G h2 h'
 exact k_big_Mul ((isz z k).mono _ _ _ hN i1) ((isz z' k').mono _ _ _ hN i2)
theorem p_bCmp (h : Zn x k) (h' : Zn y k') : Spec true Tryz.prog 76 [] [gF x, gF y] (Ret (.one (tv (.int .i64 (k - k').sign)))) := spec_val fun N w us hf hN => by
 obtain ⟨u, v, rfl, h1, h2⟩ := fvl2 hf
 obtain ⟨z, rfl, i1⟩ := isz_of_G h1 h
 obtain ⟨z', rfl, i2⟩ := isz_of_G h2 h'
 exact k_big_Cmp ((isz z k).mono _ _ _ hN i1) ((isz z' k').mono _ _ _ hN i2)
theorem p_Add (h : Qn a p) (h' : Qn b q) : Spec true Tryz.prog 70 [] [qF a, qF b] (Ret (qO (p + q))) := by
 have := c_rAdd h.1 h'.1
 rwa [h.2, h'.2] at this
theorem p_Sub (h : Qn a p) (h' : Qn b q) : Spec true Tryz.prog 71 [] [qF a, qF b] (Ret (qO (p - q))) := by
 have := c_rSub h.1 h'.1
 rwa [h.2, h'.2] at this
theorem p_Sign (h : Qn a p) : Spec true Tryz.prog 80 [] [qF a] (Ret (.one (tv (.int .i64 p.num.sign)))) := by
 have := c_rSign h.1
 rwa [h.2] at this
theorem p_add (hp : Sz 68719476736 p) (hq : Sz 68719476736 q) : Spec true Tryz.prog 111 [] [qF (.of p), qF (.of q)] (Ret (qO (p + q))) := spec_newq fun N w us hf hN => by
 obtain ⟨u, v, rfl, h1, h2⟩ := fvl2 hf
 obtain ⟨r, rfl, i1, e1, e2, _⟩ := isq_of_F h1 (Qn.of hp).1
 obtain ⟨r', rfl, i2, e3, e4, _⟩ := isq_of_F h2 (Qn.of hq).1
 have j1 := (ratS r _ _).mono _ _ _ hN i1
 have j2 := (ratS r' _ _).mono _ _ _ hN i2
 exact k_rat_add ⟨⟨e1, e2⟩, j1⟩ hp ⟨⟨e3, e4⟩, j2⟩ hq
theorem p_add0 (hp : Sz 68719476736 p) : Spec true Tryz.prog 111 [] [qF (.of p), qF (.of ((0 : Int) : Rat))] (Ret (qO p)) := by
 have := p_add hp ((int_sz (z := 0) (by omega) (by omega)).mono (by omega))
 rwa [show p + ((0 : Int) : Rat) = p from Rat.add_zero p] at this
theorem p_Add0 (h : Qn a p) : Spec true Tryz.prog 70 [] [qF a, qF (.of ((0 : Int) : Rat))] (Ret (qO p)) := by
 have := p_Add h (Qn.of (p := ((0 : Int) : Rat)) ((int_sz (z := 0) (by omega) (by omega)).mono (M := 68719476736) (by omega)))
 rwa [show p + ((0 : Int) : Rat) = p from Rat.add_zero p] at this
theorem qmin_snoc (p : Rat) (l : List Rat) (q : Rat) : qmin p (l ++ [q]) = if q < qmin p l then q else qmin p l := by
 unfold qmin
 rw [List.foldl_append]
 rfl
end
def sR (t : Nat) (us : List (Int × Rat)) : Tr := .s true t 5 us.length (us.flatMap (vtr false))
def sO (t : Nat) (us : List (Int × Rat)) : Tr := .s true t 5 us.length (us.flatMap (vtr true))
def vcl (us : List (Int × Rat)) : List AV := (us.flatMap (vtr false)).map .t
def vco (us : List (Int × Rat)) : List AV := (us.flatMap (vtr true)).map .t
section
variable {us vs : List (Int × Rat)} {k : Nat} {x : Int × Rat}
theorem vcl_len (us : List (Int × Rat)) : (vcl us).length = us.length * 5 := by rw [vcl, List.length_map, vflat_len]
theorem vco_len (us : List (Int × Rat)) : (vco us).length = us.length * 5 := by rw [vco, List.length_map, vflat_len]
theorem vcl_snoc (us : List (Int × Rat)) (x : Int × Rat) : vcl us ++ (vtr false x).map .t = vcl (us ++ [x]) := by simp [vcl, List.flatMap_append]
theorem vco_snoc (us : List (Int × Rat)) (x : Int × Rat) : vco us ++ (vtr true x).map .t = vco (us ++ [x]) := by simp [vco, List.flatMap_append]
theorem row_at (h : k < us.length) : ((vcl us).drop (0 + k * 5)).take ((vtr false (nthV us k)).map AV.t).length = (vtr false (nthV us k)).map .t := by
 rw [vcl, ← List.map_drop, ← List.map_take, Nat.zero_add, List.length_map, vin_at false h]
theorem row_q (h : k < us.length) : ((vcl us).drop (0 + k * 5 + 1)).take (((Fr4.of (nthV us k).2).tr false).map AV.t).length = ((Fr4.of (nthV us k).2).tr false).map .t := by
 rw [vcl, ← List.map_drop, ← List.map_take, Nat.zero_add, List.length_map, vin_q false h]
theorem row_y (h : k < us.length) : (vcl us)[0 + k * 5]? = some (tv (.int .i64 (nthV us k).1)) := by
 have h1 := congrArg (·[0]?) (row_at h)
 simp only [List.getElem?_take, List.getElem?_drop] at h1
 simpa [vtr, tv] using h1
theorem row_le (h : k < us.length) : 0 + k * 5 + 5 ≤ (vcl us).length := by rw [vcl_len]; omega
theorem row_le4 {q : Rat} (h : k < us.length) : 0 + k * 5 + 1 + (((Fr4.of q).tr false).map AV.t).length ≤ (vcl us).length := by
 rw [vcl_len]
 show 0 + k * 5 + 1 + 4 ≤ _
 omega
theorem flat_take (us : List (Int × Rat)) (k : Nat) : (us.flatMap (vtr false)).take (k * 5) = (us.take k).flatMap (vtr false) := by
 by_cases h : k ≤ us.length
 ·conv => lhs; rw [← List.take_append_drop k us, List.flatMap_append]
  exact List.take_left' (by rw [vflat_len, List.length_take, Nat.min_eq_left h])
 rw [List.take_of_length_le (by rw [vflat_len]; omega), List.take_of_length_le (by omega)]
theorem flat_drop (us : List (Int × Rat)) (k : Nat) : (us.flatMap (vtr false)).drop (k * 5) = (us.drop k).flatMap (vtr false) := by
 by_cases h : k ≤ us.length
 ·conv => lhs; rw [← List.take_append_drop k us, List.flatMap_append]
  exact List.drop_left' (by rw [vflat_len, List.length_take, Nat.min_eq_left h])
 rw [List.drop_of_length_le (by rw [vflat_len]; omega), List.drop_of_length_le (by omega)]
 rfl
theorem put_v (h : k < us.length) : putA (vcl us) (0 + k * 5) ((vtr false x).map AV.t) = vcl (us.set k x) := by
 have e : k * 5 + ((vtr false x).map AV.t).length = (k + 1) * 5 := by show k * 5 + 5 = _; omega
 rw [Nat.zero_add]
 unfold putA vcl
 rw [e, ← List.map_take, ← List.map_drop, flat_take, flat_drop, ← List.map_append, ← List.map_append, List.set_eq_take_append_cons_drop, if_pos h]
 simp [List.flatMap_append]
theorem put_q {q : Rat} (h : k < us.length) : putA (vcl us) (0 + k * 5 + 1) (((Fr4.of q).tr false).map AV.t) = vcl (us.set k ((nthV us k).1, q)) := by
 rw [← put_v h]
 have h1 : (vcl us).take (0 + k * 5 + 1) = (vcl us).take (0 + k * 5) ++ [tv (.int .i64 (nthV us k).1)] := by
  rw [List.take_add_one, row_y h]
  rfl
 unfold putA
 rw [h1]
 have e : 0 + k * 5 + 1 + (((Fr4.of q).tr false).map AV.t).length = 0 + k * 5 + ((vtr false ((nthV us k).1, q)).map AV.t).length := by show 0 + k * 5 + 1 + 4 = 0 + k * 5 + 5; omega
 rw [e]
 simp [vtr, tv]
theorem take_vcl (us : List (Int × Rat)) (k : Nat) : (vcl us).take (k * 5) = ((us.take k).flatMap (vtr false)).map .t := by rw [vcl, ← List.map_take, flat_take]
theorem take_self (l : List Tr) (n : Nat) (h : l.length = n) : (l.map AV.t).take n = l.map .t := List.take_of_length_le (by simp [h])
theorem rd_vo (o : Bool) (us : List (Int × Rat)) : rdTL (us.flatMap (vtr o)) = us.flatMap (vtr false) := by
 have app : ∀ a b : List Tr, rdTL (a ++ b) = rdTL a ++ rdTL b := by
  intro a b
  induction a with
  | nil => rfl
  | cons x a ih => simp [rdTL, ih]
 have u32 : ∀ xs : List Nat, rdTL (u32T xs) = u32T xs := by
  intro xs
  induction xs with
  | nil => rfl
  | cons x xs ih => simpa [u32T, rdTL, rdT] using ih
 induction us with
 | nil => rfl
 | cons x us ih =>
  show rdTL (vtr o x ++ us.flatMap (vtr o)) = vtr false x ++ us.flatMap (vtr false)
  rw [app, ih]
  simp [vtr, Fr4.tr, rdTL, rdT, sU, u32]
theorem nofr_vo (us : List (Int × Rat)) : NoFrL (us.flatMap (vtr true)) := by
 have app : ∀ a b : List Tr, NoFrL a → NoFrL b → NoFrL (a ++ b) := by
  intro a b ha hb
  induction a with
  | nil => exact hb
  | cons x a ih =>
   simp only [NoFrL] at ha
   simp only [List.cons_append, NoFrL]
   exact ⟨ha.1, ih ha.2⟩
 induction us with
 | nil => simp [NoFrL]
 | cons x us ih =>
  rw [List.flatMap_cons]
  refine app _ _ ?_ ih
  simp only [vtr, Fr4.tr, sU, NoFrL, NoFr]
  exact ⟨trivial, trivial, .inl ⟨trivial, nofr_u32 _⟩, trivial, .inl ⟨trivial, nofr_u32 _⟩, trivial⟩
theorem nofr_sO (t : Nat) (us : List (Int × Rat)) : NoFrF (.one (.t (sO t us))) := .inl ⟨rfl, nofr_vo us⟩
theorem nofr_vtr (x : Int × Rat) : NoFrF (.agg ((vtr true x).map .t)) := by
 simp only [NoFrF, NoFrF1, vtr, Fr4.tr, sU, List.map_cons, List.map_nil, NoFrAL, NoFrA, NoFr]
 exact ⟨trivial, trivial, .inl ⟨trivial, nofr_u32 _⟩, trivial, .inl ⟨trivial, nofr_u32 _⟩, trivial⟩
end
section
variable {x : Cx} {g : Nat → FV} {ob : List (Option Ob)}
theorem pkV {j k1 k2 e : Nat} {us : List (Int × Rat)} {y : Int} {q : Rat} (hn : Nat.beq k1 k2 = false) (h1 : Nat.beq j k1 = false) (h2 : Nat.beq j k2 = false) (ho : obAt ob j = some ⟨e, 5, vco us ++ [tv (.int .i64 y), tv (.bool (sgz q.num)), .sl k1 0 (dg 4294967296 q.num.natAbs).length, tv (.bool false), .sl k2 0 (dg 4294967296 q.den).length]⟩)
  (o1 : obAt ob k1 = some ⟨109, 1, (u32T (dg 4294967296 q.num.natAbs)).map .t⟩) (o2 : obAt ob k2 = some ⟨109, 1, (u32T (dg 4294967296 q.den)).map .t⟩) : Sub x g ob g ((((ob.set j (some ⟨e, 5, vco us ++ [tv (.int .i64 y), tv (.bool (sgz q.num)), .t (sU true (dg 4294967296 q.num.natAbs)), tv (.bool false), .sl k2 0 (dg 4294967296 q.den).length]⟩)).set k1 none).set j (some ⟨e, 5, vco (us ++ [(y, q)])⟩)).set k2 none) := by
 have hk : ∀ {l : List (Option Ob)} {i m : Nat} {o : Option Ob}, Nat.beq i m = false → obAt (l.set i o) m = obAt l m := fun {l i m o} h => by
  unfold obAt
  rw [List.getElem?_set_ne (fun e => by subst e; simp at h)]
 have hjl := (List.getElem?_eq_some_iff.1 (obAt_eq ho)).1
 have hk1l := (List.getElem?_eq_some_iff.1 (obAt_eq o1)).1
 have hb : ∀ {a b : Nat}, Nat.beq a b = false → Nat.beq b a = false := fun {a b} h => by
  cases hq : Nat.beq b a
  ·rfl
  rw [Nat.eq_of_beq_eq_true hq] at h
  simp at h
 have hlen := vco_len us
 have s1 := cls (x := x) (g := g) (ob := ob) (j := j) (k := k1) (p := us.length * 5 + 2) (e := 109) (z := 1) (n := (dg 4294967296 q.num.natAbs).length) (trs := u32T (dg 4294967296 q.num.natAbs)) h1 rfl ho o1 (by rw [List.getElem?_append_right (by omega)]; simp [hlen]) (tk_u32 _) (ln_u32 _)
  (l' := vco us ++ [tv (.int .i64 y), tv (.bool (sgz q.num)), .t (sU true (dg 4294967296 q.num.natAbs)), tv (.bool false), .sl k2 0 (dg 4294967296 q.den).length]) (by rw [List.set_append_right _ _ (by omega), hlen, show us.length * 5 + 2 - us.length * 5 = 2 by omega]; rfl)
 have s2 := cls (x := x) (g := g) (ob := (ob.set j (some ⟨e, 5, vco us ++ [tv (.int .i64 y), tv (.bool (sgz q.num)), .t (sU true (dg 4294967296 q.num.natAbs)), tv (.bool false), .sl k2 0 (dg 4294967296 q.den).length]⟩)).set k1 none) (j := j) (k := k2) (p := us.length * 5 + 4) (e := 109) (z := 1) (n := (dg 4294967296 q.den).length) (trs := u32T (dg 4294967296 q.den)) (t' := e) (z' := 5) h2 rfl
  (by rw [hk (hb h1)]; unfold obAt; rw [List.getElem?_set_self hjl]) (by rw [hk hn, hk h2]; exact o2) (by rw [List.getElem?_append_right (by omega)]; simp [hlen]) (tk_u32 _) (ln_u32 _)
  (l' := vco (us ++ [(y, q)])) (by rw [List.set_append_right _ _ (by omega), hlen, show us.length * 5 + 4 - us.length * 5 = 4 by omega, ← vco_snoc]; rfl)
 exact fun ts W hR => s2 ts W (s1 ts W hR)
end
def ixV (dl : Int × Rat → Bool) : List (Int × Rat) → Nat
 | [] => 0
 | x :: l => if dl x then 0 else ixV dl l + 1
def keepV (dl : Int × Rat → Bool) (vs : List (Int × Rat)) : List (Int × Rat) := vs.filter fun x => !dl x
def zV : List Value := [.int .i64 0, .bool false, .slice none 0 0, .bool false, .slice none 0 0]
def swept (vs F : List (Int × Rat)) : List Tr := F.flatMap (vtr false) ++ (zRow zV (vs.length - F.length)).map .v
section
variable {dl : Int × Rat → Bool} {vs us : List (Int × Rat)} {i j k : Nat}
theorem ixV_le : ∀ (vs : List (Int × Rat)), ixV dl vs ≤ vs.length
 | [] => Nat.le_refl _
 | x :: l => by
  have := ixV_le l
  unfold ixV
  split <;> simp <;> omega
theorem ixV_step : ∀ {vs : List (Int × Rat)} {k : Nat}, k ≤ ixV dl vs → k < vs.length → (dl (nthV vs k) = true → ixV dl vs = k) ∧ (dl (nthV vs k) = false → k + 1 ≤ ixV dl vs)
 | [], _, _, h => by simp at h
 | x :: l, 0, _, _ => by
  have e : nthV (x :: l) 0 = x := rfl
  rw [e]
  unfold ixV
  constructor
  ·intro h; simp [h]
  intro h; simp [h]
 | x :: l, k + 1, h, h2 => by
  have e : nthV (x :: l) (k + 1) = nthV l k := by simp [nthV]
  rw [e]
  unfold ixV at h ⊢
  by_cases hx : dl x = true
  ·simp [hx] at h
  simp only [if_neg hx] at h ⊢
  have := ixV_step (vs := l) (k := k) (by omega) (by simpa using h2)
  exact ⟨fun h => by rw [this.1 h], fun h => by have := this.2 h; omega⟩
theorem keep_pre : ∀ {vs : List (Int × Rat)} {k : Nat}, k ≤ ixV dl vs → (vs.take k).filter (fun x => !dl x) = vs.take k
 | vs, 0, _ => by simp
 | [], k + 1, _ => by simp
 | x :: l, k + 1, h => by
  unfold ixV at h
  by_cases hx : dl x = true
  ·simp [hx] at h
  simp only [if_neg hx] at h
  have := keep_pre (vs := l) (k := k) (by omega)
  simp [hx, this]
theorem keep_all (h : ixV dl vs = vs.length) : keepV dl vs = vs := by
 have := keep_pre (dl := dl) (vs := vs) (k := vs.length) (by omega)
 rwa [List.take_of_length_le (Nat.le_refl _)] at this
theorem nthV_set (h : k < us.length) (x : Int × Rat) : nthV (us.set k x) k = x := by simp [nthV, h]
theorem del_start (h : ixV dl vs < vs.length) : vs.take (ixV dl vs) = (vs.take (ixV dl vs + 1)).filter (fun x => !dl x) := by
 have h1 : dl (nthV vs (ixV dl vs)) = true := by
  cases hq : dl (nthV vs (ixV dl vs)) with
  | true => rfl
  | false =>
   have := (ixV_step (Nat.le_refl _) h).2 hq
   omega
 rw [take_v h, List.filter_append, keep_pre (Nat.le_refl _)]
 simp [h1]
theorem del_keep (h : us.take i = (vs.take j).filter (fun x => !dl x)) (hj : j < vs.length) (hx : dl (nthV vs j) = false) (hi : i < us.length) : (us.set i (nthV vs j)).take (i + 1) = (vs.take (j + 1)).filter (fun x => !dl x) := by
 rw [take_v (by simpa using hi), List.take_set_of_le (Nat.le_refl _), h, nthV_set hi, take_v hj, List.filter_append]
 simp [hx]
theorem del_drop (h : us.take i = (vs.take j).filter (fun x => !dl x)) (hj : j < vs.length) (hx : dl (nthV vs j) = true) : us.take i = (vs.take (j + 1)).filter (fun x => !dl x) := by
 rw [h, take_v hj, List.filter_append]
 simp [hx]
theorem nth_ne (h : i ≠ j) (x : Int × Rat) : nthV (us.set i x) j = nthV us j := by simp [nthV, List.getElem?_set_ne h]
theorem swept_end (hul : us.length = vs.length) (hi : i ≤ us.length) (h : us.take i = keepV dl vs) : putA (vcl us) (0 + i * 5) ((zRow zV (us.length - i)).map tv) = (swept vs (keepV dl vs)).map .t := by
 have hl : (keepV dl vs).length = i := by rw [← h, List.length_take, Nat.min_eq_left hi]
 unfold putA swept
 rw [Nat.zero_add, take_vcl, h, List.drop_of_length_le (by rw [vcl_len, List.length_map, zRow_len]; show us.length * 5 ≤ i * 5 + (us.length - i) * 5; omega), List.append_nil, hl, hul]
 simp [tv]
theorem swept_all (h : keepV dl vs = vs) : vcl vs = (swept vs (keepV dl vs)).map .t := by
 unfold swept
 rw [h, Nat.sub_self]
 simp [zRow, vcl]
theorem swept_take (vs F : List (Int × Rat)) : ((swept vs F).map AV.t).take (F.length * 5) = (F.flatMap (vtr false)).map .t := by
 unfold swept
 rw [List.map_append]
 exact List.take_left' (by rw [List.length_map, vflat_len])
theorem useL_snoc {fr : Int} (p : Rat) (h : k < vs.length) : useL fr (vs.take (k + 1)) p = useS fr (useL fr (vs.take k) p) (nthV vs k) := by
 unfold useL
 rw [take_v h, List.foldl_append]
 rfl
theorem set_mid2 {α : Type} {a b us : List α} {k : Nat} {x y : α} (h : us = a ++ x :: b) (ha : a.length = k) : us.set k y = (a ++ [y]) ++ b := by
 subst h
 rw [List.set_append_right _ _ (by omega), ha, Nat.sub_self]
 simp
theorem drop_v (h : k < vs.length) : vs.drop k = nthV vs k :: vs.drop (k + 1) := by
 rw [List.drop_eq_getElem_cons h]
 congr 1
 simp [nthV, h]
theorem nth_mid2 {a b us : List (Int × Rat)} {k : Nat} {x : Int × Rat} (h : us = a ++ x :: b) (ha : a.length = k) : nthV us k = x := by
 subst h
 unfold nthV
 rw [List.getD_eq_getElem?_getD, List.getElem?_append_right (by omega), ha, Nat.sub_self]
 rfl
end
structure StOk (X : List (Int × Rat)) (n B : Nat) : Prop where
 pos : ∀ x ∈ X, 0 < x.2
 len : X.length ≤ n
 size : wts (X.map Prod.snd) ≤ B
section
variable {X : List (Int × Rat)} {n B n' B' : Nat}
theorem useL_wt (fr : Int) (p : Rat) : ∀ (xs : List (Int × Rat)), wts ((useL fr xs p).1.map Prod.snd) + wt (useL fr xs p).2.2 ≤ wts (xs.map Prod.snd) + wt p + 2 * xs.length := by
 intro xs
 have key : ∀ (xs : List (Int × Rat)) (s : List (Int × Rat) × List (Int × Rat) × Rat), wts ((xs.foldl (useS fr) s).1.map Prod.snd) + wt (xs.foldl (useS fr) s).2.2 ≤ wts (s.1.map Prod.snd) + wt s.2.2 + wts (xs.map Prod.snd) + 2 * xs.length := by
  intro xs
  induction xs with
  | nil => intro s; simp [wts]
  | cons x xs ih =>
   intro s
   rw [List.foldl_cons]
   refine Nat.le_trans (ih _) ?_
   have e : wts ((x :: xs).map Prod.snd) = wt x.2 + wts (xs.map Prod.snd) := by simp [wts]
   rw [e, List.length_cons]
   by_cases hc : fr ≤ x.1 ∧ 0 < s.2.2.num.sign
   ·have h1 := useS_yes (s := s) (y := x.1) (q := x.2) hc.1 hc.2
    have h2 := wt_min x.2 s.2.2
    rw [show useS fr s x = useS fr s (x.1, x.2) from rfl, h1]
    dsimp only
    rw [List.map_append, wts_append]
    simp only [List.map_cons, List.map_nil, wts, List.sum_cons, List.sum_nil] at h2 ⊢
    omega
   rw [useS_no hc]
   dsimp only
   rw [List.map_append, wts_append]
   simp only [List.map_cons, List.map_nil, wts, List.sum_cons, List.sum_nil]
   omega
 have := key xs ([], [], p)
 have e : wts (([] : List (Int × Rat)).map Prod.snd) = 0 := rfl
 unfold useL
 dsimp only at this
 rw [e] at this
 omega
theorem StOk.zU {fr : Int} {p : Rat} {L : Nat} (h : StOk X n B) (hB : B + wt p + 2 * n ≤ L) : ∀ x ∈ (useL fr X p).1, Sz L x.2 := by
 intro x hx
 refine sz_iff.2 ?_
 have h1 := useL_wt fr p X
 have h2 : wt x.2 ≤ wts ((useL fr X p).1.map Prod.snd) := wts_mem (List.mem_map.2 ⟨x, hx, rfl⟩)
 have h3 : wt x.2 = szq x.2 + 1 := rfl
 have h4 := h.size
 have h5 := h.len
 omega
end
theorem negz_szi {L : Nat} {k : Int} (h : SzI L k) : SzI L (-k) := by
 unfold SzI
 rw [Int.natAbs_neg]
 exact h
theorem of_szi {n : Int} (h1 : -9223372036854775808 ≤ n) (h2 : n ≤ 9223372036854775807) : SzI 2 n := of_len h1 h2
theorem by_sz {n d : Int} (h1 : -9223372036854775808 ≤ n) (h2 : n ≤ 9223372036854775807) (h3 : -9223372036854775808 ≤ d) (h4 : d ≤ 9223372036854775807) : Sz 2 (Rat.divInt n d) := by
 rcases Int.lt_trichotomy d 0 with hd | hd | hd
 ·rw [← Rat.neg_divInt_neg]
  obtain ⟨e1, e2⟩ := divInt_sz (a := -n) (b := -d) (L := 2) (M := 2) (by omega) (negz_szi (of_szi h1 h2)) (negz_szi (of_szi h3 h4))
  exact ⟨e1, e2⟩
 ·subst hd
  rw [Rat.divInt_zero]
  exact ⟨Nat.zero_le _, by decide⟩
 obtain ⟨e1, e2⟩ := divInt_sz (a := n) (b := d) (L := 2) (M := 2) hd (of_szi h1 h2) (of_szi h3 h4)
 exact ⟨e1, e2⟩
abbrev At := Int × Int × Fr4
section
variable {xs : List At} {k : Nat}
end
section
variable {ls : List Fr4} {k : Nat} {a : Fr4}
end
section
variable {Z : List (Int × Rat)} {rest r4 : List Tr} {k : Nat} {q : Rat} {a : Fr4}
end
inductive Pts (L : Nat) : List (Int × Rat) → List (Int × Rat) → List (Int × Rat) → Prop
 | nil {Z : List (Int × Rat)} : Pts L Z [] Z
 | cons {Z us Z' : List (Int × Rat)} {u : Int × Rat} {k : Nat} {r : Rat} (hk : Z[k]? = some (u.1, r)) (hr : 0 < r) (hf : ∀ j, j < k → ¬ ((nthV Z j).1 = u.1 ∧ 0 < (nthV Z j).2)) (hu : 0 < u.2) (hle : u.2 ≤ r) (hs : Sz L (r - u.2)) (h : Pts L (Z.set k (u.1, r - u.2)) us Z') : Pts L Z (u :: us) Z'
def Asc (L : List (Int × Rat)) : Prop := (L.map Prod.fst).Pairwise (· < ·)
def posZ (Z : List (Int × Rat)) : List (Int × Rat) := Z.filter fun x => decide (0 < x.2)
inductive UseOf : List (Int × Rat) → List (Int × Rat) → List (Int × Rat) → Prop
 | nil : UseOf [] [] []
 | skip {x : Int × Rat} {vs us vs' : List (Int × Rat)} (h : UseOf vs us vs') : UseOf (x :: vs) us (x :: vs')
 | part {y : Int} {q m : Rat} {vs us vs' : List (Int × Rat)} (h0 : 0 < m) (h1 : m < q) (h : UseOf vs us vs') : UseOf ((y, q) :: vs) ((y, m) :: us) ((y, q - m) :: vs')
 | all {y : Int} {q : Rat} {vs us vs' : List (Int × Rat)} (h0 : 0 < q) (h : UseOf vs us vs') : UseOf ((y, q) :: vs) ((y, q) :: us) vs'
section
variable {Z vs us vs' : List (Int × Rat)} {L : Nat}
end
section
variable {fr : Int} {vs : List (Int × Rat)} {r : Rat} {x : Int × Rat}
theorem use_shift (fr : Int) : ∀ (vs a b : List (Int × Rat)) (r : Rat), vs.foldl (useS fr) (a, b, r) = (a ++ (useL fr vs r).1, b ++ (useL fr vs r).2.1, (useL fr vs r).2.2)
 | [], a, b, r => by simp [useL]
 | x :: vs, a, b, r => by
  unfold useL
  rw [List.foldl_cons, List.foldl_cons]
  by_cases hc : fr ≤ x.1 ∧ 0 < r.num.sign
  ·rw [show useS fr (a, b, r) x = _ from useS_yes (s := (a, b, r)) (y := x.1) (q := x.2) hc.1 hc.2, show useS fr ([], [], r) x = _ from useS_yes (s := ([], [], r)) (y := x.1) (q := x.2) hc.1 hc.2]
   rw [use_shift fr vs _ _ _, use_shift fr vs _ _ _]
   simp
  rw [useS_no (s := (a, b, r)) hc, useS_no (s := ([], [], r)) hc, use_shift fr vs _ _ _, use_shift fr vs _ _ _]
  simp
theorem useL_yes (h1 : fr ≤ x.1) (h2 : 0 < r) : useL fr (x :: vs) r = ((x.1, x.2 - qmin x.2 [r]) :: (useL fr vs (r - qmin x.2 [r])).1, (x.1, qmin x.2 [r]) :: (useL fr vs (r - qmin x.2 [r])).2.1, (useL fr vs (r - qmin x.2 [r])).2.2) := by
 have : useL fr (x :: vs) r = vs.foldl (useS fr) (useS fr ([], [], r) x) := rfl
 rw [this, show useS fr ([], [], r) x = _ from useS_yes (s := ([], [], r)) (y := x.1) (q := x.2) h1 ((sgn_pos r).2 h2), use_shift]
 rfl
theorem useL_no (h : ¬ (fr ≤ x.1 ∧ 0 < r)) : useL fr (x :: vs) r = (x :: (useL fr vs r).1, (useL fr vs r).2.1, (useL fr vs r).2.2) := by
 have : useL fr (x :: vs) r = vs.foldl (useS fr) (useS fr ([], [], r) x) := rfl
 rw [this, useS_no (s := ([], [], r)) (by rwa [sgn_pos]), use_shift]
 rfl
structure UseP (fr : Int) (r : Rat) (vs us vs' : List (Int × Rat)) (r' : Rat) : Prop where
 use : UseOf vs us vs'
 yrs : ∀ u ∈ us, fr ≤ u.1
 sum : r = qsum (us.map Prod.snd) + r'
 low : 0 ≤ r → 0 ≤ r'
 non : r ≤ 0 → us = []
 full : ∀ z ∈ vs', fr ≤ z.1 → r' ≤ 0 ∧ ∀ u ∈ us, u.1 ≤ z.1
end
section
variable {Z Z' us : List (Int × Rat)} {L k : Nat} {u : Int × Rat}
end
section
variable {x : Cx} {g : Nat → FV} {ob ob' : List (Option Ob)} {Q : Post} {ops : Array Oper} {rest : List Oper} {d : Nat} {ty : TypeId} {pos : String} {af : Array Edge} {gd : Option (Nat × Bool)} {T : List (Nat × TI)}
theorem key_slR {k t z n : Nat} (t' : Nat) {l l' : List Tr} (ho : obAt ob k = some ⟨t, z, l.map .t⟩) (hz : l.length = n * z) (hl : rdTL l = l') : FzKey x g ob k ⟨t, z, l.map .t⟩ (.sl k 0 n) (.s false t' z n l') := fun cs ts W hR m2 m3 u e2 => by
 have h := key_sl t' ho hz cs ts W hR m2 m3 u e2
 simp only [AR] at h ⊢
 have h9 := FR_rdT _ _ h
 rw [rdT, hl] at h9
 exact h9
theorem fzR {i k t z n : Nat} (t' : Nat) {l l' : List Tr} {fv fv' : FV} (hi : Nat.blt i x.n = true) (hg : g i = fv) (ho : obAt ob k = some ⟨t, z, l.map .t⟩) (hz : l.length = n * z) (hl : rdTL l = l') (hf : FzF (.sl k 0 n) (.s false t' z n l') fv fv') : Sub x g ob (upF g i fv') (ob.set k none) := fz_core hi hg ho hf (key_slR t' ho hz hl)
variable {late : Nat → Bool} {K fr : List Nat} {on : Bool} {fuel : Nat} {listed : Array Bool}
end
def z4 : List Tr := [.v (.bool false), .v (.slice none 0 0), .v (.bool false), .v (.slice none 0 0)]
structure WhOk (Z vs : List (Int × Rat)) (last : Int) (put : Bool) : Prop where
 pos : posZ Z = vs
 low : ∀ z ∈ Z, 0 ≤ z.2
 ok : StOk vs Z.length (100 * Z.length)
 asc : Asc vs
 yrs : ∀ x ∈ vs, -9223372036854775808 ≤ x.1
 last : ∀ x ∈ vs, put = true ∧ x.1 ≤ last
section
variable {Z vs us vs' : List (Int × Rat)} {last y : Int} {put rt : Bool} {p : Rat}
end
section
variable {vs us vs' : List (Int × Rat)} {last y : Int} {put rt : Bool} {p : Rat}
end
abbrev Gt := Int × Fr4
def gtr (o : Bool) (x : Gt) : List Tr := .v (.int .i64 x.1) :: x.2.tr o
section
variable {xs : List Gt} {k : Nat}
end
abbrev Ls := List (Int × Rat) × Int × Bool
section
variable {xs : List Gt} {k : Nat} {s : Ls} {r : Option Ls}
end
section
variable {x : Cx} {g : Nat → FV} {ob : List (Option Ob)} {Q Q' : Post}
end
structure Us where
 v : Int
 y : Int
 n : Rat
 p : Rat
 q : Rat
def inY (U : List Us) (y : Int) : Rat := qsum ((U.filter fun u => decide (u.y = y)).map Us.n)
def ofV (U : List Us) (v : Int) : Rat := qsum ((U.filter fun u => decide (u.v = v)).map Us.n)
def abv (x : Rat) : Rat := qmax x [0]
theorem abv_eq (x : Rat) : abv x = if x < 0 then 0 else x := rfl
theorem abv_ge (x : Rat) : 0 ≤ abv x := by rw [abv_eq]; split <;> grind
theorem abv_of {x : Rat} (h : 0 ≤ x) : abv x = x := by rw [abv_eq]; split <;> grind
theorem abv_pos {x : Rat} (h : 0 < abv x) : abv x = x := by rw [abv_eq] at *; split at h <;> grind
theorem qmin2 (a b : Rat) : qmin a [b] = if b < a then b else a := rfl
theorem qmin_le1 (a b : Rat) : qmin a [b] ≤ a := by rw [qmin2]; split <;> grind
theorem qmin_le2 (a b : Rat) : qmin a [b] ≤ b := by rw [qmin2]; split <;> grind
theorem qmin_ge {a b : Rat} (ha : 0 ≤ a) (hb : 0 ≤ b) : 0 ≤ qmin a [b] := by rw [qmin2]; split <;> grind
structure Mx where
 inc : Nat → Rat
 ring : Nat → Rat
 cap : Rat
 b : Nat
 w : Nat
namespace Mx
def lim (M : Mx) (y : Nat) : Rat := M.cap * abv (M.inc y)
def los (M : Mx) (v : Nat) : Rat := abv (0 - M.inc v)
def tax (M : Mx) (U : List Us) (y : Nat) : Rat := abv (M.inc y) - (M.ring y + inY U y)
def left (M : Mx) (U : List Us) (v : Nat) : Rat := M.los v - ofV U v
def room (M : Mx) (U : List Us) (y : Nat) : Rat := abv (M.lim y - (M.ring y + inY U y))
def app (M : Mx) (U : List Us) (v : Int) (y : Nat) (n : Rat) : List Us := U ++ [⟨v, y, n, M.tax U y, M.tax U y - n⟩]
def us (M : Mx) (U : List Us) (v : Int) (y : Nat) (n : Rat) : List Us := if 0 < n then M.app U v y n else U
def use (M : Mx) (U : List Us) (v y : Nat) : List Us := M.us U v y (qmin (M.left U v) [M.room U y])
def back (M : Mx) (U : List Us) (y j : Nat) : List Us := (List.range' (y - M.b) j).foldl (fun U x => M.use U y x) U
def fwd (M : Mx) (U : List Us) (y j : Nat) : List Us := (List.range' (y - M.w) j).foldl (fun U v => M.use U v y) U
def step (M : Mx) (U : List Us) (y : Nat) : List Us := if M.inc y < 0 then M.back U y (y - (y - M.b)) else M.fwd U y (y - (y - M.w))
def run (M : Mx) : Nat → List Us
 | 0 => []
 | y + 1 => M.step (M.run y) y
end Mx
section
variable {M M' : Mx} {U U' : List Us} {v v' y y' j n k : Nat} {m : Rat}
theorem inY_app {v : Int} {y' : Int} : inY (M.app U v y m) y' = if (y : Int) = y' then inY U y' + m else inY U y' := by
 unfold inY Mx.app
 rw [List.filter_append, List.map_append]
 split
 ·rename_i h
  rw [List.filter_cons_of_pos (by simpa using h)]
  exact qsum_snoc _ _
 rename_i h
 rw [List.filter_cons_of_neg (by simpa using h)]
 simp
theorem ofV_app {v v' : Int} : ofV (M.app U v y m) v' = if v = v' then ofV U v' + m else ofV U v' := by
 unfold ofV Mx.app
 rw [List.filter_append, List.map_append]
 split
 ·rename_i h
  rw [List.filter_cons_of_pos (by simpa using h)]
  exact qsum_snoc _ _
 rename_i h
 rw [List.filter_cons_of_neg (by simpa using h)]
 simp
theorem left_app : M.left (M.app U (v : Int) y m) v = M.left U v - m := by
 unfold Mx.left
 rw [ofV_app, if_pos rfl]
 grind
theorem left_app_ne (h : v ≠ v') : M.left (M.app U (v : Int) y m) v' = M.left U v' := by
 unfold Mx.left
 rw [ofV_app, if_neg (by omega)]
theorem tax_app {v : Int} : M.tax (M.app U v y m) y = M.tax U y - m := by
 unfold Mx.tax
 rw [inY_app, if_pos rfl]
 grind
theorem inY_app_self {v : Int} : inY (M.app U v y m) y = inY U y + m := by rw [inY_app, if_pos rfl]
theorem inY_app_ne {v : Int} (h : y ≠ y') : inY (M.app U v y m) y' = inY U y' := by rw [inY_app, if_neg (by omega)]
theorem tax_app_ne {v : Int} (h : y ≠ y') : M.tax (M.app U v y m) y' = M.tax U y' := by
 unfold Mx.tax
 rw [inY_app_ne h]
theorem room_app {v : Int} (h0 : 0 < m) (h : m ≤ M.room U y) : M.room (M.app U v y m) y = M.room U y - m := by
 unfold Mx.room at *
 rw [inY_app_self]
 have h2 := abv_pos (x := M.lim y - (M.ring y + inY U y)) (by grind)
 rw [h2] at h ⊢
 rw [show M.lim y - (M.ring y + (inY U y + m)) = M.lim y - (M.ring y + inY U y) - m by grind]
 exact abv_of (by grind)
theorem room_ge : 0 ≤ M.room U y := abv_ge _
theorem use_no (h : ¬ 0 < qmin (M.left U v) [M.room U y]) : M.use U v y = U := if_neg h
theorem use_yes (h : 0 < qmin (M.left U v) [M.room U y]) : M.use U v y = M.app U v y (qmin (M.left U v) [M.room U y]) := if_pos h
theorem left_use_ne (h : v ≠ v') : M.left (M.use U v y) v' = M.left U v' := by
 by_cases hp : 0 < qmin (M.left U v) [M.room U y]
 ·rw [use_yes hp]; exact left_app_ne h
 rw [use_no hp]
theorem left_use (h : 0 ≤ M.left U v) : M.left (M.use U v y) v = M.left U v - qmin (M.left U v) [M.room U y] ∧ 0 ≤ M.left (M.use U v y) v := by
 have h1 := qmin_ge h (room_ge (M := M) (U := U) (y := y))
 have h2 := qmin_le1 (M.left U v) (M.room U y)
 by_cases hp : 0 < qmin (M.left U v) [M.room U y]
 ·rw [use_yes hp, left_app]
  grind
 rw [use_no hp]
 grind
theorem use_ext : ∃ T, M.use U v y = U ++ T ∧ ∀ u ∈ T, u.v = v ∧ u.y = y := by
 by_cases hp : 0 < qmin (M.left U v) [M.room U y]
 ·exact ⟨_, use_yes hp, fun u hu => by rw [List.mem_singleton.1 hu]; exact ⟨rfl, rfl⟩⟩
 exact ⟨[], by rw [use_no hp, List.append_nil], fun u hu => by cases hu⟩
theorem fold_ext {f : List Us → Nat → List Us} {p : Us → Prop} : ∀ (I : List Nat) (U : List Us), (∀ U x, x ∈ I → ∃ T, f U x = U ++ T ∧ ∀ u ∈ T, p u) → ∃ T, I.foldl f U = U ++ T ∧ ∀ u ∈ T, p u
 | [], U, _ => ⟨[], by simp, fun u hu => by cases hu⟩
 | x :: I, U, h => by
  obtain ⟨T, e, hT⟩ := h U x (List.mem_cons_self ..)
  obtain ⟨T', e', hT'⟩ := fold_ext I (f U x) fun U z hz => h U z (List.mem_cons_of_mem _ hz)
  refine ⟨T ++ T', by rw [List.foldl_cons, e', e, List.append_assoc], fun u hu => ?_⟩
  rcases List.mem_append.1 hu with hu | hu
  ·exact hT u hu
  exact hT' u hu
theorem step_ext : ∃ T, M.step U y = U ++ T ∧ ∀ u ∈ T, u.v = y ∨ u.y = y := by
 unfold Mx.step
 split
 ·exact fold_ext _ _ fun U x _ => by
   obtain ⟨T, e, h⟩ := use_ext (M := M) (U := U) (v := y) (y := x)
   exact ⟨T, e, fun u hu => .inl (h u hu).1⟩
 exact fold_ext _ _ fun U x _ => by
  obtain ⟨T, e, h⟩ := use_ext (M := M) (U := U) (v := x) (y := y)
  exact ⟨T, e, fun u hu => .inr (h u hu).2⟩
theorem run_more : ∃ T, M.run (n + k) = M.run n ++ T ∧ ∀ u ∈ T, (n : Int) ≤ u.v ∨ (n : Int) ≤ u.y := by
 induction k with
 | zero => exact ⟨[], by simp, fun u hu => by cases hu⟩
 | succ k ih =>
  obtain ⟨T, e, h⟩ := ih
  obtain ⟨T', e', h'⟩ := step_ext (M := M) (U := M.run (n + k)) (y := n + k)
  refine ⟨T ++ T', by show M.step (M.run (n + k)) (n + k) = _; rw [e', e, List.append_assoc], fun u hu => ?_⟩
  rcases List.mem_append.1 hu with hu | hu
  ·exact h u hu
  have := h' u hu
  omega
theorem use_same (h1 : M.inc v = M'.inc v) (h2 : M.inc y = M'.inc y) (h3 : M.ring y = M'.ring y) (h4 : M.cap = M'.cap) : M.use U v y = M'.use U v y := by
 have e1 : M.left U v = M'.left U v := by simp only [Mx.left, Mx.los, h1]
 have e2 : M.room U y = M'.room U y := by simp only [Mx.room, Mx.lim, h2, h3, h4]
 have e3 : M.tax U y = M'.tax U y := by simp only [Mx.tax, h2, h3]
 unfold Mx.use Mx.us Mx.app
 rw [e1, e2, e3]
theorem fold_same {f g : List Us → Nat → List Us} : ∀ (I : List Nat) (U : List Us), (∀ U x, x ∈ I → f U x = g U x) → I.foldl f U = I.foldl g U
 | [], U, _ => rfl
 | x :: I, U, h => by
  rw [List.foldl_cons, List.foldl_cons, h U x (List.mem_cons_self ..)]
  exact fold_same I _ fun U z hz => h U z (List.mem_cons_of_mem _ hz)
theorem run_same (hi : ∀ i, i < n → M.inc i = M'.inc i ∧ M.ring i = M'.ring i) (hc : M.cap = M'.cap) (hb : M.b = M'.b) (hw : M.w = M'.w) : M.run n = M'.run n := by
 induction n with
 | zero => rfl
 | succ n ih =>
  show M.step (M.run n) n = M'.step (M'.run n) n
  rw [ih fun i h => hi i (by omega)]
  unfold Mx.step Mx.back Mx.fwd
  rw [(hi n (by omega)).1, hb, hw]
  split
  ·exact fold_same _ _ fun U x hx => by
    have := List.mem_range'_1.1 hx
    exact use_same (hi n (by omega)).1 (hi x (by omega)).1 (hi x (by omega)).2 hc
  exact fold_same _ _ fun U x hx => by
   have := List.mem_range'_1.1 hx
   exact use_same (hi x (by omega)).1 (hi n (by omega)).1 (hi n (by omega)).2 hc
def wl (M : Mx) (U : List Us) (I : List Nat) : List (Int × Rat) := I.filterMap fun i => if 0 < M.left U i then some ((i : Int), M.left U i) else none
theorem wl_yes {I : List Nat} (h : 0 < M.left U v) : wl M U (v :: I) = ((v : Int), M.left U v) :: wl M U I := by
 unfold wl
 rw [List.filterMap_cons, if_pos h]
theorem wl_no {I : List Nat} (h : ¬ 0 < M.left U v) : wl M U (v :: I) = wl M U I := by
 unfold wl
 rw [List.filterMap_cons, if_neg h]
theorem wl_same : ∀ {I : List Nat}, (∀ i ∈ I, M.left U i = M.left U' i) → wl M U I = wl M U' I
 | [], _ => rfl
 | i :: I, h => by
  have e := h i (List.mem_cons_self ..)
  have ih := wl_same (I := I) fun j hj => h j (List.mem_cons_of_mem _ hj)
  by_cases hp : 0 < M.left U i
  ·rw [wl_yes hp, wl_yes (by rw [← e]; exact hp), e, ih]
  rw [wl_no hp, wl_no (by rw [← e]; exact hp), ih]
theorem left_fold_ne {v' : Nat} : ∀ (I : List Nat) (U : List Us), v' ∉ I → M.left (I.foldl (fun U v => M.use U v y) U) v' = M.left U v'
 | [], _, _ => rfl
 | i :: I, U, h => by
  rw [List.foldl_cons, left_fold_ne I _ fun h9 => h (List.mem_cons_of_mem _ h9)]
  exact left_use_ne fun e => h (e ▸ List.mem_cons_self ..)
theorem fwd_use {fr : Int} : ∀ (I : List Nat) (U : List Us), I.Nodup → (∀ i ∈ I, fr ≤ (i : Int)) → (∀ i ∈ I, 0 ≤ M.left U i) →
  I.foldl (fun U v => M.use U v y) U = (useL fr (wl M U I) (M.room U y)).2.1.foldl (fun U x => M.us U x.1 y x.2) U ∧
  wl M (I.foldl (fun U v => M.use U v y) U) I = (useL fr (wl M U I) (M.room U y)).1.filter (fun x => !dl0 x.1 x.2)
 | [], U, _, _, _ => ⟨rfl, rfl⟩
 | i :: I, U, hn, hf, h0 => by
  obtain ⟨hi, hn⟩ := List.nodup_cons.1 hn
  have hf' : ∀ i ∈ I, fr ≤ (i : Int) := fun j hj => hf j (List.mem_cons_of_mem _ hj)
  have hfi := hf i (List.mem_cons_self ..)
  have h0i := h0 i (List.mem_cons_self ..)
  have ne : ∀ j ∈ I, i ≠ j := fun j hj e => hi (e ▸ hj)
  obtain ⟨ih1, ih2⟩ := fwd_use (fr := fr) I (M.use U i y) hn hf' fun j hj => by rw [left_use_ne (ne j hj)]; exact h0 j (List.mem_cons_of_mem _ hj)
  have hw : wl M (M.use U i y) I = wl M U I := wl_same fun j hj => left_use_ne (ne j hj)
  rw [hw] at ih1 ih2
  have hl9 := left_fold_ne (M := M) (y := y) I (M.use U i y) hi
  rw [List.foldl_cons]
  by_cases hp : 0 < M.left U i
  ·rw [wl_yes hp]
   by_cases hr : 0 < M.room U y
   ·have hm : 0 < qmin (M.left U i) [M.room U y] := by rw [qmin2]; split <;> assumption
    have hroom : M.room (M.use U i y) y = M.room U y - qmin (M.left U i) [M.room U y] := by rw [use_yes hm]; exact room_app hm (qmin_le2 _ _)
    rw [useL_yes (x := ((i : Int), M.left U i)) hfi hr]
    rw [hroom] at ih1 ih2
    dsimp only
    refine ⟨?_, ?_⟩
    ·rw [ih1, List.foldl_cons]
     rfl
    have hl := (left_use (M := M) (y := y) h0i).1
    by_cases hz : 0 < M.left U i - qmin (M.left U i) [M.room U y]
    ·rw [wl_yes (by rw [hl9, hl]; exact hz), List.filter_cons_of_pos (by simp only [dl0, Bool.not_eq_true', decide_eq_false_iff_not]; have := (sgn_pos _).2 hz; omega), hl9, hl, ih2]
    have : M.left U i - qmin (M.left U i) [M.room U y] = 0 := by have := qmin_le1 (M.left U i) (M.room U y); grind
    rw [wl_no (by rw [hl9, hl]; exact hz), List.filter_cons_of_neg (by rw [this]; simp [dl0]), ih2]
   have hno : M.use U i y = U := use_no (by have := qmin_le2 (M.left U i) (M.room U y); grind)
   rw [useL_no (x := ((i : Int), M.left U i)) (fun h => hr h.2)]
   rw [hno] at ih1 ih2 hl9 ⊢
   dsimp only
   refine ⟨ih1, ?_⟩
   rw [wl_yes (by rw [hl9]; exact hp), List.filter_cons_of_pos (by simp only [dl0, Bool.not_eq_true', decide_eq_false_iff_not]; have := (sgn_pos _).2 hp; omega), hl9, ih2]
  have hno : M.use U i y = U := use_no (by have := qmin_le1 (M.left U i) (M.room U y); grind)
  rw [hno] at ih1 ih2 hl9 ⊢
  rw [wl_no hp, wl_no (by rw [hl9]; exact hp)]
  exact ⟨ih1, ih2⟩
end
section
variable {α : Type} {f : α → List Tr} {z k o : Nat} {xs : List α} {x x' : α} {us : List Tr}
theorem flat_sub' (hf : ∀ x, (f x).length = z) (h : xs[k]? = some x) (hm : o + us.length ≤ z) (hu : ((f x).drop o).take us.length = us) : ((xs.flatMap f).drop (k * z + o)).take us.length = us := by
 rw [flat_sub hf h hm]
 exact hu
theorem flat_subM (hf : ∀ x, (f x).length = z) (h : xs[k]? = some x) (hm : o + us.length ≤ z) (hu : ((f x).drop o).take us.length = us) : (((xs.flatMap f).map AV.t).drop (0 + k * z + o)).take (us.map AV.t).length = us.map .t := by
 rw [← List.map_drop, ← List.map_take, Nat.zero_add, List.length_map, flat_sub' hf h hm hu]
theorem flat_cut (h : k < xs.length) : xs = xs.take k ++ xs[k] :: xs.drop (k + 1) := by
 rw [← List.drop_eq_getElem_cons h, List.take_append_drop]
theorem flat_putM (hf : ∀ x, (f x).length = z) (h : xs[k]? = some x) (hm : o + us.length ≤ z) (hx : f x' = (f x).take o ++ us ++ (f x).drop (o + us.length)) : putA ((xs.flatMap f).map AV.t) (0 + k * z + o) (us.map AV.t) = ((xs.set k x').flatMap f).map .t := by
 obtain ⟨hk, rfl⟩ := List.getElem?_eq_some_iff.1 h
 rw [← putA_map, Nat.zero_add]
 congr 1
 have hA : ((xs.take k).flatMap f).length = k * z := by rw [flat_len hf, List.length_take, Nat.min_eq_left (by omega)]
 have e : xs.flatMap f = (xs.take k).flatMap f ++ (f xs[k] ++ (xs.drop (k + 1)).flatMap f) := by
  conv => lhs; rw [flat_cut hk]
  rw [List.flatMap_append, List.flatMap_cons]
 have hl := hf xs[k]
 rw [List.set_eq_take_append_cons_drop, if_pos hk, List.flatMap_append, List.flatMap_cons, hx, e]
 generalize (xs.take k).flatMap f = A at *
 generalize (xs.drop (k + 1)).flatMap f = C at *
 generalize f xs[k] = X at *
 unfold putA
 rw [List.take_append, List.drop_append, hA, List.take_of_length_le (l := A) (by omega), List.drop_of_length_le (l := A) (by omega), show k * z + o - k * z = o by omega, show k * z + o + us.length - k * z = o + us.length by omega, List.take_append, List.drop_append, show o - X.length = 0 by omega, show o + us.length - X.length = 0 by omega]
 simp
theorem flat_le (hf : ∀ x, (f x).length = z) (h : k < xs.length) (hm : o + us.length ≤ z) : 0 + k * z + o + (us.map AV.t).length ≤ ((xs.flatMap f).map AV.t).length := by
 rw [List.length_map, List.length_map, flat_len hf]
 have := Nat.mul_le_mul (show k + 1 ≤ xs.length by omega) (Nat.le_refl z)
 rw [Nat.add_mul] at this
 omega
theorem flat_snoc (xs : List α) (x : α) : (xs.flatMap f).map AV.t ++ (f x).map .t = ((xs ++ [x]).flatMap f).map .t := by simp [List.flatMap_append]
end
structure Rw where
 l : Rat
 m : Rat
 u : Rat
 t : Rat
 e : Rat
 c : Rat
def rtr (o : Bool) (r : Rw) : List Tr := (Fr4.of r.l).tr o ++ ((Fr4.of r.m).tr o ++ ((Fr4.of r.u).tr o ++ ((Fr4.of r.t).tr o ++ ((Fr4.of r.e).tr o ++ (Fr4.of r.c).tr o))))
def utr (o : Bool) (u : Us) : List Tr := .v (.int .i64 u.v) :: .v (.int .i64 u.y) :: ((Fr4.of u.n).tr o ++ ((Fr4.of u.p).tr o ++ (Fr4.of u.q).tr o))
def ytr (y : Fr4 × Fr4) : List Tr := y.1.tr false ++ y.2.tr false
def rcl (rs : List Rw) : List AV := (rs.flatMap (rtr false)).map .t
def ucl (us : List Us) : List AV := (us.flatMap (utr false)).map .t
theorem rtr_len (o : Bool) (r : Rw) : (rtr o r).length = 24 := rfl
theorem utr_len (o : Bool) (u : Us) : (utr o u).length = 14 := rfl
theorem ytr_len (y : Fr4 × Fr4) : (ytr y).length = 8 := rfl
theorem rcl_len (rs : List Rw) : (rcl rs).length = rs.length * 24 := by rw [rcl, List.length_map, flat_len (rtr_len false)]
theorem ucl_len (us : List Us) : (ucl us).length = us.length * 14 := by rw [ucl, List.length_map, flat_len (utr_len false)]
theorem rcl_snoc (rs : List Rw) (r : Rw) : rcl rs ++ (rtr false r).map .t = rcl (rs ++ [r]) := flat_snoc rs r
theorem ucl_snoc (us : List Us) (u : Us) : ucl us ++ (utr false u).map .t = ucl (us ++ [u]) := flat_snoc us u
def nilR : Rw := ⟨0, 0, 0, 0, 0, 0⟩
def nthR (rs : List Rw) (k : Nat) : Rw := rs.getD k nilR
theorem nthR_get {rs : List Rw} {k : Nat} (h : k < rs.length) : rs[k]? = some (nthR rs k) := by simp [nthR, h]
def nilU : Us := ⟨0, 0, 0, 0, 0⟩
def nthU (us : List Us) (k : Nat) : Us := us.getD k nilU
theorem nthU_get {us : List Us} {k : Nat} (h : k < us.length) : us[k]? = some (nthU us k) := by simp [nthU, h]
theorem nthU_mem {us : List Us} {k : Nat} (h : k < us.length) : nthU us k ∈ us := List.mem_of_getElem? (nthU_get h)
def nthY (ys : List (Fr4 × Fr4)) (k : Nat) : Fr4 × Fr4 := ys.getD k (nilF, nilF)
theorem nthY_get {ys : List (Fr4 × Fr4)} {k : Nat} (h : k < ys.length) : ys[k]? = some (nthY ys k) := by simp [nthY, h]
theorem nthY_mem {ys : List (Fr4 × Fr4)} {k : Nat} (h : k < ys.length) : nthY ys k ∈ ys := List.mem_of_getElem? (nthY_get h)
def useR (rs : List Rw) (y : Nat) (n : Rat) : List Rw := if 0 < n then rs.set y ⟨(nthR rs y).l, (nthR rs y).m, (nthR rs y).u + n, (nthR rs y).t - n, (nthR rs y).e, (nthR rs y).c⟩ else rs
def useU (rs : List Rw) (us : List Us) (v : Int) (y : Nat) (n : Rat) : List Us := if 0 < n then us ++ [⟨v, y, n, (nthR rs y).t, (nthR rs y).t - n⟩] else us
def yrs (M : Mx) (N : Nat) : List (Fr4 × Fr4) := (List.range N).map fun y => (Fr4.of (M.inc y), Fr4.of (M.ring y))
theorem yrs_len (M : Mx) (N : Nat) : (yrs M N).length = N := by simp [yrs]
theorem yrs_get {M : Mx} {N y : Nat} (h : y < N) : (yrs M N)[y]? = some (Fr4.of (M.inc y), Fr4.of (M.ring y)) := by simp [yrs, h]
def Mx.row (M : Mx) (U : List Us) (e c : Nat → Rat) (y : Nat) : Rw := ⟨M.los y, M.lim y, inY U y, M.tax U y, e y, c y⟩
def Mx.rows (M : Mx) (U : List Us) (e c : Nat → Rat) (n : Nat) : List Rw := (List.range n).map (M.row U e c)
section
variable {M : Mx} {U : List Us} {e c e' c' : Nat → Rat} {n y v : Nat} {m : Rat}
theorem rows_len : (M.rows U e c n).length = n := by simp [Mx.rows]
theorem rows_get (h : y < n) : (M.rows U e c n)[y]? = some (M.row U e c y) := by simp [Mx.rows, h]
theorem rows_nth (h : y < n) : nthR (M.rows U e c n) y = M.row U e c y := by simp [Mx.rows, nthR, h]
theorem map_set {f g : Nat → Rw} {x : Rw} (hy : y < n) (h : ∀ i, i < n → i ≠ y → f i = g i) (hx : x = g y) : ((List.range n).map f).set y x = (List.range n).map g := by
 apply List.ext_getElem?
 intro i
 rw [List.getElem?_set]
 split
 ·rename_i e
  subst e
  rw [if_pos (by simpa using hy)]
  simp [hy, hx]
 rename_i e
 by_cases hi : i < n
 ·simp [hi, h i hi (fun h => e h.symm)]
 rw [List.getElem?_eq_none (by simp; omega), List.getElem?_eq_none (by simp; omega)]
theorem rows_use {v : Int} (hy : y < n) : useR (M.rows U e c n) y m = M.rows (M.us U v y m) e c n := by
 unfold useR Mx.us
 split
 ·rw [rows_nth hy]
  refine map_set hy (fun i _ hi => ?_) ?_
  ·unfold Mx.row
   rw [inY_app_ne (fun h => hi h.symm), tax_app_ne (fun h => hi h.symm)]
  unfold Mx.row
  rw [inY_app_self, tax_app]
 rfl
theorem uses_use {v : Int} (hy : y < n) : useU (M.rows U e c n) U v y m = M.us U v y m := by
 unfold useU Mx.us
 rw [rows_nth hy]
 rfl
theorem rows_exp {q : Rat} (hy : y < n) (h : ∀ i, i < n → i ≠ y → e i = e' i) (hq : e' y = q) : (M.rows U e c n).set y ⟨M.los y, M.lim y, inY U y, M.tax U y, q, c y⟩ = M.rows U e' c n :=
 map_set hy (fun i hi hn => by unfold Mx.row; rw [h i hi hn]) (by unfold Mx.row; rw [hq])
theorem rows_clo {q : Rat} (hy : y < n) (h : ∀ i, i < n → i ≠ y → c i = c' i) (hq : c' y = q) : (M.rows U e c n).set y ⟨M.los y, M.lim y, inY U y, M.tax U y, e y, q⟩ = M.rows U e c' n :=
 map_set hy (fun i hi hn => by unfold Mx.row; rw [h i hi hn]) (by unfold Mx.row; rw [hq])
theorem rows_same (h : ∀ i, i < n → e i = e' i) (h' : ∀ i, i < n → c i = c' i) : M.rows U e c n = M.rows U e' c' n := by
 refine List.map_congr_left fun i hi => ?_
 have := List.mem_range.1 hi
 unfold Mx.row
 rw [h i this, h' i this]
theorem rows_snoc : M.rows U e c n ++ [M.row U e c n] = M.rows U e c (n + 1) := by simp [Mx.rows, List.range_succ]
end
def Mu (D : Nat) (q : Rat) : Prop := ∃ k : Int, q * (D : Rat) = (k : Rat)
section
variable {D E : Nat} {p q : Rat}
theorem Mu.zero : Mu D 0 := ⟨0, by simp⟩
theorem Mu.add (h : Mu D p) (h' : Mu D q) : Mu D (p + q) := by
 obtain ⟨a, ha⟩ := h
 obtain ⟨b, hb⟩ := h'
 exact ⟨a + b, by rw [Rat.add_mul, ha, hb, Rat.intCast_add]⟩
theorem Mu.neg (h : Mu D p) : Mu D (-p) := by
 obtain ⟨a, ha⟩ := h
 exact ⟨-a, by rw [Rat.neg_mul, ha, Rat.intCast_neg]⟩
theorem Mu.sub (h : Mu D p) (h' : Mu D q) : Mu D (p - q) := by
 rw [Rat.sub_eq_add_neg]
 exact h.add h'.neg
theorem Mu.mul (h : Mu D p) (h' : Mu E q) : Mu (D * E) (p * q) := by
 obtain ⟨a, ha⟩ := h
 obtain ⟨b, hb⟩ := h'
 refine ⟨a * b, ?_⟩
 rw [Rat.intCast_mul, ← ha, ← hb, Rat.natCast_mul]
 grind
theorem Mu.up (h : Mu D p) : Mu (E * D) p := by
 obtain ⟨a, ha⟩ := h
 refine ⟨(E : Int) * a, ?_⟩
 rw [Rat.intCast_mul, ← ha, Rat.natCast_mul]
 show p * ((E : Rat) * (D : Rat)) = ((E : Int) : Rat) * (p * (D : Rat))
 have : ((E : Int) : Rat) = (E : Rat) := rfl
 grind
theorem Mu.up' (h : Mu D p) : Mu (D * E) p := by
 rw [Nat.mul_comm]
 exact h.up
theorem mden (q : Rat) : q * (q.den : Rat) = (q.num : Rat) := by
 have h := Rat.num_divInt_den q
 have h2 : Rat.divInt q.num (q.den : Int) = (q.num : Rat) / ((q.den : Int) : Rat) := Rat.divInt_eq_div _ _
 have h3 : ((q.den : Int) : Rat) = (q.den : Rat) := rfl
 have h4 : (q.den : Rat) ≠ 0 := by
  have := q.den_pos
  intro h
  have : q.den = 0 := by exact_mod_cast h
  omega
 rw [h2, h3] at h
 have h6 : (q.num : Rat) / (q.den : Rat) * (q.den : Rat) = (q.num : Rat) := Rat.div_mul_cancel h4
 rwa [h] at h6
theorem Mu.self (p : Rat) : Mu p.den p := ⟨p.num, mden p⟩
theorem Mu.abv (h : Mu D p) : Mu D (abv p) := by
 rw [abv_eq]
 split
 ·exact .zero
 exact h
theorem Mu.min (h : Mu D p) (h' : Mu D q) : Mu D (qmin p [q]) := by
 rw [qmin2]
 split
 ·exact h'
 exact h
theorem Mu.sz {L B : Nat} (h : Mu D p) (h0 : 0 ≤ p) (hB : p ≤ (B : Rat)) (hD : 0 < D) (hL : (dg 4294967296 B).length + (dg 4294967296 D).length ≤ L) : Sz L p := by
 obtain ⟨k, hk⟩ := h
 have hD' : (0 : Rat) < (D : Rat) := by exact_mod_cast hD
 have hp : p = Rat.divInt k D := by
  have h2 : Rat.divInt k (D : Int) = (k : Rat) / ((D : Int) : Rat) := Rat.divInt_eq_div k D
  rw [h2, ← hk, show (((D : Nat) : Int) : Rat) = (D : Rat) from rfl, Rat.mul_div_cancel (by grind)]
 have h1 : (0 : Rat) ≤ (k : Rat) := by rw [← hk]; exact Rat.mul_nonneg h0 (by grind)
 have hk0 : 0 ≤ k := by exact_mod_cast h1
 have h3 : (k : Rat) ≤ ((B : Rat) * (D : Rat)) := by rw [← hk]; exact Rat.mul_le_mul_of_nonneg_right hB (by grind)
 have h4 : (k : Rat) ≤ (((B * D : Nat) : Int) : Rat) := by
  have e : (((B * D : Nat) : Int) : Rat) = (B : Rat) * (D : Rat) := by
   show ((B * D : Nat) : Rat) = _
   exact Rat.natCast_mul ..
  rw [e]
  exact h3
 have h5 : k ≤ ((B * D : Nat) : Int) := by exact_mod_cast h4
 obtain ⟨e1, e2⟩ := divInt_sz (a := k) (b := D) (L := L) (M := L) (by omega) (Nat.le_trans (dg_le_len (show k.natAbs ≤ B * D by omega)) (Nat.le_trans (dg_mul_len B D) hL)) (by unfold SzI; rw [Int.natAbs_natCast]; omega)
 rw [hp]
 exact ⟨e1, e2⟩
end
section
variable {x y : Zi} {k k' : Int}
theorem p_reduced (h : Zn x k) (h' : Zn y k') (h0 : k' ≠ 0) : Spec true Tryz.prog 115 [] [gF x, gF y] (Ret (qO (Rat.divInt k k'))) := spec_newq fun N w us hf hN => by
 obtain ⟨u, v, rfl, h1, h2⟩ := fvl2 hf
 obtain ⟨z, rfl, i1⟩ := isz_of_G h1 h
 obtain ⟨z', rfl, i2⟩ := isz_of_G h2 h'
 obtain ⟨xs, g1, rfl, g3⟩ := (isz z k).mono _ _ _ hN i1
 obtain ⟨ys, g1', rfl, g3'⟩ := (isz z' k').mono _ _ _ hN i2
 exact (rat_reduced _ _ _ _ _ _ _ _ _ _ w (g1.u32 fun _ h => h) (g1'.u32 fun _ h => h) g3 g3' h0).mono fun _ _ => newq_of
theorem p_Neg {a : Fr4} {p : Rat} (h : Qn a p) : Spec true Tryz.prog 72 [] [qF a] (Ret (qO (-p))) := by
 have := c_rNeg h.1
 rwa [h.2] at this
theorem mul_q (p q : Rat) : Rat.divInt (p.num * q.num) ((p.den : Int) * (q.den : Int)) = p * q := by
 rw [← Rat.divInt_mul_divInt, Rat.num_divInt_den, Rat.num_divInt_den]
theorem mul_sz {L M : Nat} {p q : Rat} (hp : Sz L p) (hq : Sz M q) : Sz (L + M) (p * q) := by
 rw [← mul_q p q]
 have h5 := divInt_sz (Int.mul_pos (show (0 : Int) < p.den by have := p.den_pos; omega) (show (0 : Int) < q.den by have := q.den_pos; omega)) (mulz_sz hp.1 hq.1) (mulz_sz (szden hp) (szden hq))
 exact ⟨h5.1, h5.2⟩
theorem qmax_snoc (p : Rat) (l : List Rat) (q : Rat) : qmax p (l ++ [q]) = if qmax p l < q then q else qmax p l := by
 unfold qmax
 rw [List.foldl_append]
 rfl
theorem abv_szm {L : Nat} {p : Rat} (h : Sz L p) (hL : 2 ≤ L) : Sz L (abv p) := by
 rw [abv_eq]
 split
 ·exact (int_sz (z := 0) (by omega) (by omega)).mono (by omega)
 exact h
theorem den_nz (p q : Rat) : (p.den : Int) * (q.den : Int) ≠ 0 := by
 have h1 := p.den_pos
 have h2 := q.den_pos
 exact Int.ne_of_gt (Int.mul_pos (by omega) (by omega))
end
namespace Mx
def E (M : Mx) : Nat → Nat
 | 0 => 1
 | n + 1 => M.E n * ((M.inc n).den * (M.ring n).den)
def D (M : Mx) (N : Nat) : Nat := M.cap.den * M.E N
structure Ok (M : Mx) (N : Nat) : Prop where
 inc : ∀ y, y < N → Sz 4 (M.inc y)
 ring : ∀ y, y < N → Sz 4 (M.ring y)
 cap : Sz 4 M.cap
 c0 : 0 ≤ M.cap
 c1 : M.cap ≤ 1
 r0 : ∀ y, y < N → 0 ≤ M.ring y
 r1 : ∀ y, y < N → M.ring y ≤ M.lim y
 n : N ≤ 40
 w : M.w ≤ 40
 b : M.b ≤ 3
structure Iv (M : Mx) (N : Nat) (U : List Us) : Prop where
 v : ∀ v, v < N → (0 ≤ M.left U v ∧ M.left U v ≤ M.los v) ∧ Mu (M.D N) (M.left U v)
 y : ∀ y, y < N → (0 ≤ inY U y ∧ M.ring y + inY U y ≤ M.lim y) ∧ Mu (M.D N) (inY U y)
end Mx
theorem le_num {q : Rat} {B : Nat} (h : q.num.natAbs ≤ B) : q ≤ (B : Rat) := by
 rcases Rat.le_total (a := q) (b := 0) with h0 | h0
 ·exact Rat.le_trans h0 (by exact_mod_cast Nat.zero_le B)
 have h1 : q * (q.den : Rat) = (q.num : Rat) := mden q
 have h2 : (1 : Rat) ≤ (q.den : Rat) := by exact_mod_cast q.den_pos
 have h3 : q * 1 ≤ q * (q.den : Rat) := Rat.mul_le_mul_of_nonneg_left h2 h0
 have h4 : (q.num : Rat) ≤ (B : Rat) := by
  have : q.num ≤ (B : Int) := by omega
  exact_mod_cast this
 grind
def BB : Nat := 340282366920938463463374607431768211456
theorem sz_le {q : Rat} (h : Sz 4 q) : q ≤ (BB : Rat) := by
 refine le_num ?_
 have h1 := dg_lt (B := 4294967296) (by omega) (n := q.num.natAbs)
 have h2 : (4294967296 : Nat) ^ (dg 4294967296 q.num.natAbs).length ≤ 4294967296 ^ 4 := Nat.pow_le_pow_right (by omega) h.1
 have h3 : (4294967296 : Nat) ^ 4 = BB := by decide
 omega
theorem bb_len : (dg 4294967296 BB).length ≤ 5 := dg_length_le (by omega) (by decide)
section
variable {M : Mx} {N v y n k : Nat} {U : List Us} {m : Rat}
open Mx
theorem E_pos : ∀ n, 0 < M.E n
 | 0 => by simp [Mx.E]
 | n + 1 => by
  have h1 := (M.inc n).den_pos
  have h2 := (M.ring n).den_pos
  exact Nat.mul_pos (E_pos n) (Nat.mul_pos h1 h2)
theorem E_mu : ∀ {n y : Nat}, y < n → Mu (M.E n) (M.inc y) ∧ Mu (M.E n) (M.ring y)
 | n + 1, y, h => by
  unfold Mx.E
  by_cases e : y = n
  ·subst e
   exact ⟨(Mu.self _).up'.up, (Mu.self _).up.up⟩
  obtain ⟨h1, h2⟩ := E_mu (n := n) (y := y) (by omega)
  exact ⟨h1.up', h2.up'⟩
theorem E_len (h : ∀ y, y < n → Sz 4 (M.inc y) ∧ Sz 4 (M.ring y)) : (dg 4294967296 (M.E n)).length ≤ 1 + 8 * n := by
 induction n with
 | zero => exact dg_length_le (by omega) (by simp [Mx.E])
 | succ n ih =>
  have h1 := ih fun y hy => h y (by omega)
  obtain ⟨h2, h3⟩ := h n (by omega)
  have h4 := dg_mul_len (M.E n) ((M.inc n).den * (M.ring n).den)
  have h5 := dg_mul_len (M.inc n).den (M.ring n).den
  have h6 := h2.2
  have h7 := h3.2
  unfold Mx.E
  omega
theorem Mx.Ok.len (h : M.Ok N) : (dg 4294967296 (M.D N)).length ≤ 325 := by
 have h1 := dg_mul_len M.cap.den (M.E N)
 have h2 := E_len (M := M) (n := N) fun y hy => ⟨h.inc y hy, h.ring y hy⟩
 have h3 := h.cap.2
 have := h.n
 unfold Mx.D
 omega
theorem D_pos : 0 < M.D N := Nat.mul_pos M.cap.den_pos (E_pos N)
theorem mu_inc (h : y < N) : Mu (M.D N) (M.inc y) := (E_mu h).1.up
theorem mu_ring (h : y < N) : Mu (M.D N) (M.ring y) := (E_mu h).2.up
theorem mu_lim (h : y < N) : Mu (M.D N) (M.lim y) := (Mu.self M.cap).mul (E_mu h).1.abv
theorem mu_los (h : y < N) : Mu (M.D N) (M.los y) := (Mu.zero.sub (mu_inc h)).abv
theorem Mx.Ok.sz (h : M.Ok N) {q : Rat} (h0 : 0 ≤ q) (hB : q ≤ (BB : Rat)) (hm : Mu (M.D N) q) : Sz 330 q := hm.sz h0 hB D_pos (by have := h.len; have := bb_len; omega)
theorem bb_ge : (0 : Rat) ≤ (BB : Rat) := by exact_mod_cast Nat.zero_le BB
theorem Mx.Ok.abv_le (h : M.Ok N) (hy : y < N) : abv (M.inc y) ≤ (BB : Rat) := by
 have h1 := sz_le (h.inc y hy)
 have := bb_ge
 rw [abv_eq]
 split <;> grind
theorem Mx.Ok.lim_le (h : M.Ok N) : M.lim y ≤ abv (M.inc y) := by
 have h1 := Rat.mul_le_mul_of_nonneg_right h.c1 (abv_ge (M.inc y))
 unfold Mx.lim
 grind
theorem Mx.Ok.lim_ge (h : M.Ok N) : 0 ≤ M.lim y := Rat.mul_nonneg h.c0 (abv_ge _)
theorem Mx.Ok.los_le (h : M.Ok N) (hy : y < N) : M.los y ≤ (BB : Rat) := by
 have h1 : -(M.inc y) ≤ (BB : Rat) := sz_le (neg_sz (h.inc y hy))
 have := bb_ge
 unfold Mx.los
 rw [abv_eq]
 split <;> grind
theorem Mx.Ok.sz_los (h : M.Ok N) (hy : y < N) : Sz 330 (M.los y) := h.sz (abv_ge _) (h.los_le hy) (mu_los hy)
theorem Mx.Ok.sz_lim (h : M.Ok N) (hy : y < N) : Sz 330 (M.lim y) := h.sz h.lim_ge (Rat.le_trans h.lim_le (h.abv_le hy)) (mu_lim hy)
theorem Mx.Ok.sz_inc (h : M.Ok N) (hy : y < N) : Sz 330 (M.inc y) := (h.inc y hy).mono (by omega)
theorem Mx.Ok.sz_ring (h : M.Ok N) (hy : y < N) : Sz 330 (M.ring y) := (h.ring y hy).mono (by omega)
theorem Mx.Iv.sz_left (hI : M.Iv N U) (h : M.Ok N) (hv : v < N) : Sz 330 (M.left U v) := h.sz (hI.v v hv).1.1 (Rat.le_trans (hI.v v hv).1.2 (h.los_le hv)) (hI.v v hv).2
theorem Mx.Iv.in_le (hI : M.Iv N U) (h : M.Ok N) (hy : y < N) : inY U y ≤ (BB : Rat) := by
 have h1 := (hI.y y hy).1.2
 have h2 := h.r0 y hy
 have h3 := h.lim_le (y := y)
 have h4 := h.abv_le hy
 grind
theorem Mx.Iv.sz_in (hI : M.Iv N U) (h : M.Ok N) (hy : y < N) : Sz 330 (inY U y) := h.sz (hI.y y hy).1.1 (hI.in_le h hy) (hI.y y hy).2
theorem Mx.Iv.tax_ge (hI : M.Iv N U) (h : M.Ok N) (hy : y < N) : 0 ≤ M.tax U y := by
 have h1 := (hI.y y hy).1.2
 have h3 := h.lim_le (y := y)
 unfold Mx.tax
 grind
theorem Mx.Iv.sz_tax (hI : M.Iv N U) (h : M.Ok N) (hy : y < N) : Sz 330 (M.tax U y) := by
 refine h.sz (hI.tax_ge h hy) ?_ ((mu_inc hy).abv.sub ((mu_ring hy).add (hI.y y hy).2))
 have h1 := (hI.y y hy).1.1
 have h2 := h.r0 y hy
 have h4 := h.abv_le hy
 unfold Mx.tax
 grind
theorem room_eq (hI : M.Iv N U) (hy : y < N) : M.room U y = M.lim y - (M.ring y + inY U y) := abv_of (by have := (hI.y y hy).1.2; grind)
theorem mu_room (hI : M.Iv N U) (hy : y < N) : Mu (M.D N) (M.room U y) := ((mu_lim hy).sub ((mu_ring hy).add (hI.y y hy).2)).abv
theorem Mx.Iv.sz_room (hI : M.Iv N U) (h : M.Ok N) (hy : y < N) : Sz 330 (M.room U y) := by
 refine h.sz room_ge ?_ (mu_room hI hy)
 rw [room_eq hI hy]
 have h1 := (hI.y y hy).1.1
 have h2 := h.r0 y hy
 have h4 := h.abv_le hy
 have h3 := h.lim_le (y := y)
 grind
theorem Mx.Iv.nil (h : M.Ok N) : M.Iv N [] := by
 refine ⟨fun v hv => ?_, fun y hy => ?_⟩
 ·have e : M.left [] v = M.los v := by
   unfold Mx.left
   show M.los v - 0 = _
   grind
  rw [e]
  exact ⟨⟨abv_ge _, Rat.le_refl⟩, mu_los hv⟩
 have e : inY [] y = 0 := rfl
 rw [e]
 refine ⟨⟨Rat.le_refl, ?_⟩, .zero⟩
 have := h.r1 y hy
 grind
theorem Mx.Iv.us (hI : M.Iv N U) (hv : v < N) (hy : y < N) (h1 : m ≤ M.left U v) (h2 : m ≤ M.room U y) (hm : Mu (M.D N) m) : M.Iv N (M.us U v y m) := by
 unfold Mx.us
 split
 ·rename_i h0
  rw [room_eq hI hy] at h2
  refine ⟨fun v' hv' => ?_, fun y' hy' => ?_⟩
  ·by_cases e : v = v'
   ·subst e
    rw [left_app]
    obtain ⟨⟨g1, g2⟩, g3⟩ := hI.v v hv
    exact ⟨⟨by grind, by grind⟩, g3.sub hm⟩
   rw [left_app_ne e]
   exact hI.v v' hv'
  by_cases e : y = y'
  ·subst e
   rw [inY_app_self]
   obtain ⟨⟨g1, g2⟩, g3⟩ := hI.y y hy
   exact ⟨⟨by grind, by grind⟩, g3.add hm⟩
  rw [inY_app_ne e]
  exact hI.y y' hy'
 exact hI
theorem Mx.Iv.use (hI : M.Iv N U) (hv : v < N) (hy : y < N) : M.Iv N (M.use U v y) := hI.us hv hy (qmin_le1 _ _) (qmin_le2 _ _) ((hI.v v hv).2.min (mu_room hI hy))
theorem Mx.Iv.fold {f : List Us → Nat → List Us} : ∀ (I : List Nat) {U : List Us}, M.Iv N U → (∀ U x, M.Iv N U → x ∈ I → M.Iv N (f U x)) → M.Iv N (I.foldl f U)
 | [], U, h, _ => h
 | x :: I, U, h, hf => by
  rw [List.foldl_cons]
  exact Mx.Iv.fold I (hf U x h (List.mem_cons_self ..)) fun U z hU hz => hf U z hU (List.mem_cons_of_mem _ hz)
theorem Mx.Iv.back (hI : M.Iv N U) (hy : y < N) (hk : k ≤ y - (y - M.b)) : M.Iv N (M.back U y k) := by
 refine Mx.Iv.fold _ hI fun U x hU hx => hU.use hy ?_
 have := List.mem_range'_1.1 hx
 omega
theorem Mx.Iv.fwd (hI : M.Iv N U) (hy : y < N) (hk : k ≤ y - (y - M.w)) : M.Iv N (M.fwd U y k) := by
 refine Mx.Iv.fold _ hI fun U x hU hx => hU.use ?_ hy
 have := List.mem_range'_1.1 hx
 omega
theorem Mx.Iv.step (hI : M.Iv N U) (hy : y < N) : M.Iv N (M.step U y) := by
 unfold Mx.step
 split
 ·exact hI.back hy (Nat.le_refl _)
 exact hI.fwd hy (Nat.le_refl _)
theorem Mx.Ok.run (h : M.Ok N) : ∀ {k}, k ≤ N → M.Iv N (M.run k)
 | 0, _ => Mx.Iv.nil h
 | k + 1, hk => (Mx.Ok.run h (k := k) (by omega)).step (by omega)
theorem back_succ : M.back U y (k + 1) = M.use (M.back U y k) y (y - M.b + k) := by
 unfold Mx.back
 rw [List.range'_concat, List.foldl_append]
 simp
theorem left_back_ne {v' : Nat} (h : y ≠ v') : M.left (M.back U y k) v' = M.left U v' := by
 unfold Mx.back
 generalize List.range' (y - M.b) k = I
 induction I generalizing U with
 | nil => rfl
 | cons x I ih => rw [List.foldl_cons, ih, left_use_ne h]
theorem left_step {v' : Nat} (h : y < v') : M.left (M.step U y) v' = M.left U v' := by
 unfold Mx.step
 split
 ·exact left_back_ne (by omega)
 exact left_fold_ne _ _ fun hm => by have := List.mem_range'_1.1 hm; omega
theorem left_run (h : k ≤ v) : M.left (M.run k) v = M.los v := by
 induction k with
 | zero =>
  show M.los v - 0 = _
  grind
 | succ k ih =>
  show M.left (M.step (M.run k) k) v = _
  rw [left_step (by omega), ih (by omega)]
theorem left_old (h : v + M.w < y) : M.left (M.step U y) v = M.left U v := by
 unfold Mx.step
 split
 ·exact left_back_ne (by omega)
 exact left_fold_ne _ _ fun hm => by have := List.mem_range'_1.1 hm; omega
theorem left_noneg (h : ¬ M.inc y < 0) : M.los y = 0 := by
 unfold Mx.los
 rw [abv_eq]
 split <;> grind
def Mx.I (M : Mx) (k : Nat) : List Nat := List.range' (k - M.w) (k - (k - M.w))
theorem I_mem {i : Nat} : i ∈ M.I k ↔ i < k ∧ k ≤ i + M.w := by
 unfold Mx.I
 rw [List.mem_range'_1]
 omega
theorem I_nodup : (M.I k).Nodup := List.nodup_range' ..
theorem wl_append {I J : List Nat} : wl M U (I ++ J) = wl M U I ++ wl M U J := by simp [wl]
theorem wl_mem {I : List Nat} {x : Int × Rat} (h : x ∈ wl M U I) : ∃ i ∈ I, x = ((i : Int), M.left U i) ∧ 0 < M.left U i := by
 unfold wl at h
 obtain ⟨i, hi, e⟩ := List.mem_filterMap.1 h
 split at e
 ·rename_i hp
  injection e with e
  exact ⟨i, hi, e.symm, hp⟩
 cases e
theorem wl_len {I : List Nat} : (wl M U I).length ≤ I.length := List.length_filterMap_le ..
theorem I_len (h : M.w ≤ 40) : (M.I k).length ≤ 40 := by
 unfold Mx.I
 rw [List.length_range']
 omega
theorem wl_filter {I : List Nat} {p : Int → Bool} : (wl M U I).filter (fun x => p x.1) = wl M U (I.filter fun (i : Nat) => p (i : Int)) := by
 induction I with
 | nil => rfl
 | cons i I ih =>
  by_cases hp : 0 < M.left U i
  ·rw [wl_yes hp]
   cases hq : p (i : Int) with
   | true => rw [List.filter_cons_of_pos (by exact hq), List.filter_cons_of_pos (by exact hq), wl_yes hp, ih]
   | false => rw [List.filter_cons_of_neg (by simp [hq]), List.filter_cons_of_neg (by simp [hq]), ih]
  rw [wl_no hp, ih]
  cases hq : p (i : Int) with
  | true => rw [List.filter_cons_of_pos (by exact hq), wl_no hp]
  | false => rw [List.filter_cons_of_neg (by simp [hq])]
theorem I_succ : M.I (k + 1) = (M.I k ++ [k]).filter fun (i : Nat) => !decide ((i : Int) < (k : Int) - (M.w : Int) + 1) := by
 have e : M.I k ++ [k] = List.range' (k - M.w) (k + 1 - (k - M.w)) := by
  unfold Mx.I
  rw [show k + 1 - (k - M.w) = (k - (k - M.w)) + 1 by omega, List.range'_concat, show k - M.w + 1 * (k - (k - M.w)) = k by omega]
 rw [e]
 unfold Mx.I
 by_cases h : k < M.w
 ·rw [show k + 1 - M.w = 0 by omega, show k - M.w = 0 by omega]
  symm
  rw [List.filter_eq_self]
  intro i hi
  simp
  omega
 rw [show k + 1 - (k - M.w) = M.w + 1 by omega, List.range'_succ, List.filter_cons_of_neg (by simp; omega), show k + 1 - (k + 1 - M.w) = M.w by omega, show k - M.w + 1 = k + 1 - M.w by omega]
 symm
 rw [List.filter_eq_self]
 intro i hi
 have := List.mem_range'_1.1 hi
 simp
 omega
end
section
variable {α : Type}
def ixG (dl : α → Bool) : List α → Nat
 | [] => 0
 | x :: l => if dl x then 0 else ixG dl l + 1
theorem ixG_le {dl : α → Bool} : ∀ (l : List α), ixG dl l ≤ l.length
 | [] => Nat.le_refl _
 | x :: l => by
  have := ixG_le (dl := dl) l
  unfold ixG
  split <;> simp <;> omega
theorem ixG_step {dl : α → Bool} {d : α} : ∀ {l : List α} {k : Nat}, k ≤ ixG dl l → k < l.length → (dl (l.getD k d) = true → ixG dl l = k) ∧ (dl (l.getD k d) = false → k + 1 ≤ ixG dl l)
 | [], _, _, h => by simp at h
 | x :: l, 0, _, _ => by
  have e : (x :: l).getD 0 d = x := rfl
  rw [e]
  unfold ixG
  exact ⟨fun h => by simp [h], fun h => by simp [h]⟩
 | x :: l, k + 1, h, h2 => by
  have e : (x :: l).getD (k + 1) d = l.getD k d := by simp
  rw [e]
  unfold ixG at h ⊢
  by_cases hx : dl x = true
  ·simp [hx] at h
  simp only [if_neg hx] at h ⊢
  have := ixG_step (dl := dl) (d := d) (l := l) (k := k) (by omega) (by simpa using h2)
  exact ⟨fun h => by rw [this.1 h], fun h => by have := this.2 h; omega⟩
theorem ixG_any {dl : α → Bool} : ∀ (l : List α), l.any dl = decide (ixG dl l < l.length)
 | [] => rfl
 | x :: l => by
  unfold ixG
  by_cases hx : dl x = true
  ·simp [hx]
  simp only [if_neg hx, List.any_cons, ixG_any l, List.length_cons]
  simp [hx]
def ixZ (dl : α → Bool) (l : List α) : Int := if ixG dl l = l.length then -1 else (ixG dl l : Int)
theorem ixZ_any {dl : α → Bool} (l : List α) : decide (0 ≤ ixZ dl l) = l.any dl := by
 have h := ixG_le (dl := dl) l
 rw [ixG_any]
 unfold ixZ
 split
 ·rw [decide_eq_decide]; omega
 rw [decide_eq_decide]; omega
end
def sMy (ys : List (Fr4 × Fr4)) : Tr := .s false 70 8 ys.length (ys.flatMap ytr)
def sRw (o o' : Bool) (rs : List Rw) : Tr := .s o 66 24 rs.length (rs.flatMap (rtr o'))
def sUs (o o' : Bool) (us : List Us) : Tr := .s o 46 14 us.length (us.flatMap (utr o'))
theorem rflat_len (o : Bool) (rs : List Rw) : (rs.flatMap (rtr o)).length = rs.length * 24 := flat_len (rtr_len o) rs
theorem uflat_len (o : Bool) (us : List Us) : (us.flatMap (utr o)).length = us.length * 14 := flat_len (utr_len o) us
theorem yflat_len (ys : List (Fr4 × Fr4)) : (ys.flatMap ytr).length = ys.length * 8 := flat_len ytr_len ys
theorem rdTL_app : ∀ a b : List Tr, rdTL (a ++ b) = rdTL a ++ rdTL b := by
 intro a b
 induction a with
 | nil => rfl
 | cons x a ih => simp only [List.cons_append, rdTL, ih]
theorem rdTL_flat {α : Type} {f g : α → List Tr} (h : ∀ x, rdTL (f x) = g x) (xs : List α) : rdTL (xs.flatMap f) = xs.flatMap g := by
 induction xs with
 | nil => rfl
 | cons x xs ih => rw [List.flatMap_cons, rdTL_app, ih, h, List.flatMap_cons]
theorem rd_fr (o : Bool) (a : Fr4) : rdTL (a.tr o) = a.tr false := by
 have h : ∀ l : List Nat, rdTL (u32T l) = u32T l := by
  intro l
  induction l with
  | nil => rfl
  | cons x l ih => simp only [u32T, List.map_cons, rdTL, rdT] at ih ⊢; rw [ih]
 simp [Fr4.tr, sU, rdTL, rdT, h]
theorem rd_rw (o : Bool) (rs : List Rw) : rdTL (rs.flatMap (rtr o)) = rs.flatMap (rtr false) := rdTL_flat (fun r => by simp only [rtr, rdTL_app, rd_fr]) rs
theorem rd_us (o : Bool) (us : List Us) : rdTL (us.flatMap (utr o)) = us.flatMap (utr false) := rdTL_flat (fun u => by simp only [utr, rdTL, rdT, rdTL_app, rd_fr]) us
def flC (M : Mx) (N : Nat) (r u l : AV) : List AV := [r, u, tv (.bool (Fr4.of M.cap).s), .t (sU false (Fr4.of M.cap).x), tv (.bool (Fr4.of M.cap).t), .t (sU false (Fr4.of M.cap).y), tv (.int .i64 ((M.b : Nat) : Int)), tv (.int .i64 ((M.w : Nat) : Int)), .t (sMy (yrs M N)), l]
def flO (M : Mx) (N : Nat) (rs : List Rw) (us : List Us) (l : Tr) : Lt := ⟨92, 0, flC M N (.t (sRw true false rs)) (.t (sUs true false us)) (.t l)⟩
def ldP (vs : List (Int × Rat)) (last : Int) (put : Bool) : Tr := .p true 136 [sR 97 vs, .v (.int .i64 last), .v (.bool put)]
theorem r0F : FV.agg [tv (.bool false), .t (sU false []), tv (.bool (sgz 1)), .t (sU false (dg 4294967296 (1 : Int).natAbs))] = qF (.of 0) := rfl
theorem p_right {a : Fr4} {p : Rat} (ha : Qn a p) : Spec false Tryz.prog 75 [] [qF a] (Ret (qF (.of p))) := by
 refine fn0 Tryz.func75 rfl Tryz.ntmps75 rfl ttok rfl fun N w c0 h0 => ?_
 refine sq ?_; refine rl ?_; refine bx 0 ?_; refine al 1 ?_; refine nl ?_; refine sq ?_; refine sq ?_; refine rl ?_; refine ld ?_
 refine ca (c_rRight ha.1) ok79 ⟨a1g rfl, rfl⟩ (.one (tv (.bool (rightQ a.s a.x a.t a.y)))) ?_; refine WL.splitb (t := 4) rfl (fun h1 => ?_) (fun h1 => ?_)
 ·refine o1 ?_; refine nl ?_; refine cdf rfl ?_; refine sk ?_; refine sq ?_; refine rl ?_; refine ld ?_; refine st ?_; refine nl ?_; refine rt ?_
  exact en (.inl rfl) rfl (pk1 (.agg (.cons (.id rfl) (.cons (.id rfl) (.cons (.id rfl) (.cons (.id rfl) .nil)))))) (by decide) (fun h => by cases h) (by rw [ha.right h1]; rfl)
 refine o1 ?_; refine nl ?_; refine cdt rfl ?_; refine sq ?_; refine rl ?_; refine o1 ?_; refine ca (p_one) ok110 rfl (kF 1) ?_; refine o1 ?_; refine st ?_; refine nl ?_; refine rt ?_
 have hq9 := ha.wrong h1
 subst hq9; exact en (.inl rfl) rfl (pk1 (.agg (.cons (.id rfl) (.cons .nilf (.cons (.id rfl) (.cons (.id rfl) .nil)))))) (by decide) (fun h => by cases h) r0F
theorem p_Cmp {a b : Fr4} {p q : Rat} (ha : Qn a p) (hb : Qn b q) : Spec true Tryz.prog 81 [] [qF a, qF b] (Ret (.one (tv (.int .i64 (p - q).num.sign)))) := by
 refine fn0 Tryz.func81 rfl Tryz.ntmps81 rfl ttok rfl fun N w c0 h0 => ?_
 have hs := ha.sz; have hs' := hb.sz
 have hs1 := hs.1; have hs2 := hs.2; have hs3 := hs'.1; have hs4 := hs'.2
 have hs5 : (dg 4294967296 ((p.den : Int)).natAbs).length ≤ 68719476736 := hs2
 have hs6 : (dg 4294967296 ((q.den : Int)).natAbs).length ≤ 68719476736 := hs4
 refine sq ?_; refine rl ?_; refine bx 0 ?_; refine bx 1 ?_; refine o1 ?_; refine nl ?_
 refine md (γ := Unit) (fun _ => frL [(2, .one (.pt 0 0)), (3, .one (.pt 1 0)), (4, .one (tv (.int .i64 ((0 : Nat) : Int))))]) (fun _ => ([⟨26, 0, ((Fr4.of p).tr false).map .t⟩, ⟨26, 0, ((Fr4.of q).tr false).map .t⟩] : List Ob).map some) (fun _ => True) ?_ fun _ _ => ?_
 ·refine rd [0, 1] (fun i => [0, 1, 2, 3, 4, 5].contains i) mixed ?_
  refine WO.two (i := 0) (j := 2) (by kernel_rfl) ?_ ?_
  ·refine old 0 ?_; refine WO.two (i := 1) (j := 2) (by kernel_rfl) ?_ ?_
   ·refine oca 1 rfl (p_right ha) ok75 ⟨a1g rfl, rfl⟩ (qF (.of p)) ?_; refine WO.one (by kernel_rfl) (old 2 ?_)
    refine dca 3 rfl (p_right hb) ok75 ⟨a1g rfl, rfl⟩ (qF (.of q)) ?_; refine dst 4 ?_; refine dst 5 ?_; refine dz0 ?_
    exact ⟨(), trivial, su0 h0 [0, 1] _ _ (by decide) ⟨rfl, rfl, rfl, trivial⟩ ⟨oe rfl rfl, oe rfl rfl, rfl⟩⟩
   refine old 2 ?_; refine dca 1 rfl (p_right ha) ok75 ⟨a1g rfl, rfl⟩ (qF (.of p)) ?_; refine dca 3 rfl (p_right hb) ok75 ⟨a1g rfl, rfl⟩ (qF (.of q)) ?_; refine dst 4 ?_; refine dst 5 ?_
   refine dz0 ?_; exact ⟨(), trivial, su0 h0 [0, 1] _ _ (by decide) ⟨rfl, rfl, rfl, trivial⟩ ⟨oe rfl rfl, oe rfl rfl, rfl⟩⟩
  refine old 2 ?_; refine WO.one (by kernel_rfl) (old 0 ?_)
  refine dca 1 rfl (p_right ha) ok75 ⟨a1g rfl, rfl⟩ (qF (.of p)) ?_; refine dca 3 rfl (p_right hb) ok75 ⟨a1g rfl, rfl⟩ (qF (.of q)) ?_; refine dst 4 ?_; refine dst 5 ?_; refine dz0 ?_
  exact ⟨(), trivial, su0 h0 [0, 1] _ _ (by decide) ⟨rfl, rfl, rfl, trivial⟩ ⟨oe rfl rfl, oe rfl rfl, rfl⟩⟩
 refine sq ?_; refine rd [0, 1] (fun i => [11].contains i) mixed ?_
 refine dv 0 ?_; refine dld 1 ?_; refine dv 2 ?_; refine dld 3 ?_; refine dv 5 ?_; refine dld 6 ?_; refine dv 7 ?_; refine dld 8 ?_; have hn1 := mulz_len (p.num) ((q.den : Int))
 refine dca 4 rfl (p_bMul (zn_num hs) (zn_den hs')) ok116 ⟨a1g rfl, a1g rfl, rfl⟩ (kF ((p.num * (q.den : Int)))) ?_; have hn2 := mulz_len (q.num) ((p.den : Int))
 refine dca 9 rfl (p_bMul (zn_num hs') (zn_den hs)) ok116 ⟨a1g rfl, a1g rfl, rfl⟩ (kF ((q.num * (p.den : Int)))) ?_
 refine dca 10 rfl (p_bCmp (Zn.of (k := (p.num * (q.den : Int))) (by omega)) (Zn.of (k := (q.num * (p.den : Int))) (by omega))) ok76 ⟨a1g rfl, a1g rfl, rfl⟩ (.one (tv (.int .i64 ((p.num * (q.den : Int)) - (q.num * (p.den : Int))).sign))) ?_
 refine d_v 11 (by kernel_rfl) rfl rfl ttok rfl (by trivial) ?_ (fun h => by first | rfl | cases h)
 refine dz0 ?_; refine rt ?_; exact en (.inl rfl) rfl (pk1 (pkv _)) (by decide) (fun _ => trivial) (by rw [← cmp_cross]; rfl)
theorem same_yes {p q : Rat} (h : (p.num - q.num).sign = 0) : decide (((p.den : Int) - (q.den : Int)).sign = 0) = decide (p = q) := by
 have h1 := Int.sign_eq_zero_iff_zero.1 h
 rw [decide_eq_decide, Int.sign_eq_zero_iff_zero]
 exact ⟨fun h2 => Rat.ext (by omega) (by omega), fun h2 => by subst h2; omega⟩
theorem same_no {p q : Rat} (h : ¬ (p.num - q.num).sign = 0) : false = decide (p = q) := by
 refine (decide_eq_false fun h2 => h ?_).symm
 subst h2
 rw [Int.sub_self]
 rfl
theorem p_Same {a b : Fr4} {p q : Rat} (ha : Qn a p) (hb : Qn b q) : Spec true Tryz.prog 34 [] [qF a, qF b] (Ret (.one (tv (.bool (decide (p = q)))))) := by
 refine fn0 Tryz.func34 rfl Tryz.ntmps34 rfl ttok rfl fun N w c0 h0 => ?_
 have hs := ha.sz; have hs' := hb.sz
 refine sq ?_; refine rl ?_; refine bx 0 ?_; refine bx 1 ?_; refine o1 ?_; refine nl ?_
 refine md (γ := Unit) (fun _ => frL [(2, .one (.pt 0 0)), (3, .one (.pt 1 0)), (4, .one (tv (.bool false)))]) (fun _ => ([⟨26, 0, ((Fr4.of p).tr false).map .t⟩, ⟨26, 0, ((Fr4.of q).tr false).map .t⟩] : List Ob).map some) (fun _ => True) ?_ fun _ _ => ?_
 ·refine rd [0, 1] (fun i => [0, 1, 2, 3, 4, 5].contains i) mixed ?_
  refine WO.two (i := 0) (j := 2) (by kernel_rfl) ?_ ?_
  ·refine old 0 ?_; refine WO.two (i := 1) (j := 2) (by kernel_rfl) ?_ ?_
   ·refine oca 1 rfl (p_right ha) ok75 ⟨a1g rfl, rfl⟩ (qF (.of p)) ?_; refine WO.one (by kernel_rfl) (old 2 ?_)
    refine dca 3 rfl (p_right hb) ok75 ⟨a1g rfl, rfl⟩ (qF (.of q)) ?_; refine dst 4 ?_; refine dst 5 ?_; refine dz0 ?_
    exact ⟨(), trivial, su0 h0 [0, 1] _ _ (by decide) ⟨rfl, rfl, rfl, trivial⟩ ⟨oe rfl rfl, oe rfl rfl, rfl⟩⟩
   refine old 2 ?_; refine dca 1 rfl (p_right ha) ok75 ⟨a1g rfl, rfl⟩ (qF (.of p)) ?_; refine dca 3 rfl (p_right hb) ok75 ⟨a1g rfl, rfl⟩ (qF (.of q)) ?_; refine dst 4 ?_; refine dst 5 ?_
   refine dz0 ?_; exact ⟨(), trivial, su0 h0 [0, 1] _ _ (by decide) ⟨rfl, rfl, rfl, trivial⟩ ⟨oe rfl rfl, oe rfl rfl, rfl⟩⟩
  refine old 2 ?_; refine WO.one (by kernel_rfl) (old 0 ?_)
  refine dca 1 rfl (p_right ha) ok75 ⟨a1g rfl, rfl⟩ (qF (.of p)) ?_; refine dca 3 rfl (p_right hb) ok75 ⟨a1g rfl, rfl⟩ (qF (.of q)) ?_; refine dst 4 ?_; refine dst 5 ?_; refine dz0 ?_
  exact ⟨(), trivial, su0 h0 [0, 1] _ _ (by decide) ⟨rfl, rfl, rfl, trivial⟩ ⟨oe rfl rfl, oe rfl rfl, rfl⟩⟩
 refine sq ?_; refine rl ?_; refine o1 ?_; refine ld ?_; refine o1 ?_; refine ld ?_
 refine ca (p_bCmp (zn_num hs) (zn_num hs')) ok76 ⟨a1g rfl, a1g rfl, rfl⟩ (.one (tv (.int .i64 (p.num - q.num).sign))) ?_; refine o1 ?_; refine o1 ?_
 refine WL.split (t := 15) rfl (fun h1 => ?_) (fun h1 => ?_)
 ·refine o1 ?_; refine ld ?_; refine o1 ?_; refine ld ?_; refine ca (p_bCmp (zn_den hs) (zn_den hs')) ok76 ⟨a1g rfl, a1g rfl, rfl⟩ (.one (tv (.int .i64 ((p.den : Int) - (q.den : Int)).sign))) ?_
  (iterate 3 refine o1 ?_); refine nl ?_; refine rt ?_; exact en (.inl rfl) rfl (pk1 (pkv _)) (by decide) (fun _ => trivial) (congrArg (fun z => FV.one (tv (.bool z))) (same_yes h1))
 (iterate 6 refine no_ ?_); refine o1 ?_; refine o1 ?_; refine nl ?_; refine rt ?_
 exact en (.inl rfl) rfl (pk1 (pkv _)) (by decide) (fun _ => trivial) (congrArg (fun z => FV.one (tv (.bool z))) (same_no h1))
theorem p_less {a b : Fr4} {p q : Rat} (ha : Qn a p) (hb : Qn b q) : Spec true Tryz.prog 162 [] [qF a, qF b] (Ret (.one (tv (.bool (decide (q < p)))))) := by
 refine fn0 Tryz.func162 rfl Tryz.ntmps162 rfl ttok rfl fun N w c0 h0 => ?_
 refine sq ?_; refine rl ?_; refine bx 0 ?_; refine bx 1 ?_; refine o1 ?_; refine nl ?_; refine sq ?_; refine rl ?_; refine ld ?_; refine o1 ?_; refine ld ?_
 refine ca (p_Cmp hb ha) ok81 ⟨a1g rfl, a1g rfl, rfl⟩ (.one (tv (.int .i64 (q - p).num.sign))) ?_; refine o1 ?_; refine o1 ?_; refine nl ?_; refine rt ?_
 exact en (.inl rfl) rfl (pk1 (pkv _)) (by decide) (fun _ => trivial) (congrArg (fun z => FV.one (tv (.bool z))) (lt_sign p q))
theorem p_Min1 {a : Fr4} : Spec false Tryz.prog 161 [] [qF a] (Ret (.one (.t (.f 162 [.a (a.tr false)] [])))) := by
 refine fn0 Tryz.func161 rfl Tryz.ntmps161 rfl ttok rfl fun N w c0 h0 => ?_
 refine sq ?_; refine rl ?_; refine bx 0 ?_; refine o1 ?_; refine nl ?_; refine sq ?_; refine rl ?_; refine ld ?_; refine o1 ?_; refine o1 ?_; refine nl ?_; refine rt ?_
 exact en (.inl rfl) rfl (pk1 (.one (.id rfl))) (by decide) (fun h => by cases h) rfl
theorem p_best {a : Fr4} {p : Rat} {xs : List Fr4} (ha : Qn a p) (hx : ∀ x ∈ xs, x.ok) (hl : xs.length ≤ 1099511627776) : Spec false Tryz.prog 158 [] [qF a, .one (.t (sQ false xs)), .one (.t (.f 161 [] []))] (Ret (qF (.of (qmin p (xs.map Fr4.q))))) := by
 refine fn0 Tryz.func158 rfl Tryz.ntmps158 rfl ttok rfl fun N w c0 h0 => ?_
 have hz : ∀ x ∈ xs, Sz 68719476736 x.q := fun x h => (show Qn x x.q from ⟨hx x h, rfl⟩).sz
 refine sq ?_; refine rl ?_; refine bx 0 ?_; refine al 1 ?_; refine nl ?_; refine sq ?_; refine rl ?_; refine ld ?_; refine ca (p_right ha) ok75 ⟨a1g rfl, rfl⟩ (qF (.of p)) ?_
 refine ca (c_rWhole (z := 0) (by omega) (by omega)) ok69 ⟨a1 rfl, rfl⟩ (qF (.of ((0 : Int) : Rat))) ?_
 refine ca (p_add0 ha.sz) ok111 ⟨a1g rfl, a1g rfl, rfl⟩ (qF (.of p)) ?_; refine al 2 ?_; refine st ?_; refine nl ?_; refine sq ?_; refine sq ?_; refine rl ?_; (iterate 3 refine o1 ?_); refine nl ?_
 refine bl ?_
 refine lp (γ := Nat) (fun k => frL [(2, .one (.t (.f 161 [] []))), (6, .one (.pt 0 0)), (7, .one (.pt 1 0)), (14, .one (.t (sQ false xs))), (15, .one (tv (.int .i64 ((xs.length : Nat) : Int)))), (16, .one (tv (.int .i64 ((k : Nat) : Int))))]) (fun k => [(⟨26, 0, [tv (.bool false), tv (.slice none 0 0), tv (.bool false), tv (.slice none 0 0)]⟩ : Ob), ⟨26, 0, ((Fr4.of (qmin p ((xs.take k).map Fr4.q))).tr false).map .t⟩].map some) (fun k => k ≤ xs.length ∧ Sz 68719476736 (qmin p ((xs.take k).map Fr4.q))) (fun k => xs.length - k) 0 ⟨Nat.zero_le _, ha.sz⟩ (su0 h0 [1, 2] _ _ (by decide) ⟨rfl, rfl, rfl, rfl, rfl, rfl, trivial⟩ ⟨oe rfl rfl, oet rfl, rfl⟩) fun k hk => ?_
 refine sq ?_; refine rl ?_; refine o1 ?_; refine nl ?_; refine sq ?_; refine cdp rfl (fun h1 => ?_) (fun h1 => ?_)
 ·refine sk ?_; refine sq ?_; refine bl ?_; refine sq ?_; refine rl ?_; refine o1 ?_; refine ldf ((nthF xs (k)).tr false) (rat_at xs (k := k) (by omega)) ?_
  refine al 2 ?_; refine st ?_; refine nl ?_; refine sq ?_; refine rd [0, 1, 2] (fun i => [].contains i) mixed ?_
  refine dv 0 ?_; refine dld 1 ?_; refine dv 2 ?_; refine dld 4 ?_
  refine dce 3 3 [.agg [tv (.bool (sgz (qmin p ((xs.take k).map Fr4.q)).num)), .t (sU false (dg 4294967296 (qmin p ((xs.take k).map Fr4.q)).num.natAbs)), tv (.bool false), .t (sU false (dg 4294967296 (qmin p ((xs.take k).map Fr4.q)).den))]] rfl rfl (p_Min1 (a := .of (qmin p ((xs.take k).map Fr4.q)))) ok161 ⟨rfl, rfl⟩ ?_
  refine dce 5 3 [qF (nthF xs (k))] rfl rfl (p_less (a := .of (qmin p ((xs.take k).map Fr4.q))) (b := (nthF xs (k))) (Qn.of (p := (qmin p ((xs.take k).map Fr4.q))) hk.2) ⟨hx _ (nthF_mem (by omega)), rfl⟩) ok162 ⟨rfl, rfl⟩ ?_
  refine dz0 ?_; refine cdp rfl (fun h2 => ?_) (fun h2 => ?_)
  ·refine rl ?_; refine ld ?_; refine ca (p_right ⟨hx _ (nthF_mem (by omega)), rfl⟩) ok75 ⟨a1g rfl, rfl⟩ (qF (.of (nthF xs (k)).q)) ?_
   refine ca (c_rWhole (z := 0) (by omega) (by omega)) ok69 ⟨a1 rfl, rfl⟩ (qF (.of ((0 : Int) : Rat))) ?_
   refine ca (p_add0 (hz _ (nthF_mem (by omega)))) ok111 ⟨a1g rfl, a1g rfl, rfl⟩ (qF (.of (nthF xs (k)).q)) ?_
   refine st ?_; refine nl ?_; refine rl ?_; refine o1 ?_; refine WL.cast (t := 30) (u' := .int .i64 ((k + 1 : Nat) : Int)) rfl (cint (by omega)) ?_
   refine o1 ?_; refine nl ?_; have hst : (qmin p ((xs.take (k + 1)).map Fr4.q)) = (nthF xs k).q := by rw [take_q (by omega), qmin_snoc]; exact if_pos h2
   exact ⟨k + 1, by omega, ⟨by omega, by rw [hst]; exact hz _ (nthF_mem (by omega))⟩, su0 h0 [0, 1] _ _ (by decide) ⟨rfl, rfl, rfl, rfl, rfl, rfl, trivial⟩ ⟨oe rfl rfl, oet (congrArg (fun q => some (⟨26, 0, ((Fr4.of q).tr false).map .t⟩ : Ob)) hst.symm), rfl⟩⟩
  refine sk ?_; refine rl ?_; refine o1 ?_; refine WL.cast (t := 30) (u' := .int .i64 ((k + 1 : Nat) : Int)) rfl (cint (by omega)) ?_
  refine o1 ?_; refine nl ?_; have hst : (qmin p ((xs.take (k + 1)).map Fr4.q)) = (qmin p ((xs.take k).map Fr4.q)) := by rw [take_q (by omega), qmin_snoc]; exact if_neg h2
  exact ⟨k + 1, by omega, ⟨by omega, by rw [hst]; exact hk.2⟩, su0 h0 [0, 1] _ _ (by decide) ⟨rfl, rfl, rfl, rfl, rfl, rfl, trivial⟩ ⟨oe rfl rfl, oet (congrArg (fun q => some (⟨26, 0, ((Fr4.of q).tr false).map .t⟩ : Ob)) hst.symm), rfl⟩⟩
 refine ex ?_; refine sq ?_; refine rl ?_; refine ld ?_; refine st ?_; refine nl ?_; refine rt ?_
 exact en (.inl rfl) rfl (pk1 (.agg (.cons (.id rfl) (.cons (.id rfl) (.cons (.id rfl) (.cons (.id rfl) .nil)))))) (by decide) (fun h => by cases h) (by rw [List.take_of_length_le (by omega)]; rfl)
theorem p_Min {a : Fr4} {p : Rat} {xs : List Fr4} (ha : Qn a p) (hx : ∀ x ∈ xs, x.ok) (hl : xs.length ≤ 1099511627776) : Spec false Tryz.prog 123 [] [qF a, .one (.t (sQ false xs))] (Ret (qF (.of (qmin p (xs.map Fr4.q))))) := by
 refine fn0 Tryz.func123 rfl Tryz.ntmps123 rfl ttok rfl fun N w c0 h0 => ?_
 refine sq ?_; refine rl ?_; refine bx 0 ?_; refine al 1 ?_; refine nl ?_; refine sq ?_; refine rl ?_; refine ld ?_; refine o1 ?_
 refine ca (p_best ha hx hl) ok158 ⟨a1g rfl, a1 rfl, a1 rfl, rfl⟩ (qF (.of (qmin p (xs.map Fr4.q)))) ?_; refine st ?_; refine nl ?_; refine rt ?_
 exact en (.inl rfl) rfl (pk1 (.agg (.cons (.id rfl) (.cons (.id rfl) (.cons (.id rfl) (.cons (.id rfl) .nil)))))) (by decide) (fun h => by cases h) (rfl)
end Go.Proofs.YtofllcodkcjajaaGreat
