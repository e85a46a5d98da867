/- Part 9 of a proof: Zl to B4. -/
import Derived.Test.YtogaallfhifngaaGreatM8
import Derived.Test.YtogaallfhifngaaGreatM4
import Derived.Test.YtogaallfhifngaaGreatM5
set_option maxRecDepth 100000
set_option linter.unusedVariables false
set_option linter.unusedSimpArgs false
namespace Go.Proofs.YtogaallfhifngaaGreat
open Go Go.RowKit
section
variable {l : List Nat} {k N : Nat} {z : Int} {xs : List Nat} {neg : Bool}
theorem zin_wrong' (hr : rightI neg xs = false) : zin neg xs = 0 := by simp [zin, hr]
theorem rightI_nil (h : xs.length = 0) : rightI neg xs = !neg := by
  rw [List.length_eq_zero_iff] at h
  subst h
  simp [rightI]
theorem rightI_pos {n : Nat} (hn : xs.length = n) (h : 0 < n) : rightI neg xs = decide (((nth xs (n - 1) : Nat) : Int) ≠ 0) := by
  subst hn
  rcases xs with _ | ⟨x, l⟩
  · simp at h
  · simp only [rightI, List.isEmpty_cons, Bool.false_and, Bool.not_false, Bool.true_and, Bool.false_or]
    by_cases h0 : nth (x :: l) ((x :: l).length - 1) = 0
    · rw [h0]; rfl
    · rw [bne_iff_ne.2 h0, decide_eq_true (by omega)]
theorem sgn_not (k : Int) : sgn (!(sgz k)) k.natAbs = -k := by
  unfold sgn sgz
  by_cases h : k < 0 <;> simp [h] <;> omega
theorem add_len {xs ys : List Nat} (hx : Lim 4294967296 xs) (hy : Lim 4294967296 ys) : (dg 4294967296 (vl 4294967296 xs + vl 4294967296 ys)).length ≤ xs.length + ys.length + 1 := by
  refine dg_length_le (by omega) ?_
  have h1 := vl_lt hx
  have h2 := vl_lt hy
  have h3 : 4294967296 ^ xs.length ≤ 4294967296 ^ (xs.length + ys.length) := Nat.pow_le_pow_right (by omega) (by omega)
  have h4 : 4294967296 ^ ys.length ≤ 4294967296 ^ (xs.length + ys.length) := Nat.pow_le_pow_right (by omega) (by omega)
  rw [Nat.pow_succ]
  omega
theorem sub_len {xs ys : List Nat} (hx : Lim 4294967296 xs) : (dg 4294967296 (vl 4294967296 xs - vl 4294967296 ys)).length ≤ xs.length := dg_length_le (by omega) (Nat.lt_of_le_of_lt (Nat.sub_le _ _) (vl_lt hx))
theorem mul_len {xs ys : List Nat} (hx : Lim 4294967296 xs) (hy : Lim 4294967296 ys) : (dg 4294967296 (vl 4294967296 xs * vl 4294967296 ys)).length ≤ xs.length + ys.length := by
  refine dg_length_le (by omega) ?_
  rw [Nat.pow_add]
  exact Nat.mul_lt_mul'' (vl_lt hx) (vl_lt hy)
theorem natAbs_val (k : Int) : vl 4294967296 (dg 4294967296 k.natAbs) = k.natAbs := vl_dg (by omega) _
theorem dg_le_len {a b : Nat} (h : a ≤ b) : (dg 4294967296 a).length ≤ (dg 4294967296 b).length := dg_length_mono (by omega) h
theorem addz_len (k k' : Int) : (dg 4294967296 (k + k').natAbs).length ≤ (dg 4294967296 k.natAbs).length + (dg 4294967296 k'.natAbs).length + 1 := by
  have h := add_len (Lim_dg (B := 4294967296) (by omega) k.natAbs) (Lim_dg (B := 4294967296) (by omega) k'.natAbs)
  rw [natAbs_val, natAbs_val] at h
  exact Nat.le_trans (dg_le_len (by omega)) h
theorem mulz_len (k k' : Int) : (dg 4294967296 (k * k').natAbs).length ≤ (dg 4294967296 k.natAbs).length + (dg 4294967296 k'.natAbs).length := by
  rw [Int.natAbs_mul]
  have h := mul_len (Lim_dg (B := 4294967296) (by omega) k.natAbs) (Lim_dg (B := 4294967296) (by omega) k'.natAbs)
  rwa [natAbs_val, natAbs_val] at h
theorem negz_len (k : Int) : (dg 4294967296 (-(k)).natAbs).length = (dg 4294967296 k.natAbs).length := by rw [Int.natAbs_neg]
theorem of_parts {n : Int} (h1 : -9223372036854775808 ≤ n) (h2 : n ≤ 9223372036854775807) : -4294967295 ≤ Int.tmod n 4294967296 ∧ Int.tmod n 4294967296 ≤ 4294967295 ∧ -2147483648 ≤ Int.tdiv n 4294967296 ∧ Int.tdiv n 4294967296 ≤ 2147483648 ∧ (Int.tmod n 4294967296).natAbs + 4294967296 * (Int.tdiv n 4294967296).natAbs = n.natAbs ∧ True := by
  obtain ⟨m, hm⟩ : ∃ m : Nat, n.natAbs = m := ⟨_, rfl⟩
  rw [hm]
  rcases (show n = m ∨ n = -(m : Int) by omega) with h | h
  · subst h
    have e1 : Int.tmod (m : Int) 4294967296 = ((m % 4294967296 : Nat) : Int) := by rw [Int.tmod_eq_emod_of_nonneg (by omega)]; omega
    have e2 : Int.tdiv (m : Int) 4294967296 = ((m / 4294967296 : Nat) : Int) := by rw [Int.tdiv_eq_ediv_of_nonneg (by omega)]; omega
    rw [e1, e2]
    exact ⟨by omega, by omega, by omega, by omega, by rw [Int.natAbs_natCast, Int.natAbs_natCast]; omega, trivial⟩
  · subst h
    have e1 : Int.tmod (-(m : Int)) 4294967296 = -((m % 4294967296 : Nat) : Int) := by rw [Int.neg_tmod, Int.tmod_eq_emod_of_nonneg (by omega)]; omega
    have e2 : Int.tdiv (-(m : Int)) 4294967296 = -((m / 4294967296 : Nat) : Int) := by rw [Int.neg_tdiv, Int.tdiv_eq_ediv_of_nonneg (by omega)]; omega
    rw [e1, e2]
    exact ⟨by omega, by omega, by omega, by omega, by rw [Int.natAbs_neg, Int.natAbs_neg, Int.natAbs_natCast, Int.natAbs_natCast]; omega, trivial⟩
theorem of_val {n : Int} {a b : Nat} (h : a + 4294967296 * b = n.natAbs) : sgn (decide (n < 0)) (vl 4294967296 [a, b]) = n := by
  have e : vl 4294967296 [a, b] = n.natAbs := by simp [vl]; omega
  rw [e]
  exact sgn_self n
theorem zadd_same {k k' : Int} {s : Bool} (h : s = sgz k) (h' : sgz k = sgz k') : sgn s (k.natAbs + k'.natAbs) = k + k' := by
  subst h
  unfold sgz at *
  unfold sgn
  by_cases h1 : k < 0 <;> by_cases h2 : k' < 0 <;> simp [h1, h2] at h' ⊢ <;> omega
theorem zadd_ge {k k' : Int} {s : Bool} (h : s = sgz k) (h' : sgz k ≠ sgz k') (hl : ¬ k.natAbs < k'.natAbs) : sgn s (k.natAbs - k'.natAbs) = k + k' := by
  subst h
  unfold sgz at *
  unfold sgn
  by_cases h1 : k < 0 <;> by_cases h2 : k' < 0 <;> simp [h1, h2] at h' ⊢ <;> omega
theorem zadd_lt {k k' : Int} {s : Bool} (h : s = sgz k') (h' : sgz k ≠ sgz k') (hl : k.natAbs < k'.natAbs) : sgn s (k'.natAbs - k.natAbs) = k + k' := by
  subst h
  unfold sgz at *
  unfold sgn
  by_cases h1 : k < 0 <;> by_cases h2 : k' < 0 <;> simp [h1, h2] at h' ⊢ <;> omega
theorem parts_step {X os : List Nat} {k q : Nat} {a : Nat} (hk : 0 < k) (hkx : k ≤ X.length) (hos : os.length = X.length) {v r : Nat} (h : vl 65536 (X.drop k) = v * vl 65536 (os.drop k) + r) (ha : a = nth X (k - 1)) (hq : q = (a + 65536 * r) / v) :
    vl 65536 (X.drop (k - 1)) = v * vl 65536 ((os.set (k - 1) q).drop (k - 1)) + (a + 65536 * r - q * v) := by
  obtain ⟨j, rfl⟩ : ∃ j, k = j + 1 := ⟨k - 1, by omega⟩
  simp only [Nat.add_sub_cancel] at *
  have e1 : X.drop j = nth X j :: X.drop (j + 1) := by rw [List.drop_eq_getElem_cons (by omega), nth_get (by omega)]
  have e2 : (os.set j q).drop j = q :: os.drop (j + 1) := by
    rw [List.drop_eq_getElem_cons (by rw [List.length_set]; omega), List.getElem_set_self, List.drop_set_of_lt (by omega)]
  have h2 : q * v ≤ a + 65536 * r := by rw [hq]; exact Nat.div_mul_le_self _ _
  rw [e1, e2, vl_cons, vl_cons, h, Nat.mul_add, Nat.mul_add, Nat.mul_comm v q, Nat.mul_left_comm v 65536, ← ha]
  omega
theorem half_mul_len {xs ys : List Nat} (hx : Lim 65536 xs) (hy : Lim 65536 ys) : (dg 65536 (vl 65536 xs * vl 65536 ys)).length ≤ xs.length + ys.length := by
  refine dg_length_le (by omega) ?_
  rw [Nat.pow_add]
  exact Nat.mul_lt_mul'' (vl_lt hx) (vl_lt hy)
theorem less_len {u v n m : Nat} (hn : (dg 65536 u).length = n) (hm : (dg 65536 v).length = m) (h : n ≠ m) : decide ((n : Int) < (m : Int)) = decide (u < v) := by
  have e1 := vl_dg (B := 65536) (by omega) u
  have e2 := vl_dg (B := 65536) (by omega) v
  rcases Nat.lt_or_gt_of_ne h with h1 | h1
  · have h2 := vl_lt_of_length (B := 65536) (a := dg 65536 u) (b := dg 65536 v) (by omega) (Lim_dg (by omega) u) (trim_dg (by omega) v) (by omega)
    rw [decide_eq_true (by omega), decide_eq_true (by omega)]
  · have h2 := vl_lt_of_length (B := 65536) (a := dg 65536 v) (b := dg 65536 u) (by omega) (Lim_dg (by omega) v) (trim_dg (by omega) u) (by omega)
    rw [decide_eq_false (by omega), decide_eq_false (by omega)]
theorem less_at {u v k : Nat} (hag : ∀ j, k + 1 ≤ j → nth (dg 65536 u) j = nth (dg 65536 v) j) (h : nth (dg 65536 u) k ≠ nth (dg 65536 v) k) : decide (((nth (dg 65536 u) k : Nat) : Int) < ((nth (dg 65536 v) k : Nat) : Int)) = decide (u < v) := by
  have e1 := vl_dg (B := 65536) (by omega) u
  have e2 := vl_dg (B := 65536) (by omega) v
  rcases Nat.lt_or_gt_of_ne h with h1 | h1
  · have h2 := lt_at (Lim_dg (by omega) u) hag h1
    rw [decide_eq_true (by omega), decide_eq_true (by omega)]
  · have h2 := lt_at (Lim_dg (by omega) v) (fun j hj => (hag j hj).symm) h1
    rw [decide_eq_false (by omega), decide_eq_false (by omega)]
theorem take_step {X Y os : List Nat} {n k br br' d : Nat} (hl : os.length = k) (h : vl 65536 os + n * vl 65536 (Y.take k) = vl 65536 (X.take k) + 65536 ^ k * br) (hd : d + n * nth Y k + br = nth X k + 65536 * br') :
    vl 65536 (os ++ [d]) + n * vl 65536 (Y.take (k + 1)) = vl 65536 (X.take (k + 1)) + 65536 ^ (k + 1) * br' := by
  rw [vl_snoc, vl_take_nth, vl_take_nth, hl, Nat.pow_succ, Nat.mul_assoc, Nat.mul_add, Nat.mul_left_comm n]
  have h3 : 65536 ^ k * (d + n * nth Y k + br) = 65536 ^ k * (nth X k + 65536 * br') := by rw [hd]
  rw [Nat.mul_add, Nat.mul_add, Nat.mul_add] at h3
  omega
theorem take_end {u v n k br ln : Nat} {os : List Nat} (hx : (dg 65536 u).length = ln) (hk : os.length = ln) (hol : Lim 65536 os) (h : vl 65536 os + n * vl 65536 ((dg 65536 v).take k) = vl 65536 ((dg 65536 u).take k) + 65536 ^ k * br) (hnv : n * v ≤ u) (hkk : k = ln := by omega) : vl 65536 os = u - n * v := by
  have h1 := vl_lt hol
  rw [vl_take_all 65536 (l := dg 65536 u) (by omega), vl_dg (by omega)] at h
  have h2 : n * vl 65536 ((dg 65536 v).take k) = n * v := by
    rcases Nat.eq_zero_or_pos n with h0 | h0
    · rw [h0, Nat.zero_mul, Nat.zero_mul]
    · have h3 : v ≤ u := Nat.le_trans (Nat.le_mul_of_pos_left v h0) hnv
      have h4 := dg_length_mono (B := 65536) (by omega) h3
      rw [vl_take_all 65536 (l := dg 65536 v) (by omega), vl_dg (by omega)]
  rw [h2] at h
  rcases Nat.eq_zero_or_pos br with h0 | h0
  · rw [h0, Nat.mul_zero] at h
    omega
  · have h5 : 65536 ^ k * 1 ≤ 65536 ^ k * br := Nat.mul_le_mul_left _ h0
    rw [hk, ← hkk] at h1
    omega
theorem often_end {u v lo hi : Nat} (h1 : lo * v ≤ u) (h2 : u < hi * v) (h : hi = lo + 1) : u / v = lo := by
  subst h
  have hv : 0 < v := by
    rcases Nat.eq_zero_or_pos v with h0 | h0
    · subst h0; simp at h2
    · exact h0
  exact (Nat.div_eq_iff hv).2 (by rw [Nat.add_mul] at h2; omega)
theorem trim_cons_dg {a r : Nat} (ha : a < 65536) : trim ([a] ++ dg 65536 r) = dg 65536 (a + 65536 * r) :=
  dg_of (by omega) (Lim.cons ha (Lim_dg (by omega) r)) (by show a + 65536 * vl 65536 (dg 65536 r) = _; rw [vl_dg (by omega)])
theorem cons_len {a r v : Nat} (ha : a < 65536) (hr : r < v) : (dg 65536 (a + 65536 * r)).length ≤ (dg 65536 v).length + 1 := by
  rw [← trim_cons_dg ha]
  refine Nat.le_trans (trim_length _) ?_
  have := dg_length_mono (B := 65536) (by omega) (Nat.le_of_lt hr)
  simp only [List.length_append, List.length_cons, List.length_nil]
  omega
theorem nth_set_self {l : List Nat} {j v : Nat} (h : j < l.length) : nth (l.set j v) j = v := by simp [nth, h]
theorem parts_end {u v r q : Nat} (h : u = v * q + r) (hr : r < v) : q = u / v ∧ r = u % v := by
  subst h
  rw [Nat.mul_add_div (by omega), Nat.div_eq_of_lt hr, Nat.mul_add_mod, Nat.mod_eq_of_lt hr]
  exact ⟨rfl, rfl⟩
theorem sign_ne {x y : Int} (hx : x.sign ≠ 0) (h : x.sign ≠ y.sign) (hy : y ≠ 0) : (x < 0 ∧ 0 < y) ∨ (0 < x ∧ y < 0) := by
  rcases Int.lt_trichotomy x 0 with h1 | h1 | h1
  · rcases Int.lt_trichotomy y 0 with h2 | h2 | h2
    · rw [Int.sign_eq_neg_one_of_neg h1, Int.sign_eq_neg_one_of_neg h2] at h; exact absurd rfl h
    · exact absurd h2 hy
    · exact .inl ⟨h1, h2⟩
  · rw [h1] at hx; exact absurd rfl hx
  · rcases Int.lt_trichotomy y 0 with h2 | h2 | h2
    · exact .inr ⟨h1, h2⟩
    · exact absurd h2 hy
    · rw [Int.sign_eq_one_of_pos h1, Int.sign_eq_one_of_pos h2] at h; exact absurd rfl h
theorem sign_or {x y : Int} (h : x.sign = 0 ∨ x.sign = y.sign) (hy : y ≠ 0) : x = 0 ∨ (x < 0 ∧ y < 0) ∨ (0 < x ∧ 0 < y) := by
  rcases Int.lt_trichotomy x 0 with h1 | h1 | h1
  · rw [Int.sign_eq_neg_one_of_neg h1] at h
    rcases Int.lt_trichotomy y 0 with h2 | h2 | h2
    · exact .inr (.inl ⟨h1, h2⟩)
    · exact absurd h2 hy
    · rw [Int.sign_eq_one_of_pos h2] at h; omega
  · exact .inl h1
  · rw [Int.sign_eq_one_of_pos h1] at h
    rcases Int.lt_trichotomy y 0 with h2 | h2 | h2
    · rw [Int.sign_eq_neg_one_of_neg h2] at h; omega
    · exact absurd h2 hy
    · exact .inr (.inr ⟨h1, h2⟩)
theorem dm_tr {a b : Int} (h0 : b ≠ 0) : sgn (sgz a) (a.natAbs % b.natAbs) + b * sgn (sgz a != sgz b) (a.natAbs / b.natAbs) = a ∧ (sgn (sgz a) (a.natAbs % b.natAbs)).natAbs < b.natAbs := by
  have e := Nat.div_add_mod a.natAbs b.natAbs
  have l := Nat.mod_lt a.natAbs (show 0 < b.natAbs by omega)
  refine ⟨?_, by rw [sgn_abs]; exact l⟩
  generalize a.natAbs / b.natAbs = q at *
  generalize a.natAbs % b.natAbs = r at *
  have e2 : (b.natAbs : Int) * q + r = a.natAbs := by exact_mod_cast e
  by_cases hb : b < 0 <;> by_cases ha : a < 0
  · rw [show (b.natAbs : Int) = -b by omega, show (a.natAbs : Int) = -a by omega, Int.neg_mul] at e2
    simp [sgn, sgz, hb, ha]; omega
  · rw [show (b.natAbs : Int) = -b by omega, show (a.natAbs : Int) = a by omega, Int.neg_mul] at e2
    simp [sgn, sgz, hb, ha, Int.mul_neg]; omega
  · rw [show (b.natAbs : Int) = b by omega, show (a.natAbs : Int) = -a by omega] at e2
    simp [sgn, sgz, hb, ha, Int.mul_neg]; omega
  · rw [show (b.natAbs : Int) = b by omega, show (a.natAbs : Int) = a by omega] at e2
    simp [sgn, sgz, hb, ha]; omega
theorem dm_adj1 {a b r q : Int} (h0 : b ≠ 0) (hr : r = sgn (sgz a) (a.natAbs % b.natAbs)) (hq : q = sgn (sgz a != sgz b) (a.natAbs / b.natAbs)) (h1 : r.sign ≠ 0) (h2 : r.sign ≠ b.sign) : q - 1 = a.fdiv b ∧ r + b = a.fmod b := by
  obtain ⟨h3, h4⟩ := dm_tr (a := a) h0
  rw [← hr] at h3 h4
  rw [← hq] at h3
  have h5 := sign_ne h1 h2 h0
  have h6 := fdm (a := a) (b := b) (q := q - 1) (r := r + b) h0 (by rw [Int.mul_sub, Int.mul_one]; omega) (by omega) (by omega)
  exact ⟨h6.1.symm, h6.2.symm⟩
theorem dm_adj2 {a b r q : Int} (h0 : b ≠ 0) (hr : r = sgn (sgz a) (a.natAbs % b.natAbs)) (hq : q = sgn (sgz a != sgz b) (a.natAbs / b.natAbs)) (h : r.sign = 0 ∨ r.sign = b.sign) : q = a.fdiv b ∧ r = a.fmod b := by
  obtain ⟨h3, h4⟩ := dm_tr (a := a) h0
  rw [← hr] at h3 h4
  rw [← hq] at h3
  have h5 := sign_or h h0
  have h6 := fdm (a := a) (b := b) (q := q) (r := r) h0 h3 (by omega) (by omega)
  exact ⟨h6.1.symm, h6.2.symm⟩
theorem natabs_zero {k : Int} (h : (dg 4294967296 k.natAbs).length = 0) : k.natAbs = 0 := (dg_eq_nil (by omega)).1 (List.length_eq_zero_iff.1 h)
theorem natabs_nz {k : Int} (h : (dg 4294967296 k.natAbs).length ≠ 0) : k ≠ 0 := by
  intro h0
  subst h0
  exact h (by rw [show Int.natAbs 0 = 0 from rfl, dg_zero]; rfl)
def lbp (l : List Nat) (k N : Nat) : List Nat := lb (l.take k) ++ List.replicate (N - (k + 1) / 2) 0
theorem lbp_zero : lbp l 0 N = List.replicate N 0 := by simp [lbp, lb]
theorem lbp_all (hN : N = (l.length + 1) / 2) (h : l.length ≤ k) : lbp l k N = lb l := by
  unfold lbp
  rw [List.take_of_length_le h, show N - (k + 1) / 2 = 0 by omega]
  simp
theorem lbp_len (hN : N = (l.length + 1) / 2) (hk : k ≤ l.length) : (lbp l k N).length = N := by
  unfold lbp
  rw [List.length_append, List.length_replicate, lb_len, List.length_take, Nat.min_eq_left hk]
  omega
theorem lb_even : ∀ {l : List Nat} {j : Nat}, 2 * j < l.length → lb (l.take (2 * j + 1)) = lb (l.take (2 * j)) ++ [nth l (2 * j)]
  | [], _, h => by simp at h
  | [a], 0, _ => by simp [lb, nth]
  | [a], j + 1, h => by simp at h
  | a :: b :: l, 0, _ => by simp [lb, nth]
  | a :: b :: l, j + 1, h => by
    have ih := lb_even (l := l) (j := j) (by simp at h; omega)
    have e2 : 2 * (j + 1) = 2 * j + 1 + 1 := by omega
    rw [e2, List.take_succ_cons, List.take_succ_cons, List.take_succ_cons, List.take_succ_cons]
    simp only [lb, List.cons_append]
    rw [ih]
    simp [nth]
theorem set_mid {α : Type} (A R : List α) (x y : α) {j : Nat} (h : A.length = j) : (A ++ x :: R).set j y = A ++ y :: R := by
  subst h
  rw [List.set_append_right _ _ (Nat.le_refl _), Nat.sub_self]
  rfl
theorem nth_mid (A R : List Nat) (x : Nat) {j : Nat} (h : A.length = j) : nth (A ++ x :: R) j = x := by
  subst h
  simp [nth]
theorem lbp_even (hN : N = (l.length + 1) / 2) (hk : k < l.length) (he : k % 2 = 0) : (lbp l k N).set (k / 2) (nth l k) = lbp l (k + 1) N := by
  obtain ⟨j, rfl⟩ : ∃ j, k = 2 * j := ⟨k / 2, by omega⟩
  have hA : (lb (l.take (2 * j))).length = j := by rw [lb_len, List.length_take, Nat.min_eq_left (by omega)]; omega
  unfold lbp
  rw [show 2 * j / 2 = j by omega, show N - (2 * j + 1) / 2 = (N - (2 * j + 1 + 1) / 2) + 1 by omega, List.replicate_succ, set_mid _ _ _ _ hA, lb_even hk, List.append_assoc]
  rfl
theorem lbp_odd_nth (hN : N = (l.length + 1) / 2) (hk : k < l.length) (ho : k % 2 = 1) : nth (lbp l k N) (k / 2) = nth l (k - 1) := by
  obtain ⟨j, rfl⟩ : ∃ j, k = 2 * j + 1 := ⟨k / 2, by omega⟩
  have hA : (lb (l.take (2 * j))).length = j := by rw [lb_len, List.length_take, Nat.min_eq_left (by omega)]; omega
  unfold lbp
  rw [show (2 * j + 1) / 2 = j by omega, lb_even (by omega), List.append_assoc]
  exact nth_mid _ _ _ hA
theorem lbp_odd (hN : N = (l.length + 1) / 2) (hk : k < l.length) (ho : k % 2 = 1) : (lbp l k N).set (k / 2) (nth (lbp l k N) (k / 2) + 65536 * nth l k) = lbp l (k + 1) N := by
  rw [lbp_odd_nth hN hk ho]
  obtain ⟨j, rfl⟩ : ∃ j, k = 2 * j + 1 := ⟨k / 2, by omega⟩
  have hA : (lb (l.take (2 * j))).length = j := by rw [lb_len, List.length_take, Nat.min_eq_left (by omega)]; omega
  unfold lbp
  rw [show (2 * j + 1) / 2 = j by omega, lb_even (by omega), List.append_assoc, show 2 * j + 1 + 1 = 2 * (j + 1) by omega, lb_take (by omega), List.append_assoc, show 2 * j + 1 - 1 = 2 * j by omega]
  rw [show N - (2 * (j + 1)) / 2 = N - (2 * (j + 1) + 1) / 2 by omega]
  exact set_mid _ _ _ _ hA
theorem vl_set {l : List Nat} {j v : Nat} : j < l.length → vl 65536 (l.set j v) + 65536 ^ j * nth l j = vl 65536 l + 65536 ^ j * v := by
  induction l generalizing j with
  | nil => intro h; simp at h
  | cons x l ih =>
    intro h
    rcases j with _ | j
    · simp [nth, vl_cons]; omega
    · have := ih (j := j) (by simpa using h)
      simp only [List.set_cons_succ, vl_cons]
      rw [Nat.pow_succ, show nth (x :: l) (j + 1) = nth l j by simp [nth], Nat.mul_comm (65536 ^ j) 65536, Nat.mul_assoc, Nat.mul_assoc]
      omega
theorem times_step {os a b : List Nat} {i k cr x : Nat} (hj : i + k < os.length) (h : vl 65536 os + 65536 ^ (i + k) * cr = vl 65536 (a.take i) * vl 65536 b + 65536 ^ i * (nth a i * vl 65536 (b.take k))) (hx : x = nth os (i + k) + cr + nth a i * nth b k) :
    vl 65536 (os.set (i + k) (x % 65536)) + 65536 ^ (i + (k + 1)) * (x / 65536) = vl 65536 (a.take i) * vl 65536 b + 65536 ^ i * (nth a i * vl 65536 (b.take (k + 1))) := by
  have h1 := vl_set (v := x % 65536) hj
  have h2 := Nat.mod_add_div x 65536
  have h3 : 65536 ^ (i + k) * x = 65536 ^ (i + k) * (x % 65536) + 65536 ^ (i + k) * (65536 * (x / 65536)) := by rw [← Nat.mul_add, h2]
  have h4 : 65536 ^ (i + k) * x = 65536 ^ (i + k) * nth os (i + k) + 65536 ^ (i + k) * cr + 65536 ^ (i + k) * (nth a i * nth b k) := by rw [hx, Nat.mul_add, Nat.mul_add]
  rw [vl_take_nth, Nat.mul_add, Nat.mul_add, show i + (k + 1) = i + k + 1 by omega, Nat.pow_succ, Nat.mul_assoc]
  have h5 : 65536 ^ i * (nth a i * (65536 ^ k * nth b k)) = 65536 ^ (i + k) * (nth a i * nth b k) := by
    rw [Nat.pow_add, Nat.mul_left_comm (nth a i), Nat.mul_assoc]
  omega
theorem times_next {a b : List Nat} {i k : Nat} (hk : b.length ≤ k) : vl 65536 (a.take i) * vl 65536 b + 65536 ^ i * (nth a i * vl 65536 (b.take k)) = vl 65536 (a.take (i + 1)) * vl 65536 b := by
  rw [vl_take_all 65536 hk, vl_take_nth, Nat.add_mul, Nat.mul_assoc]
theorem times_in {os a b : List Nat} {i k cr : Nat} (ha : Lim 65536 a) (hb : Lim 65536 b) (hi : i < a.length) (hk : k ≤ b.length + 1) (h : vl 65536 os + 65536 ^ (i + k) * cr = vl 65536 (a.take i) * vl 65536 b + 65536 ^ i * (nth a i * vl 65536 (b.take k))) (hc : 0 < cr) : k ≤ b.length := by
  rcases Nat.lt_or_ge b.length k with h1 | h1
  · exfalso
    rw [times_next (by omega)] at h
    have h2 := vl_lt (ha.take (i + 1))
    have h3 := vl_lt hb
    have h4 : vl 65536 (a.take (i + 1)) * vl 65536 b < 65536 ^ (a.take (i + 1)).length * 65536 ^ b.length := Nat.mul_lt_mul'' h2 h3
    rw [← Nat.pow_add, List.length_take, Nat.min_eq_left (by omega), show i + 1 + b.length = i + k by omega] at h4
    have h5 : 65536 ^ (i + k) * 1 ≤ 65536 ^ (i + k) * cr := Nat.mul_le_mul_left _ hc
    omega
  · exact h1
end
theorem zcmp_pn {k k' : Int} (h : sgz k = true) (h' : sgz k' = false) : (-1 : Int) = (k - k').sign := by
  unfold sgz at h h'
  simp at h h'
  rw [Int.sign_eq_neg_one_of_neg (by omega)]
theorem zcmp_np {k k' : Int} (h : sgz k = false) (h' : sgz k' = true) : (1 : Int) = (k - k').sign := by
  unfold sgz at h h'
  simp at h h'
  rw [Int.sign_eq_one_of_pos (by omega)]
theorem zcmp_nn {k k' : Int} (h : sgz k = true) (h' : sgz k' = true) : (((k'.natAbs : Nat) : Int) - ((k.natAbs : Nat) : Int)).sign = (k - k').sign := by
  unfold sgz at h h'
  simp at h h'
  rw [show ((k'.natAbs : Nat) : Int) - ((k.natAbs : Nat) : Int) = k - k' by omega]
theorem zcmp_pp {k k' : Int} (h : sgz k = false) (h' : sgz k' = false) : (((k.natAbs : Nat) : Int) - ((k'.natAbs : Nat) : Int)).sign = (k - k').sign := by
  unfold sgz at h h'
  simp at h h'
  rw [show ((k.natAbs : Nat) : Int) - ((k'.natAbs : Nat) : Int) = k - k' by omega]
theorem dg_limb_len2 (v : Nat) : (dg 4294967296 v).length ≤ (dg 65536 v).length := by
  rw [← lb_dg, lb_len]
  omega
theorem i64_ob (xs : List Nat) {k : Nat} (h : k < xs.length) : ((i64T xs).map AV.t)[0 + k * 1]? = some (tv (.int .i64 ((nth xs k : Nat) : Int))) := by simp [i64T, nth_get h, h, tv]
theorem u32_ob (xs : List Nat) {k : Nat} (h : k < xs.length) : ((u32T xs).map AV.t)[0 + k * 1]? = some (tv (.int .u32 ((nth xs k : Nat) : Int))) := by simp [u32T, nth_get h, h, tv]
theorem i64_put (xs : List Nat) {k v : Nat} (h : k < xs.length) : putA ((i64T xs).map AV.t) (0 + k * 1) [tv (.int .i64 (v : Int))] = (i64T (xs.set k v)).map .t := by
  rw [Nat.zero_add, Nat.mul_one, List.set_eq_take_append_cons_drop, if_pos h]
  simp [putA, i64T, tv, List.map_take, List.map_drop]
theorem u32_put (xs : List Nat) {k v : Nat} (h : k < xs.length) : putA ((u32T xs).map AV.t) (0 + k * 1) [tv (.int .u32 (v : Int))] = (u32T (xs.set k v)).map .t := by
  rw [Nat.zero_add, Nat.mul_one, List.set_eq_take_append_cons_drop, if_pos h]
  simp [putA, u32T, tv, List.map_take, List.map_drop]
theorem i64_le (xs : List Nat) {k : Nat} {a : AV} (h : k < xs.length) : 0 + k * 1 + [a].length ≤ ((i64T xs).map AV.t).length := by simp [i64T]; omega
theorem u32_le (xs : List Nat) {k : Nat} {a : AV} (h : k < xs.length) : 0 + k * 1 + [a].length ≤ ((u32T xs).map AV.t).length := by simp [u32T]; omega
theorem i64_zero (m : Nat) : (List.replicate m (Value.int .i64 0)).map tv = (i64T (List.replicate m 0)).map .t := by simp [i64T, tv]
theorem u32_zero (m : Nat) : (List.replicate m (Value.int .u32 0)).map tv = (u32T (List.replicate m 0)).map .t := by simp [u32T, tv]
structure Zi where
  s : Bool
  x : List Nat
def Zi.of (k : Int) : Zi := ⟨sgz k, dg 4294967296 k.natAbs⟩
def gF (a : Zi) : FV := .agg (([.v (.bool a.s), sU false a.x] : List Tr).map .t)
def kF (k : Int) : FV := .agg (([.v (.bool (sgz k)), sU false (dg 4294967296 k.natAbs)] : List Tr).map .t)
def kO (k : Int) : FV := .agg (([.v (.bool (sgz k)), sU true (dg 4294967296 k.natAbs)] : List Tr).map .t)
def Zn (a : Zi) (k : Int) : Prop := Lim 4294967296 a.x ∧ a.x.length ≤ 137438953472 ∧ zin a.s a.x = k
theorem Zn.of {k : Int} (h : (dg 4294967296 k.natAbs).length ≤ 137438953472) : Zn (.of k) k := ⟨Lim_dg (by omega) _, h, zin_dg k⟩
theorem zn0 : Zn ⟨false, []⟩ 0 := ⟨Lim.nil, by simp, rfl⟩
theorem Zn.len {a : Zi} {k : Int} (h : Zn a k) : (dg 4294967296 k.natAbs).length ≤ 137438953472 := by
  obtain ⟨h1, h2, rfl⟩ := h
  exact Nat.le_trans (zin_len h1) h2
theorem Zn.right {a : Zi} {k : Int} (h : Zn a k) (hr : rightI a.s a.x = true) : sgz k = a.s ∧ dg 4294967296 k.natAbs = a.x := by
  obtain ⟨h1, h2, rfl⟩ := h
  exact ⟨zin_neg h1 hr, zin_abs h1 hr⟩
theorem Zn.wrong {a : Zi} {k : Int} (h : Zn a k) (hr : rightI a.s a.x = false) : k = 0 := by
  obtain ⟨h1, h2, rfl⟩ := h
  exact zin_wrong' hr
theorem kF_right {a : Zi} {k : Int} (h : Zn a k) (hr : rightI a.s a.x = true) : gF a = kF k := by
  obtain ⟨h1, h2⟩ := h.right hr
  unfold gF kF
  rw [h1, h2]
theorem kO_eq {b : Bool} {m : Nat} {k : Int} (h : b = sgz k) (hm : m = k.natAbs) : FV.agg [tv (.bool b), .t (sU true (dg 4294967296 m))] = kO k := by subst h hm; rfl
theorem kF_zero : FV.agg [tv (.bool false), .t (sU false [])] = kF 0 := by
  unfold kF
  rw [show Int.natAbs 0 = 0 from rfl, dg_zero]
  rfl
theorem nofr_z (k : Int) : NoFrF (kO k) := by
  simp only [NoFrF, kO, NoFrF1, List.map_cons, List.map_nil, NoFrAL, NoFrA, sU, NoFr]
  exact ⟨trivial, .inl ⟨trivial, nofr_u32 _⟩, trivial⟩
theorem nofr_zm (b : Bool) (m : Nat) : NoFrF (.agg (([.v (.bool b), sU true (dg 4294967296 m)] : List Tr).map .t)) := by
  simp only [NoFrF, NoFrF1, List.map_cons, List.map_nil, NoFrAL, NoFrA, sU, NoFr]
  exact ⟨trivial, .inl ⟨trivial, nofr_u32 _⟩, trivial⟩
end Go.Proofs.YtogaallfhifngaaGreat
namespace Go.Proofs.YtogaallfhifngaaGreat
open Go Go.RowKit
def Qn (a : Fr4) (p : Rat) : Prop := a.ok ∧ a.q = p
section
variable {a : Fr4} {p q : Rat} {k k' : Int} {L M : Nat}
theorem zn_n (h : Qn a p) : Zn ⟨a.s, a.x⟩ (zin a.s a.x) := ⟨h.1.1, by have := h.1.2.2.1; dsimp only; omega, rfl⟩
theorem zn_d (h : Qn a p) : Zn ⟨a.t, a.y⟩ (zin a.t a.y) := ⟨h.1.2.1, by have := h.1.2.2.2; dsimp only; omega, rfl⟩
theorem zn_num (h : Sz L p) (hL : L ≤ 137438953472 := by omega) : Zn (.of p.num) p.num := .of (Nat.le_trans h.1 hL)
theorem zn_den (h : Sz L p) (hL : L ≤ 137438953472 := by omega) : Zn ⟨false, dg 4294967296 p.den⟩ (p.den : Int) := ⟨Lim_dg (by omega) _, Nat.le_trans h.2 hL, zin_nat p.den⟩
theorem Qn.sz (h : Qn a p) : Sz 68719476736 p := by
  obtain ⟨⟨h1, h2, h3, h4⟩, rfl⟩ := h
  exact qin_sz h1 h2 h3 h4 (by omega)
theorem Qn.of (h : Sz L p) (hL : L ≤ 68719476736 := by omega) : Qn (.of p) p := ⟨⟨Lim_dg (by omega) _, Lim_dg (by omega) _, Nat.le_trans h.1 hL, Nat.le_trans h.2 hL⟩, Fr4.q_of p⟩
theorem Qn.right (h : Qn a p) (hr : rightQ a.s a.x a.t a.y = true) : Fr4.of p = a := by
  obtain ⟨⟨l1, l2, _, _⟩, rfl⟩ := h
  obtain ⟨h1, h2, h3, h4⟩ := rightQ_of hr
  have e1 := qin_num hr
  have e2 := qin_den hr
  have e3 := zin_neg l1 h1
  have e4 := zin_abs l1 h1
  have e5 := zin_neg l2 h2
  have e6 := zin_abs l2 h2
  rw [← e1] at e3 e4
  rw [← e2] at e5 e6
  rw [sgz_den] at e5
  rw [Int.natAbs_natCast] at e6
  unfold Fr4.of Fr4.q
  rw [e3, e4, e5, e6]
theorem Qn.wrong (h : Qn a p) (hr : rightQ a.s a.x a.t a.y = false) : p = 0 := by
  obtain ⟨_, rfl⟩ := h
  exact qin_wrong hr
theorem qF_make (hn : q.num = k) (hd : (q.den : Int) = k') : FV.agg [tv (.bool (sgz k)), .t (sU false (dg 4294967296 k.natAbs)), tv (.bool (sgz k')), .t (sU false (dg 4294967296 k'.natAbs))] = qF (.of q) := by
  subst hn hd
  have e : sgz (q.den : Int) = false := by unfold sgz; exact decide_eq_false (by omega)
  rw [e]
  rfl
theorem sign_dec (k k' : Int) : decide ((k - k').sign = 0) = decide (k = k') := by
  rw [decide_eq_decide, Int.sign_eq_zero_iff_zero]
  omega
theorem gcd_len (h0 : k' ≠ 0) : (dg 4294967296 (((Int.gcd k k' : Nat) : Int)).natAbs).length ≤ (dg 4294967296 k'.natAbs).length := by
  rw [Int.natAbs_natCast]
  exact dg_le_len (Nat.le_of_dvd (by omega) (Int.gcd_dvd_natAbs_right k k'))
theorem of_len {n : Int} (h1 : -9223372036854775808 ≤ n) (h2 : n ≤ 9223372036854775807) : (dg 4294967296 n.natAbs).length ≤ 2 := dg_length_le (by omega) (by omega)
theorem new_laws {a b : Int} (h0 : b ≠ 0) : (0 < b → (Rat.divInt a b).num = a.fdiv (Int.gcd a b) ∧ ((Rat.divInt a b).den : Int) = b.fdiv (Int.gcd a b)) ∧ (b < 0 → (Rat.divInt a b).num = (-a).fdiv (Int.gcd (-a) (-b)) ∧ ((Rat.divInt a b).den : Int) = (-b).fdiv (Int.gcd (-a) (-b))) := by
  refine ⟨fun h => fdiv_gcd h, fun h => ?_⟩
  rw [← Rat.neg_divInt_neg]
  exact fdiv_gcd (by omega)
theorem gcd_nz {a b : Int} (h : b ≠ 0) : ((Int.gcd a b : Nat) : Int) ≠ 0 := by
  have := Int.gcd_pos_of_ne_zero_right a h
  omega
theorem gcd_dec (n : Nat) : decide ((n : Int) = 1) = (n == 1) := by
  by_cases h : n = 1
  · subst h; rfl
  · rw [beq_eq_false_iff_ne.2 h, decide_eq_false (by omega)]
end
end Go.Proofs.YtogaallfhifngaaGreat
namespace Go.Proofs.YtogaallfhifngaaGreat
open Go Go.RowKit
def qmin0 : List Rat → Rat | [] => 0 | a :: l => qmin a l
def qmax0 : List Rat → Rat | [] => 0 | a :: l => qmax a l
theorem flat_at {α : Type} {f : α → List Tr} {z : Nat} (hf : ∀ x, (f x).length = z) : ∀ {xs : List α} {k : Nat} {x : α}, xs[k]? = some x → ((xs.flatMap f).drop (k * z)).take z = f x
  | [], _, _, h => by simp at h
  | y :: xs, 0, x, h => by
    simp at h
    subst h
    rw [Nat.zero_mul, List.drop_zero, List.flatMap_cons, List.take_append_of_le_length (by rw [hf]; exact Nat.le_refl _), List.take_of_length_le (by rw [hf]; exact Nat.le_refl _)]
  | y :: xs, k + 1, x, h => by
    rw [List.getElem?_cons_succ] at h
    have e : (f y ++ xs.flatMap f).drop z = xs.flatMap f := by rw [← hf y]; simp
    rw [List.flatMap_cons, Nat.succ_mul, Nat.add_comm, ← List.drop_drop, e]
    exact flat_at hf h
theorem flat_len {α : Type} {f : α → List Tr} {z : Nat} (hf : ∀ x, (f x).length = z) : ∀ (xs : List α), (xs.flatMap f).length = xs.length * z
  | [] => by simp
  | y :: xs => by rw [List.flatMap_cons, List.length_append, hf, flat_len hf xs, List.length_cons, Nat.succ_mul, Nat.add_comm]
def nilF : Fr4 := ⟨false, [], false, []⟩
def nthF (xs : List Fr4) (k : Nat) : Fr4 := xs.getD k nilF
theorem nthF_get {xs : List Fr4} {k : Nat} (h : k < xs.length) : xs[k]? = some (nthF xs k) := by simp [nthF, h]
theorem nthF_mem {xs : List Fr4} {k : Nat} (h : k < xs.length) : nthF xs k ∈ xs := List.mem_of_getElem? (nthF_get h)
def sQ (o : Bool) (xs : List Fr4) : Tr := .s o 45 4 xs.length (xs.flatMap (Fr4.tr o))
theorem rat_at (xs : List Fr4) {k : Nat} (h : k < xs.length) : ((xs.flatMap (Fr4.tr false)).drop (k * 4)).take ((nthF xs k).tr false).length = (nthF xs k).tr false := flat_at (f := Fr4.tr false) (fun _ => rfl) (nthF_get h)
section
variable {xs : List Fr4} {k : Nat}
theorem take_q (h : k < xs.length) : (xs.take (k + 1)).map Fr4.q = (xs.take k).map Fr4.q ++ [(nthF xs k).q] := by rw [List.take_add_one, nthF_get h]; simp
theorem qmin0_one (h : 0 < xs.length) : qmin0 ((xs.take 1).map Fr4.q) = (nthF xs 0).q := by
  rw [take_q h]
  simp [qmin0, qmin]
theorem qmax0_one (h : 0 < xs.length) : qmax0 ((xs.take 1).map Fr4.q) = (nthF xs 0).q := by
  rw [take_q h]
  simp [qmax0, qmax]
theorem qmin0_step (h1 : 1 ≤ k) (h : k < xs.length) : qmin0 ((xs.take (k + 1)).map Fr4.q) = if (nthF xs k).q < qmin0 ((xs.take k).map Fr4.q) then (nthF xs k).q else qmin0 ((xs.take k).map Fr4.q) := by
  rw [take_q h]
  rcases e : (xs.take k).map Fr4.q with _ | ⟨a, l⟩
  · have := congrArg List.length e
    simp at this
    rcases this with h2 | h2
    · omega
    · subst h2; simp at h
  · show List.foldl _ a (l ++ [_]) = _
    rw [List.foldl_append]
    rfl
theorem qmax0_step (h1 : 1 ≤ k) (h : k < xs.length) : qmax0 ((xs.take (k + 1)).map Fr4.q) = if qmax0 ((xs.take k).map Fr4.q) < (nthF xs k).q then (nthF xs k).q else qmax0 ((xs.take k).map Fr4.q) := by
  rw [take_q h]
  rcases e : (xs.take k).map Fr4.q with _ | ⟨a, l⟩
  · have := congrArg List.length e
    simp at this
    rcases this with h2 | h2
    · omega
    · subst h2; simp at h
  · show List.foldl _ a (l ++ [_]) = _
    rw [List.foldl_append]
    rfl
theorem lt_sgn (p q : Rat) : (p - q).num.sign < 0 ↔ p < q := by simpa using lt_sign q p
theorem gt_sgn (p q : Rat) : 0 < (p - q).num.sign ↔ q < p := by simpa using gt_sign q p
end
theorem flat_sub {α : Type} {f : α → List Tr} {z o m : Nat} (hf : ∀ x, (f x).length = z) {xs : List α} {k : Nat} {x : α} (h : xs[k]? = some x) (hm : o + m ≤ z) : ((xs.flatMap f).drop (k * z + o)).take m = ((f x).drop o).take m := by
  have e := flat_at hf h
  rw [← List.drop_drop, ← e, List.drop_take, List.take_take, Nat.min_eq_left (by omega)]
def vtr (o : Bool) (x : Int × Rat) : List Tr := .v (.int .i64 x.1) :: (Fr4.of x.2).tr o
def nthV (vs : List (Int × Rat)) (k : Nat) : Int × Rat := vs.getD k (0, 0)
section
variable {vs : List (Int × Rat)} {k : Nat}
theorem nthV_get (h : k < vs.length) : vs[k]? = some (nthV vs k) := by simp [nthV, h]
theorem nthV_mem (h : k < vs.length) : nthV vs k ∈ vs := List.mem_of_getElem? (nthV_get h)
theorem take_v (h : k < vs.length) : vs.take (k + 1) = vs.take k ++ [nthV vs k] := by rw [List.take_add_one, nthV_get h]; rfl
theorem vin_at (o : Bool) (h : k < vs.length) : ((vs.flatMap (vtr o)).drop (k * 5)).take (vtr o (nthV vs k)).length = vtr o (nthV vs k) := flat_at (f := vtr o) (fun _ => rfl) (nthV_get h)
theorem vin_y (o : Bool) (h : k < vs.length) : ((vs.flatMap (vtr o)).drop (k * 5 + 0)).take [Tr.v (.int .i64 (nthV vs k).1)].length = [Tr.v (.int .i64 (nthV vs k).1)] := flat_sub (f := vtr o) (o := 0) (m := 1) (fun _ => rfl) (nthV_get h) (by omega)
theorem vin_q (o : Bool) (h : k < vs.length) : ((vs.flatMap (vtr o)).drop (k * 5 + 1)).take ((Fr4.of (nthV vs k).2).tr o).length = (Fr4.of (nthV vs k).2).tr o := flat_sub (f := vtr o) (o := 1) (m := 4) (fun _ => rfl) (nthV_get h) (by omega)
def sV (t : Nat) (o : Bool) (vs : List (Int × Rat)) : Tr := .s o t 5 vs.length (vs.flatMap (vtr o))
theorem vflat_len (o : Bool) (vs : List (Int × Rat)) : (vs.flatMap (vtr o)).length = vs.length * 5 := flat_len (f := vtr o) (z := 5) (fun _ => rfl) vs
end
def qsum (l : List Rat) : Rat := l.foldl (· + ·) 0
theorem qsum_snoc (l : List Rat) (q : Rat) : qsum (l ++ [q]) = qsum l + q := by simp [qsum]
theorem rd_v (vs : List (Int × Rat)) : rdL ((vs.flatMap (vtr false)).map .t) = true := by
  induction vs with
  | nil => rfl
  | cons x vs ih => simpa [vtr, Fr4.tr, sU, rdL, rdA] using ih
theorem lone_v (vs : List (Int × Rat)) : loneL ((vs.flatMap (vtr false)).map .t) = true := by
  induction vs with
  | nil => rfl
  | cons x vs ih => simpa [vtr, Fr4.tr, sU, loneL, lone] using ih
def putE (right : Bool) (q : Rat) (y last : Int) (pt : Bool) : Int :=
  if !right then 2 else if decide (q.num.sign < 0) then 2 else if pt && decide (y ≤ last) then 4 else 0
def putL (e : Int) (q : Rat) (y : Int) (l : List (Int × Rat)) : List (Int × Rat) := if e = 0 then (if decide (0 < q.num.sign) then l ++ [(y, q)] else l) else l
def putY (e : Int) (y last : Int) : Int := if e = 0 then y else last
def putP (e : Int) (pt : Bool) : Bool := if e = 0 then true else pt
end Go.Proofs.YtogaallfhifngaaGreat
namespace Go.Proofs.YtogaallfhifngaaGreat
open Go Go.RowKit
def dl0 (_ : Int) (q : Rat) : Bool := decide (q.num.sign = 0)
theorem qmin_sz {N : Nat} {p : Rat} {l : List Rat} (hp : Sz N p) (h : ∀ q ∈ l, Sz N q) : Sz N (qmin p l) := by
  rcases qmin_mem p l with h1 | h1
  · rw [h1]; exact hp
  · exact h _ h1
theorem qmax_sz {N : Nat} {p : Rat} {l : List Rat} (hp : Sz N p) (h : ∀ q ∈ l, Sz N q) : Sz N (qmax p l) := by
  rcases qmax_mem p l with h1 | h1
  · rw [h1]; exact hp
  · exact h _ h1
def szq (q : Rat) : Nat := max (dg 4294967296 q.num.natAbs).length (dg 4294967296 q.den).length
theorem sz_iff {L : Nat} {q : Rat} : Sz L q ↔ szq q ≤ L := by
  unfold Sz szq
  omega
def wt (q : Rat) : Nat := szq q + 1
def wts (l : List Rat) : Nat := (l.map wt).sum
theorem wts_mem {l : List Rat} {q : Rat} (h : q ∈ l) : wt q ≤ wts l := by
  unfold wts
  induction l with
  | nil => cases h
  | cons x l ih =>
    rw [List.map_cons, List.sum_cons]
    rcases List.mem_cons.1 h with rfl | h
    · omega
    · have := ih h; omega
theorem wts_append (a b : List Rat) : wts (a ++ b) = wts a + wts b := by simp [wts]
theorem wts_sub {a b : List Rat} (h : List.Sublist a b) : wts a ≤ wts b := by
  induction h with
  | slnil => omega
  | cons x h ih => simp only [wts, List.map_cons, List.sum_cons] at ih ⊢; omega
  | cons_cons x h ih => simp only [wts, List.map_cons, List.sum_cons] at ih ⊢; omega
theorem wt_zero : wt 0 ≤ 2 := by
  have h := int_sz (z := 0) (by omega) (by omega)
  have h1 : szq (0 : Rat) = 1 := by
    unfold szq
    rw [show (0 : Rat).num = 0 from rfl, show (0 : Rat).den = 1 from rfl]
    have e1 : (dg 4294967296 (Int.natAbs 0)).length = 0 := by rw [show Int.natAbs 0 = 0 from rfl, dg_nil0]; rfl
    have e2 : (dg 4294967296 1).length = 1 := by
      rw [dg_pos (by omega) (by omega)]
      rw [show 1 / 4294967296 = 0 by omega, dg_nil0]
      rfl
    rw [e1, e2]
    rfl
  unfold wt
  omega
theorem wt_sub (p q : Rat) : wt (p - q) ≤ wt p + wt q := by
  have h := sub_sz (sz_iff.2 (Nat.le_refl (szq p))) (sz_iff.2 (Nat.le_refl (szq q)))
  have := sz_iff.1 h
  unfold wt
  omega
theorem qmin_two (v m : Rat) : qmin v [m] = if m < v then m else v := rfl
theorem wt_min (v m : Rat) : wt (v - qmin v [m]) + wt (m - qmin v [m]) ≤ wt v + wt m + 2 := by
  rw [qmin_two]
  split
  · rw [show m - m = 0 by grind]
    have := wt_zero
    have := wt_sub v m
    omega
  · rw [show v - v = 0 by grind]
    have := wt_zero
    have := wt_sub m v
    omega
theorem wt_min1 (v m : Rat) : wt (qmin v [m]) ≤ wt v + wt m := by
  rw [qmin_two]
  split <;> omega
def useS (fr : Int) (s : List (Int × Rat) × List (Int × Rat) × Rat) (x : Int × Rat) : List (Int × Rat) × List (Int × Rat) × Rat :=
  if decide (fr ≤ x.1) && decide (0 < s.2.2.num.sign) then (s.1 ++ [(x.1, x.2 - qmin x.2 [s.2.2])], s.2.1 ++ [(x.1, qmin x.2 [s.2.2])], s.2.2 - qmin x.2 [s.2.2]) else (s.1 ++ [x], s.2.1, s.2.2)
def useL (fr : Int) (l : List (Int × Rat)) (p : Rat) : List (Int × Rat) × List (Int × Rat) × Rat := l.foldl (useS fr) ([], [], p)
theorem useS_yes {fr : Int} {s : List (Int × Rat) × List (Int × Rat) × Rat} {y : Int} {q : Rat} (h1 : fr ≤ y) (h2 : 0 < s.2.2.num.sign) :
    useS fr s (y, q) = (s.1 ++ [(y, q - qmin q [s.2.2])], s.2.1 ++ [(y, qmin q [s.2.2])], s.2.2 - qmin q [s.2.2]) := by
  unfold useS
  rw [if_pos (by simp only [Bool.and_eq_true, decide_eq_true_eq]; exact ⟨h1, h2⟩)]
theorem useS_no {fr : Int} {s : List (Int × Rat) × List (Int × Rat) × Rat} {x : Int × Rat} (h : ¬ (fr ≤ x.1 ∧ 0 < s.2.2.num.sign)) : useS fr s x = (s.1 ++ [x], s.2.1, s.2.2) := by
  unfold useS
  rw [if_neg (by simp only [Bool.and_eq_true, decide_eq_true_eq]; exact h)]
theorem useL_len (fr : Int) (l : List (Int × Rat)) (p : Rat) : (useL fr l p).1.length = l.length := by
  have key : ∀ (l : List (Int × Rat)) s, (l.foldl (useS fr) s).1.length = s.1.length + l.length := by
    intro l
    induction l with
    | nil => intro s; simp
    | cons x l ih =>
      intro s
      rw [List.foldl_cons, ih]
      unfold useS
      split <;> simp <;> omega
  have := key l ([], [], p)
  simpa [useL] using this
theorem sgn_pos (q : Rat) : 0 < q.num.sign ↔ 0 < q := by
  rw [Int.sign_pos_iff, ← gt_iff_lt, Rat.lt_iff]
  simp
theorem sgn_zero (q : Rat) : q.num.sign = 0 ↔ q = 0 := by rw [Int.sign_eq_zero_iff_zero, Rat.num_eq_zero]
def refS (fr : Int) (s : List (Int × Rat) × List (Int × Rat) × Rat) (x : Int × Rat) : List (Int × Rat) × List (Int × Rat) × Rat :=
  if fr ≤ x.1 ∧ 0 < s.2.2.num.sign then (if 0 < (x.2 - qmin x.2 [s.2.2]).num.sign then s.1 ++ [(x.1, x.2 - qmin x.2 [s.2.2])] else s.1, s.2.1 ++ [(x.1, qmin x.2 [s.2.2])], s.2.2 - qmin x.2 [s.2.2])
  else (if 0 < (x.2 - ((0 : Int) : Rat)).num.sign then s.1 ++ [(x.1, x.2 - ((0 : Int) : Rat))] else s.1, s.2.1, s.2.2)
def refL (fr : Int) (l : List (Int × Rat)) (p : Rat) : List (Int × Rat) × List (Int × Rat) × Rat := l.foldl (refS fr) ([], [], p)
theorem qmax0_sz {N : Nat} : ∀ {l : List Rat}, l ≠ [] → (∀ q ∈ l, Sz N q) → Sz N (qmax0 l)
  | [], h, _ => absurd rfl h
  | a :: l, _, h => qmax_sz (h a (by simp)) fun q hq => h q (List.mem_cons_of_mem _ hq)
theorem refS_yes {fr : Int} {s : List (Int × Rat) × List (Int × Rat) × Rat} {x : Int × Rat} (h : fr ≤ x.1 ∧ 0 < s.2.2.num.sign) : refS fr s x = (if 0 < (x.2 - qmin x.2 [s.2.2]).num.sign then s.1 ++ [(x.1, x.2 - qmin x.2 [s.2.2])] else s.1, s.2.1 ++ [(x.1, qmin x.2 [s.2.2])], s.2.2 - qmin x.2 [s.2.2]) := by
  unfold refS
  rw [if_pos h]
theorem refS_no {fr : Int} {s : List (Int × Rat) × List (Int × Rat) × Rat} {x : Int × Rat} (h : ¬ (fr ≤ x.1 ∧ 0 < s.2.2.num.sign)) : refS fr s x = (if 0 < (x.2 - ((0 : Int) : Rat)).num.sign then s.1 ++ [(x.1, x.2 - ((0 : Int) : Rat))] else s.1, s.2.1, s.2.2) := by
  unfold refS
  rw [if_neg h]
theorem use_ref (fr : Int) (xs : List (Int × Rat)) (h : ∀ x ∈ xs, 0 < x.2) : ∀ (s s' : List (Int × Rat) × List (Int × Rat) × Rat), s'.1 = s.1.filter (fun x => !dl0 x.1 x.2) → s'.2 = s.2 →
    (xs.foldl (refS fr) s').1 = (xs.foldl (useS fr) s).1.filter (fun x => !dl0 x.1 x.2) ∧ (xs.foldl (refS fr) s').2 = (xs.foldl (useS fr) s).2 := by
  induction xs with
  | nil => intro s s' h1 h2; exact ⟨h1, h2⟩
  | cons x xs ih =>
    intro s s' h1 h2
    have hx := h x (by simp)
    rw [List.foldl_cons, List.foldl_cons]
    obtain ⟨a, b, c⟩ := s
    obtain ⟨a', b', c'⟩ := s'
    simp only [Prod.mk.injEq] at h1 h2
    obtain ⟨rfl, rfl⟩ := h2
    subst h1
    have h0 : x.2 - ((0 : Int) : Rat) = x.2 := by simp; grind
    refine ih (fun y hy => h y (List.mem_cons_of_mem _ hy)) _ _ ?_ ?_
    · by_cases hc : fr ≤ x.1 ∧ 0 < c'.num.sign
      · rw [refS_yes (s := (_, b', c')) hc, show x = (x.1, x.2) from rfl, useS_yes (s := (a, b', c')) hc.1 hc.2]
        dsimp only
        rw [List.filter_append]
        have hle : qmin x.2 [c'] ≤ x.2 := by rw [qmin_two]; split <;> grind
        by_cases hp : 0 < (x.2 - qmin x.2 [c']).num.sign
        · rw [if_pos hp]
          have : dl0 x.1 (x.2 - qmin x.2 [c']) = false := decide_eq_false (by omega)
          simp [this]
        · rw [if_neg hp]
          have h1 : (x.2 - qmin x.2 [c']).num.sign = 0 := by
            rw [sgn_pos] at hp
            rw [sgn_zero]
            grind
          have : dl0 x.1 (x.2 - qmin x.2 [c']) = true := decide_eq_true h1
          simp [this]
      · rw [refS_no (s := (_, b', c')) hc, useS_no (s := (a, b', c')) hc]
        dsimp only
        rw [List.filter_append, h0, if_pos ((sgn_pos _).2 hx)]
        have : dl0 x.1 x.2 = false := decide_eq_false (by have := (sgn_pos x.2).2 hx; omega)
        simp [this]
    · by_cases hc : fr ≤ x.1 ∧ 0 < c'.num.sign
      · rw [refS_yes (s := (_, b', c')) hc, show x = (x.1, x.2) from rfl, useS_yes (s := (a, b', c')) hc.1 hc.2]
      · rw [refS_no (s := (_, b', c')) hc, useS_no (s := (a, b', c')) hc]
theorem useL_refL {fr : Int} {xs : List (Int × Rat)} {p : Rat} (h : ∀ x ∈ xs, 0 < x.2) : (refL fr xs p).1 = (useL fr xs p).1.filter (fun x => !dl0 x.1 x.2) ∧ (refL fr xs p).2 = (useL fr xs p).2 := use_ref fr xs h _ _ rfl rfl
theorem wt_min2 (v m : Rat) : wt (m - qmin v [m]) ≤ wt v + wt m + 2 := by have := wt_min v m; omega
theorem refL_snoc {fr : Int} {vs : List (Int × Rat)} {k : Nat} (p : Rat) (h : k < vs.length) : refL fr (vs.take (k + 1)) p = refS fr (refL fr (vs.take k) p) (nthV vs k) := by
  rw [take_v h]
  unfold refL
  rw [List.foldl_append]
  rfl
end Go.Proofs.YtogaallfhifngaaGreat
namespace Go.Proofs.YtogaallfhifngaaGreat
open Go Go.RowKit
section
variable {f : FuncId} {args : List FV}
theorem spec_newz {k : Int} (h : ∀ (N : Nat → Prop) (w : World) us, FVL w N [] args us → (∀ b, N b → b < w.heap.size) → Calls Tryz.prog f us.toArray w (NewZ 104 k w)) : Spec true Tryz.prog f [] args (Ret (kO k)) := by
  intro N w cs us hL
  obtain ⟨rfl, hf⟩ := start0 hL
  refine (h _ w us hf (fun b hb => hb.1)).mono ?_
  rintro e W ⟨z, rfl, ⟨h1, h3⟩, hS, hn, hb⟩
  obtain ⟨y1, a1, a2, a3, a4⟩ := or_own (N := fun b => true = false ∧ (b < W.heap.size ∧ b ∉ VT.fpL [.w (.bool z.s)]) ∧ (N b ∨ w.heap.size ≤ b)) h3
  have hfp : VT.fpL [.w (.bool z.s), y1] = (ownz 104 z k).S := by simp [VT.fpL, VT.fp, a4, ownz]
  refine .mk0 (y := [.w (.bool z.s), y1]) rfl hb (by simp only [VT.okL, VT.ok]; exact ⟨trivial, a3, trivial⟩) (by rw [hfp]; exact hn) (fun b hb => hS b (by rw [← hfp]; exact hb)) ?_
  refine ⟨by simp only [List.map_cons, List.map_nil, a1]; rfl, ?_⟩
  simp only [List.map_cons, List.map_nil, CRL, CR, sU]
  exact ⟨by simp [OR, h1], OR_keep (fun _ _ => rfl) (fun b hb => absurd hb.1 (by simp)) _ _ a2, trivial⟩
theorem isz_of_G {W : World} {N : Nat → Prop} {a : Zi} {k : Int} {v : Value} (h : FVR1 W N [] (gF a) v) (ha : Zn a k) : ∃ z : Zv, v = .agg z.cs.toArray ∧ (isz z k).p W N := by
  obtain ⟨us, rfl, h⟩ := h
  match us, h with
  | [u0, u1], h =>
    simp only [List.map_cons, List.map_nil, ARL, AR] at h
    obtain ⟨h0, h1, _⟩ := h
    simp only [FR] at h0
    subst h0
    obtain ⟨A, c, rfl, l1⟩ := limR_of h1 ha.1
    exact ⟨⟨a.s, A, a.x.length, c⟩, rfl, a.x, l1, ha.2.2, by have := ha.2.1; show a.x.length ≤ _; omega⟩
  | [], h => simp only [List.map_cons, ARL] at h
  | [_], h => simp only [List.map_cons, List.map_nil, ARL] at h; exact h.2.elim
  | _ :: _ :: _ :: _, h => simp only [List.map_cons, List.map_nil, ARL] at h; exact absurd h.2.2 (by simp)
end
section
variable {a b : Fr4} {p q : Rat} {x y : Zi} {k k' : Int}
theorem p_one : Spec true Tryz.prog 69 [] [] (Ret (kO 1)) := spec_newz fun N w us hf hN => by
  obtain rfl : us = [] := by simpa [FVL] using hf
  exact k_rat_one
theorem p_bMul (h : Zn x k) (h' : Zn y k') : Spec true Tryz.prog 89 [] [gF x, gF y] (Ret (kO (k * k'))) := spec_newz fun N w us hf hN => by
  obtain ⟨u, v, rfl, h1, h2⟩ := fvl2 hf
  obtain ⟨z, rfl, i1⟩ := isz_of_G h1 h
  obtain ⟨z', rfl, i2⟩ := isz_of_G h2 h'
  exact k_big_Mul ((isz z k).mono _ _ _ hN i1) ((isz z' k').mono _ _ _ hN i2)
theorem p_bCmp (h : Zn x k) (h' : Zn y k') : Spec true Tryz.prog 58 [] [gF x, gF y] (Ret (.one (tv (.int .i64 (k - k').sign)))) := spec_val fun N w us hf hN => by
  obtain ⟨u, v, rfl, h1, h2⟩ := fvl2 hf
  obtain ⟨z, rfl, i1⟩ := isz_of_G h1 h
  obtain ⟨z', rfl, i2⟩ := isz_of_G h2 h'
  exact k_big_Cmp ((isz z k).mono _ _ _ hN i1) ((isz z' k').mono _ _ _ hN i2)
theorem p_Add (h : Qn a p) (h' : Qn b q) : Spec true Tryz.prog 47 [] [qF a, qF b] (Ret (qO (p + q))) := by
  have := c_rAdd h.1 h'.1
  rwa [h.2, h'.2] at this
theorem p_Sub (h : Qn a p) (h' : Qn b q) : Spec true Tryz.prog 42 [] [qF a, qF b] (Ret (qO (p - q))) := by
  have := c_rSub h.1 h'.1
  rwa [h.2, h'.2] at this
theorem p_Sign (h : Qn a p) : Spec true Tryz.prog 27 [] [qF a] (Ret (.one (tv (.int .i64 p.num.sign)))) := by
  have := c_rSign h.1
  rwa [h.2] at this
theorem p_add (hp : Sz 68719476736 p) (hq : Sz 68719476736 q) : Spec true Tryz.prog 65 [] [qF (.of p), qF (.of q)] (Ret (qO (p + q))) := spec_newq fun N w us hf hN => by
  obtain ⟨u, v, rfl, h1, h2⟩ := fvl2 hf
  obtain ⟨r, rfl, i1, e1, e2, _⟩ := isq_of_F h1 (Qn.of hp).1
  obtain ⟨r', rfl, i2, e3, e4, _⟩ := isq_of_F h2 (Qn.of hq).1
  have j1 := (ratS r _ _).mono _ _ _ hN i1
  have j2 := (ratS r' _ _).mono _ _ _ hN i2
  exact k_rat_add ⟨⟨e1, e2⟩, j1⟩ hp ⟨⟨e3, e4⟩, j2⟩ hq
theorem p_add0 (hp : Sz 68719476736 p) : Spec true Tryz.prog 65 [] [qF (.of p), qF (.of ((0 : Int) : Rat))] (Ret (qO p)) := by
  have := p_add hp ((int_sz (z := 0) (by omega) (by omega)).mono (by omega))
  rwa [show p + ((0 : Int) : Rat) = p from Rat.add_zero p] at this
theorem p_Add0 (h : Qn a p) : Spec true Tryz.prog 47 [] [qF a, qF (.of ((0 : Int) : Rat))] (Ret (qO p)) := by
  have := p_Add h (Qn.of (p := ((0 : Int) : Rat)) ((int_sz (z := 0) (by omega) (by omega)).mono (M := 68719476736) (by omega)))
  rwa [show p + ((0 : Int) : Rat) = p from Rat.add_zero p] at this
theorem qmin_snoc (p : Rat) (l : List Rat) (q : Rat) : qmin p (l ++ [q]) = if q < qmin p l then q else qmin p l := by
  unfold qmin
  rw [List.foldl_append]
  rfl
end
end Go.Proofs.YtogaallfhifngaaGreat
namespace Go.Proofs.YtogaallfhifngaaGreat
open Go Go.RowKit
def sR (t : Nat) (us : List (Int × Rat)) : Tr := .s true t 5 us.length (us.flatMap (vtr false))
def sO (t : Nat) (us : List (Int × Rat)) : Tr := .s true t 5 us.length (us.flatMap (vtr true))
def vcl (us : List (Int × Rat)) : List AV := (us.flatMap (vtr false)).map .t
def vco (us : List (Int × Rat)) : List AV := (us.flatMap (vtr true)).map .t
section
variable {us vs : List (Int × Rat)} {k : Nat} {x : Int × Rat}
theorem vcl_len (us : List (Int × Rat)) : (vcl us).length = us.length * 5 := by rw [vcl, List.length_map, vflat_len]
theorem vco_len (us : List (Int × Rat)) : (vco us).length = us.length * 5 := by rw [vco, List.length_map, vflat_len]
theorem vcl_snoc (us : List (Int × Rat)) (x : Int × Rat) : vcl us ++ (vtr false x).map .t = vcl (us ++ [x]) := by simp [vcl, List.flatMap_append]
theorem vco_snoc (us : List (Int × Rat)) (x : Int × Rat) : vco us ++ (vtr true x).map .t = vco (us ++ [x]) := by simp [vco, List.flatMap_append]
theorem row_at (h : k < us.length) : ((vcl us).drop (0 + k * 5)).take ((vtr false (nthV us k)).map AV.t).length = (vtr false (nthV us k)).map .t := by
  rw [vcl, ← List.map_drop, ← List.map_take, Nat.zero_add, List.length_map, vin_at false h]
theorem row_q (h : k < us.length) : ((vcl us).drop (0 + k * 5 + 1)).take (((Fr4.of (nthV us k).2).tr false).map AV.t).length = ((Fr4.of (nthV us k).2).tr false).map .t := by
  rw [vcl, ← List.map_drop, ← List.map_take, Nat.zero_add, List.length_map, vin_q false h]
theorem row_y (h : k < us.length) : (vcl us)[0 + k * 5]? = some (tv (.int .i64 (nthV us k).1)) := by
  have h1 := congrArg (·[0]?) (row_at h)
  simp only [List.getElem?_take, List.getElem?_drop] at h1
  simpa [vtr, tv] using h1
theorem row_le (h : k < us.length) : 0 + k * 5 + 5 ≤ (vcl us).length := by rw [vcl_len]; omega
theorem row_le4 {q : Rat} (h : k < us.length) : 0 + k * 5 + 1 + (((Fr4.of q).tr false).map AV.t).length ≤ (vcl us).length := by
  rw [vcl_len]
  show 0 + k * 5 + 1 + 4 ≤ _
  omega
theorem flat_take (us : List (Int × Rat)) (k : Nat) : (us.flatMap (vtr false)).take (k * 5) = (us.take k).flatMap (vtr false) := by
  by_cases h : k ≤ us.length
  · conv => lhs; rw [← List.take_append_drop k us, List.flatMap_append]
    exact List.take_left' (by rw [vflat_len, List.length_take, Nat.min_eq_left h])
  · rw [List.take_of_length_le (by rw [vflat_len]; omega), List.take_of_length_le (by omega)]
theorem flat_drop (us : List (Int × Rat)) (k : Nat) : (us.flatMap (vtr false)).drop (k * 5) = (us.drop k).flatMap (vtr false) := by
  by_cases h : k ≤ us.length
  · conv => lhs; rw [← List.take_append_drop k us, List.flatMap_append]
    exact List.drop_left' (by rw [vflat_len, List.length_take, Nat.min_eq_left h])
  · rw [List.drop_of_length_le (by rw [vflat_len]; omega), List.drop_of_length_le (by omega)]
    rfl
theorem put_v (h : k < us.length) : putA (vcl us) (0 + k * 5) ((vtr false x).map AV.t) = vcl (us.set k x) := by
  have e : k * 5 + ((vtr false x).map AV.t).length = (k + 1) * 5 := by show k * 5 + 5 = _; omega
  rw [Nat.zero_add]
  unfold putA vcl
  rw [e, ← List.map_take, ← List.map_drop, flat_take, flat_drop, ← List.map_append, ← List.map_append, List.set_eq_take_append_cons_drop, if_pos h]
  simp [List.flatMap_append]
theorem put_q {q : Rat} (h : k < us.length) : putA (vcl us) (0 + k * 5 + 1) (((Fr4.of q).tr false).map AV.t) = vcl (us.set k ((nthV us k).1, q)) := by
  rw [← put_v h]
  have h1 : (vcl us).take (0 + k * 5 + 1) = (vcl us).take (0 + k * 5) ++ [tv (.int .i64 (nthV us k).1)] := by
    rw [List.take_add_one, row_y h]
    rfl
  unfold putA
  rw [h1]
  have e : 0 + k * 5 + 1 + (((Fr4.of q).tr false).map AV.t).length = 0 + k * 5 + ((vtr false ((nthV us k).1, q)).map AV.t).length := by show 0 + k * 5 + 1 + 4 = 0 + k * 5 + 5; omega
  rw [e]
  simp [vtr, tv]
theorem take_vcl (us : List (Int × Rat)) (k : Nat) : (vcl us).take (k * 5) = ((us.take k).flatMap (vtr false)).map .t := by rw [vcl, ← List.map_take, flat_take]
theorem take_self (l : List Tr) (n : Nat) (h : l.length = n) : (l.map AV.t).take n = l.map .t := List.take_of_length_le (by simp [h])
theorem rd_vo (o : Bool) (us : List (Int × Rat)) : rdTL (us.flatMap (vtr o)) = us.flatMap (vtr false) := by
  have app : ∀ a b : List Tr, rdTL (a ++ b) = rdTL a ++ rdTL b := by
    intro a b
    induction a with
    | nil => rfl
    | cons x a ih => simp [rdTL, ih]
  have u32 : ∀ xs : List Nat, rdTL (u32T xs) = u32T xs := by
    intro xs
    induction xs with
    | nil => rfl
    | cons x xs ih => simpa [u32T, rdTL, rdT] using ih
  induction us with
  | nil => rfl
  | cons x us ih =>
    show rdTL (vtr o x ++ us.flatMap (vtr o)) = vtr false x ++ us.flatMap (vtr false)
    rw [app, ih]
    simp [vtr, Fr4.tr, rdTL, rdT, sU, u32]
theorem nofr_vo (us : List (Int × Rat)) : NoFrL (us.flatMap (vtr true)) := by
  have app : ∀ a b : List Tr, NoFrL a → NoFrL b → NoFrL (a ++ b) := by
    intro a b ha hb
    induction a with
    | nil => exact hb
    | cons x a ih =>
      simp only [NoFrL] at ha
      simp only [List.cons_append, NoFrL]
      exact ⟨ha.1, ih ha.2⟩
  induction us with
  | nil => simp [NoFrL]
  | cons x us ih =>
    rw [List.flatMap_cons]
    refine app _ _ ?_ ih
    simp only [vtr, Fr4.tr, sU, NoFrL, NoFr]
    exact ⟨trivial, trivial, .inl ⟨trivial, nofr_u32 _⟩, trivial, .inl ⟨trivial, nofr_u32 _⟩, trivial⟩
theorem nofr_sO (t : Nat) (us : List (Int × Rat)) : NoFrF (.one (.t (sO t us))) := .inl ⟨rfl, nofr_vo us⟩
theorem nofr_vtr (x : Int × Rat) : NoFrF (.agg ((vtr true x).map .t)) := by
  simp only [NoFrF, NoFrF1, vtr, Fr4.tr, sU, List.map_cons, List.map_nil, NoFrAL, NoFrA, NoFr]
  exact ⟨trivial, trivial, .inl ⟨trivial, nofr_u32 _⟩, trivial, .inl ⟨trivial, nofr_u32 _⟩, trivial⟩
end
section
variable {x : Cx} {g : Nat → FV} {ob : List (Option Ob)}
theorem pkV {j k1 k2 e : Nat} {us : List (Int × Rat)} {y : Int} {q : Rat} (hn : Nat.beq k1 k2 = false) (h1 : Nat.beq j k1 = false) (h2 : Nat.beq j k2 = false) (ho : obAt ob j = some ⟨e, 5, vco us ++ [tv (.int .i64 y), tv (.bool (sgz q.num)), .sl k1 0 (dg 4294967296 q.num.natAbs).length, tv (.bool false), .sl k2 0 (dg 4294967296 q.den).length]⟩)
    (o1 : obAt ob k1 = some ⟨104, 1, (u32T (dg 4294967296 q.num.natAbs)).map .t⟩) (o2 : obAt ob k2 = some ⟨104, 1, (u32T (dg 4294967296 q.den)).map .t⟩) : Sub x g ob g ((((ob.set j (some ⟨e, 5, vco us ++ [tv (.int .i64 y), tv (.bool (sgz q.num)), .t (sU true (dg 4294967296 q.num.natAbs)), tv (.bool false), .sl k2 0 (dg 4294967296 q.den).length]⟩)).set k1 none).set j (some ⟨e, 5, vco (us ++ [(y, q)])⟩)).set k2 none) := by
  have hk : ∀ {l : List (Option Ob)} {i m : Nat} {o : Option Ob}, Nat.beq i m = false → obAt (l.set i o) m = obAt l m := fun {l i m o} h => by
    unfold obAt
    rw [List.getElem?_set_ne (fun e => by subst e; simp at h)]
  have hjl := (List.getElem?_eq_some_iff.1 (obAt_eq ho)).1
  have hk1l := (List.getElem?_eq_some_iff.1 (obAt_eq o1)).1
  have hb : ∀ {a b : Nat}, Nat.beq a b = false → Nat.beq b a = false := fun {a b} h => by
    cases hq : Nat.beq b a
    · rfl
    · rw [Nat.eq_of_beq_eq_true hq] at h
      simp at h
  have hlen := vco_len us
  have s1 := cls (x := x) (g := g) (ob := ob) (j := j) (k := k1) (p := us.length * 5 + 2) (e := 104) (z := 1) (n := (dg 4294967296 q.num.natAbs).length) (trs := u32T (dg 4294967296 q.num.natAbs)) h1 rfl ho o1 (by rw [List.getElem?_append_right (by omega)]; simp [hlen]) (tk_u32 _) (ln_u32 _)
    (l' := vco us ++ [tv (.int .i64 y), tv (.bool (sgz q.num)), .t (sU true (dg 4294967296 q.num.natAbs)), tv (.bool false), .sl k2 0 (dg 4294967296 q.den).length]) (by rw [List.set_append_right _ _ (by omega), hlen, show us.length * 5 + 2 - us.length * 5 = 2 by omega]; rfl)
  have s2 := cls (x := x) (g := g) (ob := (ob.set j (some ⟨e, 5, vco us ++ [tv (.int .i64 y), tv (.bool (sgz q.num)), .t (sU true (dg 4294967296 q.num.natAbs)), tv (.bool false), .sl k2 0 (dg 4294967296 q.den).length]⟩)).set k1 none) (j := j) (k := k2) (p := us.length * 5 + 4) (e := 104) (z := 1) (n := (dg 4294967296 q.den).length) (trs := u32T (dg 4294967296 q.den)) (t' := e) (z' := 5) h2 rfl
    (by rw [hk (hb h1)]; unfold obAt; rw [List.getElem?_set_self hjl]) (by rw [hk hn, hk h2]; exact o2) (by rw [List.getElem?_append_right (by omega)]; simp [hlen]) (tk_u32 _) (ln_u32 _)
    (l' := vco (us ++ [(y, q)])) (by rw [List.set_append_right _ _ (by omega), hlen, show us.length * 5 + 4 - us.length * 5 = 4 by omega, ← vco_snoc]; rfl)
  exact fun ts W hR => s2 ts W (s1 ts W hR)
end
end Go.Proofs.YtogaallfhifngaaGreat
namespace Go.Proofs.YtogaallfhifngaaGreat
open Go Go.RowKit
def ixV (dl : Int × Rat → Bool) : List (Int × Rat) → Nat
  | [] => 0
  | x :: l => if dl x then 0 else ixV dl l + 1
def keepV (dl : Int × Rat → Bool) (vs : List (Int × Rat)) : List (Int × Rat) := vs.filter fun x => !dl x
def zV : List Value := [.int .i64 0, .bool false, .slice none 0 0, .bool false, .slice none 0 0]
def swept (vs F : List (Int × Rat)) : List Tr := F.flatMap (vtr false) ++ (zRow zV (vs.length - F.length)).map .v
section
variable {dl : Int × Rat → Bool} {vs us : List (Int × Rat)} {i j k : Nat}
theorem ixV_le : ∀ (vs : List (Int × Rat)), ixV dl vs ≤ vs.length
  | [] => Nat.le_refl _
  | x :: l => by
    have := ixV_le l
    unfold ixV
    split <;> simp <;> omega
theorem ixV_step : ∀ {vs : List (Int × Rat)} {k : Nat}, k ≤ ixV dl vs → k < vs.length → (dl (nthV vs k) = true → ixV dl vs = k) ∧ (dl (nthV vs k) = false → k + 1 ≤ ixV dl vs)
  | [], _, _, h => by simp at h
  | x :: l, 0, _, _ => by
    have e : nthV (x :: l) 0 = x := rfl
    rw [e]
    unfold ixV
    constructor
    · intro h; simp [h]
    · intro h; simp [h]
  | x :: l, k + 1, h, h2 => by
    have e : nthV (x :: l) (k + 1) = nthV l k := by simp [nthV]
    rw [e]
    unfold ixV at h ⊢
    by_cases hx : dl x = true
    · simp [hx] at h
    · simp only [if_neg hx] at h ⊢
      have := ixV_step (vs := l) (k := k) (by omega) (by simpa using h2)
      exact ⟨fun h => by rw [this.1 h], fun h => by have := this.2 h; omega⟩
theorem keep_pre : ∀ {vs : List (Int × Rat)} {k : Nat}, k ≤ ixV dl vs → (vs.take k).filter (fun x => !dl x) = vs.take k
  | vs, 0, _ => by simp
  | [], k + 1, _ => by simp
  | x :: l, k + 1, h => by
    unfold ixV at h
    by_cases hx : dl x = true
    · simp [hx] at h
    · simp only [if_neg hx] at h
      have := keep_pre (vs := l) (k := k) (by omega)
      simp [hx, this]
theorem keep_all (h : ixV dl vs = vs.length) : keepV dl vs = vs := by
  have := keep_pre (dl := dl) (vs := vs) (k := vs.length) (by omega)
  rwa [List.take_of_length_le (Nat.le_refl _)] at this
theorem nthV_set (h : k < us.length) (x : Int × Rat) : nthV (us.set k x) k = x := by simp [nthV, h]
theorem del_start (h : ixV dl vs < vs.length) : vs.take (ixV dl vs) = (vs.take (ixV dl vs + 1)).filter (fun x => !dl x) := by
  have h1 : dl (nthV vs (ixV dl vs)) = true := by
    cases hq : dl (nthV vs (ixV dl vs)) with
    | true => rfl
    | false =>
      have := (ixV_step (Nat.le_refl _) h).2 hq
      omega
  rw [take_v h, List.filter_append, keep_pre (Nat.le_refl _)]
  simp [h1]
theorem del_keep (h : us.take i = (vs.take j).filter (fun x => !dl x)) (hj : j < vs.length) (hx : dl (nthV vs j) = false) (hi : i < us.length) : (us.set i (nthV vs j)).take (i + 1) = (vs.take (j + 1)).filter (fun x => !dl x) := by
  rw [take_v (by simpa using hi), List.take_set_of_le (Nat.le_refl _), h, nthV_set hi, take_v hj, List.filter_append]
  simp [hx]
theorem del_drop (h : us.take i = (vs.take j).filter (fun x => !dl x)) (hj : j < vs.length) (hx : dl (nthV vs j) = true) : us.take i = (vs.take (j + 1)).filter (fun x => !dl x) := by
  rw [h, take_v hj, List.filter_append]
  simp [hx]
theorem nth_ne (h : i ≠ j) (x : Int × Rat) : nthV (us.set i x) j = nthV us j := by simp [nthV, List.getElem?_set_ne h]
theorem swept_end (hul : us.length = vs.length) (hi : i ≤ us.length) (h : us.take i = keepV dl vs) : putA (vcl us) (0 + i * 5) ((zRow zV (us.length - i)).map tv) = (swept vs (keepV dl vs)).map .t := by
  have hl : (keepV dl vs).length = i := by rw [← h, List.length_take, Nat.min_eq_left hi]
  unfold putA swept
  rw [Nat.zero_add, take_vcl, h, List.drop_of_length_le (by rw [vcl_len, List.length_map, zRow_len]; show us.length * 5 ≤ i * 5 + (us.length - i) * 5; omega), List.append_nil, hl, hul]
  simp [tv]
theorem swept_all (h : keepV dl vs = vs) : vcl vs = (swept vs (keepV dl vs)).map .t := by
  unfold swept
  rw [h, Nat.sub_self]
  simp [zRow, vcl]
theorem swept_take (vs F : List (Int × Rat)) : ((swept vs F).map AV.t).take (F.length * 5) = (F.flatMap (vtr false)).map .t := by
  unfold swept
  rw [List.map_append]
  exact List.take_left' (by rw [List.length_map, vflat_len])
theorem useL_snoc {fr : Int} (p : Rat) (h : k < vs.length) : useL fr (vs.take (k + 1)) p = useS fr (useL fr (vs.take k) p) (nthV vs k) := by
  unfold useL
  rw [take_v h, List.foldl_append]
  rfl
theorem set_mid2 {α : Type} {a b us : List α} {k : Nat} {x y : α} (h : us = a ++ x :: b) (ha : a.length = k) : us.set k y = (a ++ [y]) ++ b := by
  subst h
  rw [List.set_append_right _ _ (by omega), ha, Nat.sub_self]
  simp
theorem drop_v (h : k < vs.length) : vs.drop k = nthV vs k :: vs.drop (k + 1) := by
  rw [List.drop_eq_getElem_cons h]
  congr 1
  simp [nthV, h]
theorem nth_mid2 {a b us : List (Int × Rat)} {k : Nat} {x : Int × Rat} (h : us = a ++ x :: b) (ha : a.length = k) : nthV us k = x := by
  subst h
  unfold nthV
  rw [List.getD_eq_getElem?_getD, List.getElem?_append_right (by omega), ha, Nat.sub_self]
  rfl
end
end Go.Proofs.YtogaallfhifngaaGreat
namespace Go.Proofs.YtogaallfhifngaaGreat
open Go Go.RowKit
structure StOk (X : List (Int × Rat)) (n B : Nat) : Prop where
  pos : ∀ x ∈ X, 0 < x.2
  len : X.length ≤ n
  size : wts (X.map Prod.snd) ≤ B
section
variable {X : List (Int × Rat)} {n B n' B' : Nat}
theorem StOk.mono (h : StOk X n B) (h1 : n ≤ n') (h2 : B ≤ B') : StOk X n' B' := ⟨h.pos, Nat.le_trans h.len h1, Nat.le_trans h.size h2⟩
theorem StOk.nil : StOk [] 0 0 := ⟨fun _ h => (by cases h), Nat.le_refl _, Nat.le_refl _⟩
theorem StOk.sz {L : Nat} (h : StOk X n B) (hB : B ≤ L) : ∀ x ∈ X, Sz L x.2 := by
  intro x hx
  refine sz_iff.2 ?_
  have h1 := h.size
  have h2 : wt x.2 ≤ wts (X.map Prod.snd) := wts_mem (List.mem_map.2 ⟨x, hx, rfl⟩)
  have h3 : wt x.2 = szq x.2 + 1 := rfl
  omega
theorem StOk.filter (h : StOk X n B) (p : Int × Rat → Bool) : StOk (X.filter p) n B :=
  ⟨fun x hx => h.pos x (List.mem_filter.1 hx).1, Nat.le_trans (List.length_filter_le _ _) h.len, Nat.le_trans (wts_sub (List.filter_sublist.map _)) h.size⟩
theorem StOk.put (h : StOk X n B) (e y : Int) (q : Rat) : StOk (putL e q y X) (n + 1) (B + wt q) := by
  unfold putL
  split
  · split
    · rename_i h1 h2
      have h3 := (sgn_pos q).1 (of_decide_eq_true h2)
      refine ⟨fun x hx => ?_, by simp [h.len], ?_⟩
      · rcases List.mem_append.1 hx with hx | hx
        · exact h.pos x hx
        · rw [List.mem_singleton] at hx
          subst hx
          exact h3
      · rw [List.map_append, wts_append]
        have := h.size
        simp [wts] at *
        omega
    · exact h.mono (by omega) (by omega)
  · exact h.mono (by omega) (by omega)
theorem refL_pos (fr : Int) (xs : List (Int × Rat)) : ∀ (s : List (Int × Rat) × List (Int × Rat) × Rat), (∀ x ∈ s.1, 0 < x.2) → ∀ x ∈ (xs.foldl (refS fr) s).1, 0 < x.2 := by
  have step : ∀ (L : List (Int × Rat)) (y : Int) (q : Rat), (∀ x ∈ L, 0 < x.2) → ∀ x ∈ (if 0 < q.num.sign then L ++ [(y, q)] else L), 0 < x.2 := by
    intro L y q h
    split
    · rename_i hp
      intro x hx
      rcases List.mem_append.1 hx with hx | hx
      · exact h x hx
      · rw [List.mem_singleton] at hx; subst hx; exact (sgn_pos _).1 hp
    · exact h
  induction xs with
  | nil => intro s h; exact h
  | cons y xs ih =>
    intro s h
    rw [List.foldl_cons]
    refine ih _ ?_
    by_cases hc : fr ≤ y.1 ∧ 0 < s.2.2.num.sign
    · rw [refS_yes hc]
      exact step _ _ _ h
    · rw [refS_no hc]
      exact step _ _ _ h
theorem useL_wt (fr : Int) (p : Rat) : ∀ (xs : List (Int × Rat)), wts ((useL fr xs p).1.map Prod.snd) + wt (useL fr xs p).2.2 ≤ wts (xs.map Prod.snd) + wt p + 2 * xs.length := by
  intro xs
  have key : ∀ (xs : List (Int × Rat)) (s : List (Int × Rat) × List (Int × Rat) × Rat), wts ((xs.foldl (useS fr) s).1.map Prod.snd) + wt (xs.foldl (useS fr) s).2.2 ≤ wts (s.1.map Prod.snd) + wt s.2.2 + wts (xs.map Prod.snd) + 2 * xs.length := by
    intro xs
    induction xs with
    | nil => intro s; simp [wts]
    | cons x xs ih =>
      intro s
      rw [List.foldl_cons]
      refine Nat.le_trans (ih _) ?_
      have e : wts ((x :: xs).map Prod.snd) = wt x.2 + wts (xs.map Prod.snd) := by simp [wts]
      rw [e, List.length_cons]
      by_cases hc : fr ≤ x.1 ∧ 0 < s.2.2.num.sign
      · have h1 := useS_yes (s := s) (y := x.1) (q := x.2) hc.1 hc.2
        have h2 := wt_min x.2 s.2.2
        rw [show useS fr s x = useS fr s (x.1, x.2) from rfl, h1]
        dsimp only
        rw [List.map_append, wts_append]
        simp only [List.map_cons, List.map_nil, wts, List.sum_cons, List.sum_nil] at h2 ⊢
        omega
      · rw [useS_no hc]
        dsimp only
        rw [List.map_append, wts_append]
        simp only [List.map_cons, List.map_nil, wts, List.sum_cons, List.sum_nil]
        omega
  have := key xs ([], [], p)
  have e : wts (([] : List (Int × Rat)).map Prod.snd) = 0 := rfl
  unfold useL
  dsimp only at this
  rw [e] at this
  omega
theorem StOk.use {fr : Int} {p : Rat} (h : StOk X n B) : StOk (refL fr X p).1 n (B + wt p + 2 * n) := by
  refine ⟨refL_pos fr X _ (fun _ h => by cases h), ?_, ?_⟩
  · rw [(useL_refL h.pos).1]
    refine Nat.le_trans (List.length_filter_le _ _) ?_
    rw [useL_len]
    exact h.len
  · rw [(useL_refL h.pos).1]
    have h1 := useL_wt fr p X
    have h2 := wts_sub ((List.filter_sublist (l := (useL fr X p).1) (p := fun x => !dl0 x.1 x.2)).map Prod.snd)
    have h3 := h.size
    have h4 := h.len
    omega
theorem StOk.zU {fr : Int} {p : Rat} {L : Nat} (h : StOk X n B) (hB : B + wt p + 2 * n ≤ L) : ∀ x ∈ (useL fr X p).1, Sz L x.2 := by
  intro x hx
  refine sz_iff.2 ?_
  have h1 := useL_wt fr p X
  have h2 : wt x.2 ≤ wts ((useL fr X p).1.map Prod.snd) := wts_mem (List.mem_map.2 ⟨x, hx, rfl⟩)
  have h3 : wt x.2 = szq x.2 + 1 := rfl
  have h4 := h.size
  have h5 := h.len
  omega
end
theorem wt6 {a : Fr4} {p : Rat} (ha : Qn a p) (h1 : a.x.length ≤ 6) (h2 : a.y.length ≤ 6) : wt p ≤ 7 := by
  obtain ⟨⟨l1, l2, _, _⟩, rfl⟩ := ha
  have := sz_iff.1 (qin_sz (na := a.s) (nb := a.t) l1 l2 h1 h2 (by omega))
  have e : wt a.q = szq a.q + 1 := rfl
  have e2 : szq (qin a.s a.x a.t a.y) = szq a.q := rfl
  omega
theorem negz_szi {L : Nat} {k : Int} (h : SzI L k) : SzI L (-k) := by
  unfold SzI
  rw [Int.natAbs_neg]
  exact h
theorem of_szi {n : Int} (h1 : -9223372036854775808 ≤ n) (h2 : n ≤ 9223372036854775807) : SzI 2 n := of_len h1 h2
theorem by_sz {n d : Int} (h1 : -9223372036854775808 ≤ n) (h2 : n ≤ 9223372036854775807) (h3 : -9223372036854775808 ≤ d) (h4 : d ≤ 9223372036854775807) : Sz 2 (Rat.divInt n d) := by
  rcases Int.lt_trichotomy d 0 with hd | hd | hd
  · rw [← Rat.neg_divInt_neg]
    obtain ⟨e1, e2⟩ := divInt_sz (a := -n) (b := -d) (L := 2) (M := 2) (by omega) (negz_szi (of_szi h1 h2)) (negz_szi (of_szi h3 h4))
    exact ⟨e1, e2⟩
  · subst hd
    rw [Rat.divInt_zero]
    exact ⟨Nat.zero_le _, by decide⟩
  · obtain ⟨e1, e2⟩ := divInt_sz (a := n) (b := d) (L := 2) (M := 2) hd (of_szi h1 h2) (of_szi h3 h4)
    exact ⟨e1, e2⟩
abbrev At := Int × Int × Fr4
def atr (x : At) : List Tr := .v (.int .i64 x.1) :: .v (.int .i64 x.2.1) :: x.2.2.tr false
def nilAt : At := (0, 0, nilF)
def nthA (xs : List At) (k : Nat) : At := xs.getD k nilAt
def sAc (t : Nat) (xs : List At) : Tr := .s false t 6 xs.length (xs.flatMap atr)
section
variable {xs : List At} {k : Nat}
theorem nthA_get (h : k < xs.length) : xs[k]? = some (nthA xs k) := by simp [nthA, h]
theorem nthA_mem (h : k < xs.length) : nthA xs k ∈ xs := List.mem_of_getElem? (nthA_get h)
theorem act_at (h : k < xs.length) : ((xs.flatMap atr).drop (k * 6)).take (atr (nthA xs k)).length = atr (nthA xs k) := flat_at (f := atr) (fun _ => rfl) (nthA_get h)
theorem act_q (h : k < xs.length) : ((xs.flatMap atr).drop (k * 6 + 2)).take ((nthA xs k).2.2.tr false).length = (nthA xs k).2.2.tr false := flat_sub (f := atr) (o := 2) (m := 4) (fun _ => rfl) (nthA_get h) (by omega)
end
def shortB (x : Fr4) : Bool := decide ((x.x.length : Int) ≤ 6) && decide ((x.y.length : Int) ≤ 6)
def fewB (xs : List At) (top : Int) : Bool := ((xs.take 100).all fun x => shortB x.2.2) && decide ((xs.length : Int) ≤ top)
theorem few_no {xs : List At} {k : Nat} {top : Int} (h : k < xs.length) (h2 : k < 100) (h3 : shortB (nthA xs k).2.2 = false) : false = fewB xs top := by
  unfold fewB
  have : ((xs.take 100).all fun x => shortB x.2.2) = false := by
    rw [List.all_eq_false]
    exact ⟨_, List.mem_of_getElem? (i := k) (by rw [List.getElem?_take, if_pos h2, nthA_get h]), by simp [h3]⟩
  rw [this]
  rfl
theorem few_yes {xs : List At} {k : Nat} {top : Int} (h : ∀ j, j < k → shortB (nthA xs j).2.2 = true) (hk : k ≤ xs.length) (h2 : ¬ (k < xs.length ∧ k < 100)) : decide ((xs.length : Int) ≤ top) = fewB xs top := by
  unfold fewB
  have : ((xs.take 100).all fun x => shortB x.2.2) = true := by
    rw [List.all_eq_true]
    intro x hx
    obtain ⟨j, hj⟩ := List.mem_iff_getElem?.1 hx
    rw [List.getElem?_take] at hj
    split at hj
    · have hjl := (List.getElem?_eq_some_iff.1 hj).1
      rw [nthA_get hjl] at hj
      injection hj with hj
      rw [← hj]
      exact h j (by omega)
    · cases hj
  rw [this, Bool.true_and]
theorem few_use {xs : List At} {top : Int} (h : fewB xs top = true) (ht : top ≤ 100) : (xs.length : Int) ≤ top ∧ ∀ x ∈ xs, x.2.2.x.length ≤ 6 ∧ x.2.2.y.length ≤ 6 := by
  unfold fewB at h
  rw [Bool.and_eq_true, decide_eq_true_eq] at h
  refine ⟨h.2, fun x hx => ?_⟩
  rw [List.take_of_length_le (by omega), List.all_eq_true] at h
  have := h.1 x hx
  simp only [shortB, Bool.and_eq_true, decide_eq_true_eq] at this
  omega
theorem same_stepV {us ws : List (Int × Rat)} {k : Nat} (h : us.take k = ws.take k) (h1 : k < us.length) (h2 : k < ws.length) (h3 : (nthV us k).1 = (nthV ws k).1) (h4 : (nthV us k).2 = (nthV ws k).2) : us.take (k + 1) = ws.take (k + 1) := by
  rw [take_v h1, take_v h2, h]
  congr 2
  exact Prod.ext h3 h4
theorem vo_limbs {us : List (Int × Rat)} {i : Nat} (h : i < us.length) : (us.flatMap (vtr true))[i * 5 + 2]? = some (sU true (dg 4294967296 (nthV us i).2.num.natAbs)) := by
  have h1 := congrArg (·[2]?) (vin_at true h)
  simp only [List.getElem?_take, List.getElem?_drop] at h1
  simpa [vtr, Fr4.tr, Fr4.of] using h1
def Spo (n : Nat) (trs : List Tr) : Prop := trs.length = n * 5 ∧ ∀ i, i < n → ∃ xs, xs.length ≤ 1099511627776 ∧ trs[i * 5 + 2]? = some (sU true xs)
theorem Spo.vo {us : List (Int × Rat)} (hz : ∀ x ∈ us, Sz 68719476736 x.2) : Spo us.length (us.flatMap (vtr true)) := ⟨vflat_len true us, fun _ h => ⟨_, Nat.le_trans (hz _ (nthV_mem h)).1 (by omega), vo_limbs h⟩⟩
theorem Spo.step {n i : Nat} {trs : List Tr} (h : Spo n trs) (hi : i < n) (zs : List Nat) (hz : zs.length ≤ 1099511627776) (v : Value) : Spo n ((trs.set (i * 5 + 2) (sU true zs)).set (i * 5) (.v v)) := by
  refine ⟨by simp [h.1], fun j hj => ?_⟩
  rw [List.getElem?_set_ne (by omega)]
  by_cases e : j = i
  · subst e
    exact ⟨zs, hz, List.getElem?_set_self (by rw [h.1]; omega)⟩
  · rw [List.getElem?_set_ne (by omega)]
    exact h.2 j hj
theorem putA_one {l : List AV} {o : Nat} {a : AV} (h : o < l.length) : putA l o [a] = l.set o a := by
  unfold putA
  rw [List.set_eq_take_append_cons_drop, if_pos h]
  simp
theorem pick_in {i n : Int} (h1 : 0 < n) : -n < i.tmod n ∧ i.tmod n < n := by
  have h2 := Int.tmod_lt_of_pos i h1
  have h3 := Int.tmod_lt_of_pos (-i) h1
  rw [Int.neg_tmod] at h3
  omega
end Go.Proofs.YtogaallfhifngaaGreat
namespace Go.Proofs.YtogaallfhifngaaGreat
open Go Go.RowKit
theorem r0F : FV.agg [tv (.bool false), .t (sU false []), tv (.bool (sgz 1)), .t (sU false (dg 4294967296 (1 : Int).natAbs))] = qF (.of 0) := rfl
theorem p_right {a : Fr4} {p : Rat} (ha : Qn a p) : Spec false Tryz.prog 57 [] [qF a] (Ret (qF (.of p))) := by
  refine fn0 Tryz.func57 rfl Tryz.ntmps57 rfl ttok rfl fun N w c0 h0 => ?_
  refine sq ?_; refine rl ?_; refine bx 0 ?_; refine al 1 ?_; refine nl ?_; refine sq ?_; refine sq ?_; refine rl ?_; refine ld ?_
  refine ca (c_rRight ha.1) ok54 ⟨a1g rfl, rfl⟩ (.one (tv (.bool (rightQ a.s a.x a.t a.y)))) ?_; refine WL.splitb (t := 4) rfl (fun h1 => ?_) (fun h1 => ?_)
  ·
    refine o1 ?_; refine nl ?_; refine cdf rfl ?_; refine sk ?_; refine sq ?_; refine rl ?_; refine ld ?_; refine st ?_; refine nl ?_; refine rt ?_
    exact en (.inl rfl) rfl (pk1 (.agg (.cons (.id rfl) (.cons (.id rfl) (.cons (.id rfl) (.cons (.id rfl) .nil)))))) (by decide) (fun h => by cases h) (by rw [ha.right h1]; rfl)
  ·
    refine o1 ?_; refine nl ?_; refine cdt rfl ?_; refine sq ?_; refine rl ?_; refine o1 ?_; refine ca (p_one) ok69 rfl (kF 1) ?_; refine o1 ?_; refine st ?_; refine nl ?_; refine rt ?_
    have hq9 := ha.wrong h1
    subst hq9; exact en (.inl rfl) rfl (pk1 (.agg (.cons (.id rfl) (.cons .nilf (.cons (.id rfl) (.cons (.id rfl) .nil)))))) (by decide) (fun h => by cases h) r0F
theorem p_Cmp {a b : Fr4} {p q : Rat} (ha : Qn a p) (hb : Qn b q) : Spec true Tryz.prog 110 [] [qF a, qF b] (Ret (.one (tv (.int .i64 (p - q).num.sign)))) := by
  refine fn0 Tryz.func110 rfl Tryz.ntmps110 rfl ttok rfl fun N w c0 h0 => ?_
  have hs := ha.sz; have hs' := hb.sz
  have hs1 := hs.1; have hs2 := hs.2; have hs3 := hs'.1; have hs4 := hs'.2
  have hs5 : (dg 4294967296 ((p.den : Int)).natAbs).length ≤ 68719476736 := hs2
  have hs6 : (dg 4294967296 ((q.den : Int)).natAbs).length ≤ 68719476736 := hs4
  refine sq ?_; refine rl ?_; refine bx 0 ?_; refine bx 1 ?_; refine o1 ?_; refine nl ?_
  refine md (γ := Unit) (fun _ => frL [(2, .one (.pt 0 0)), (3, .one (.pt 1 0)), (4, .one (tv (.int .i64 ((0 : Nat) : Int))))]) (fun _ => ([⟨36, 0, ((Fr4.of p).tr false).map .t⟩, ⟨36, 0, ((Fr4.of q).tr false).map .t⟩] : List Ob).map some) (fun _ => True) ?_ fun _ _ => ?_
  ·
    refine rd [0, 1] (fun i => [0, 1, 2, 3, 4, 5].contains i) mixed ?_
    refine WO.two (i := 0) (j := 2) (by kernel_rfl) ?_ ?_
    ·
      refine old 0 ?_; refine WO.two (i := 1) (j := 2) (by kernel_rfl) ?_ ?_
      ·
        refine oca 1 rfl (p_right ha) ok57 ⟨a1g rfl, rfl⟩ (qF (.of p)) ?_; refine WO.one (by kernel_rfl) (old 2 ?_)
        refine dca 3 rfl (p_right hb) ok57 ⟨a1g rfl, rfl⟩ (qF (.of q)) ?_; refine dst 4 ?_; refine dst 5 ?_; refine dz0 ?_
        exact ⟨(), trivial, su0 h0 [0, 1] _ _ (by decide) ⟨rfl, rfl, rfl, trivial⟩ ⟨oe rfl rfl, oe rfl rfl, rfl⟩⟩
      ·
        refine old 2 ?_; refine dca 1 rfl (p_right ha) ok57 ⟨a1g rfl, rfl⟩ (qF (.of p)) ?_; refine dca 3 rfl (p_right hb) ok57 ⟨a1g rfl, rfl⟩ (qF (.of q)) ?_; refine dst 4 ?_; refine dst 5 ?_
        refine dz0 ?_; exact ⟨(), trivial, su0 h0 [0, 1] _ _ (by decide) ⟨rfl, rfl, rfl, trivial⟩ ⟨oe rfl rfl, oe rfl rfl, rfl⟩⟩
    ·
      refine old 2 ?_; refine WO.one (by kernel_rfl) (old 0 ?_)
      refine dca 1 rfl (p_right ha) ok57 ⟨a1g rfl, rfl⟩ (qF (.of p)) ?_; refine dca 3 rfl (p_right hb) ok57 ⟨a1g rfl, rfl⟩ (qF (.of q)) ?_; refine dst 4 ?_; refine dst 5 ?_; refine dz0 ?_
      exact ⟨(), trivial, su0 h0 [0, 1] _ _ (by decide) ⟨rfl, rfl, rfl, trivial⟩ ⟨oe rfl rfl, oe rfl rfl, rfl⟩⟩
  refine sq ?_; refine rd [0, 1] (fun i => [11].contains i) mixed ?_
  refine dv 0 ?_; refine dld 1 ?_; refine dv 2 ?_; refine dld 3 ?_; refine dv 5 ?_; refine dld 6 ?_; refine dv 7 ?_; refine dld 8 ?_; have hn1 := mulz_len (p.num) ((q.den : Int))
  refine dca 4 rfl (p_bMul (zn_num hs) (zn_den hs')) ok89 ⟨a1g rfl, a1g rfl, rfl⟩ (kF ((p.num * (q.den : Int)))) ?_; have hn2 := mulz_len (q.num) ((p.den : Int))
  refine dca 9 rfl (p_bMul (zn_num hs') (zn_den hs)) ok89 ⟨a1g rfl, a1g rfl, rfl⟩ (kF ((q.num * (p.den : Int)))) ?_
  refine dca 10 rfl (p_bCmp (Zn.of (k := (p.num * (q.den : Int))) (by omega)) (Zn.of (k := (q.num * (p.den : Int))) (by omega))) ok58 ⟨a1g rfl, a1g rfl, rfl⟩ (.one (tv (.int .i64 ((p.num * (q.den : Int)) - (q.num * (p.den : Int))).sign))) ?_
  refine d_v 11 (by kernel_rfl) rfl rfl ttok rfl (by trivial) ?_ (fun h => by first | rfl | cases h)
  refine dz0 ?_; refine rt ?_; exact en (.inl rfl) rfl (pk1 (pkv _)) (by decide) (fun _ => trivial) (by rw [← cmp_cross]; rfl)
theorem same_yes {p q : Rat} (h : (p.num - q.num).sign = 0) : decide (((p.den : Int) - (q.den : Int)).sign = 0) = decide (p = q) := by
  have h1 := Int.sign_eq_zero_iff_zero.1 h
  rw [decide_eq_decide, Int.sign_eq_zero_iff_zero]
  exact ⟨fun h2 => Rat.ext (by omega) (by omega), fun h2 => by subst h2; omega⟩
theorem same_no {p q : Rat} (h : ¬ (p.num - q.num).sign = 0) : false = decide (p = q) := by
  refine (decide_eq_false fun h2 => h ?_).symm
  subst h2
  rw [Int.sub_self]
  rfl
theorem p_Same {a b : Fr4} {p q : Rat} (ha : Qn a p) (hb : Qn b q) : Spec true Tryz.prog 30 [] [qF a, qF b] (Ret (.one (tv (.bool (decide (p = q)))))) := by
  refine fn0 Tryz.func30 rfl Tryz.ntmps30 rfl ttok rfl fun N w c0 h0 => ?_
  have hs := ha.sz; have hs' := hb.sz
  refine sq ?_; refine rl ?_; refine bx 0 ?_; refine bx 1 ?_; refine o1 ?_; refine nl ?_
  refine md (γ := Unit) (fun _ => frL [(2, .one (.pt 0 0)), (3, .one (.pt 1 0)), (4, .one (tv (.bool false)))]) (fun _ => ([⟨36, 0, ((Fr4.of p).tr false).map .t⟩, ⟨36, 0, ((Fr4.of q).tr false).map .t⟩] : List Ob).map some) (fun _ => True) ?_ fun _ _ => ?_
  ·
    refine rd [0, 1] (fun i => [0, 1, 2, 3, 4, 5].contains i) mixed ?_
    refine WO.two (i := 0) (j := 2) (by kernel_rfl) ?_ ?_
    ·
      refine old 0 ?_; refine WO.two (i := 1) (j := 2) (by kernel_rfl) ?_ ?_
      ·
        refine oca 1 rfl (p_right ha) ok57 ⟨a1g rfl, rfl⟩ (qF (.of p)) ?_; refine WO.one (by kernel_rfl) (old 2 ?_)
        refine dca 3 rfl (p_right hb) ok57 ⟨a1g rfl, rfl⟩ (qF (.of q)) ?_; refine dst 4 ?_; refine dst 5 ?_; refine dz0 ?_
        exact ⟨(), trivial, su0 h0 [0, 1] _ _ (by decide) ⟨rfl, rfl, rfl, trivial⟩ ⟨oe rfl rfl, oe rfl rfl, rfl⟩⟩
      ·
        refine old 2 ?_; refine dca 1 rfl (p_right ha) ok57 ⟨a1g rfl, rfl⟩ (qF (.of p)) ?_; refine dca 3 rfl (p_right hb) ok57 ⟨a1g rfl, rfl⟩ (qF (.of q)) ?_; refine dst 4 ?_; refine dst 5 ?_
        refine dz0 ?_; exact ⟨(), trivial, su0 h0 [0, 1] _ _ (by decide) ⟨rfl, rfl, rfl, trivial⟩ ⟨oe rfl rfl, oe rfl rfl, rfl⟩⟩
    ·
      refine old 2 ?_; refine WO.one (by kernel_rfl) (old 0 ?_)
      refine dca 1 rfl (p_right ha) ok57 ⟨a1g rfl, rfl⟩ (qF (.of p)) ?_; refine dca 3 rfl (p_right hb) ok57 ⟨a1g rfl, rfl⟩ (qF (.of q)) ?_; refine dst 4 ?_; refine dst 5 ?_; refine dz0 ?_
      exact ⟨(), trivial, su0 h0 [0, 1] _ _ (by decide) ⟨rfl, rfl, rfl, trivial⟩ ⟨oe rfl rfl, oe rfl rfl, rfl⟩⟩
  refine sq ?_; refine rl ?_; refine o1 ?_; refine ld ?_; refine o1 ?_; refine ld ?_
  refine ca (p_bCmp (zn_num hs) (zn_num hs')) ok58 ⟨a1g rfl, a1g rfl, rfl⟩ (.one (tv (.int .i64 (p.num - q.num).sign))) ?_; refine o1 ?_; refine o1 ?_
  refine WL.split (t := 15) rfl (fun h1 => ?_) (fun h1 => ?_)
  ·
    refine o1 ?_; refine ld ?_; refine o1 ?_; refine ld ?_; refine ca (p_bCmp (zn_den hs) (zn_den hs')) ok58 ⟨a1g rfl, a1g rfl, rfl⟩ (.one (tv (.int .i64 ((p.den : Int) - (q.den : Int)).sign))) ?_
    (iterate 3 refine o1 ?_); refine nl ?_; refine rt ?_; exact en (.inl rfl) rfl (pk1 (pkv _)) (by decide) (fun _ => trivial) (congrArg (fun z => FV.one (tv (.bool z))) (same_yes h1))
  ·
    (iterate 6 refine no_ ?_); refine o1 ?_; refine o1 ?_; refine nl ?_; refine rt ?_
    exact en (.inl rfl) rfl (pk1 (pkv _)) (by decide) (fun _ => trivial) (congrArg (fun z => FV.one (tv (.bool z))) (same_no h1))
theorem p_less {a b : Fr4} {p q : Rat} (ha : Qn a p) (hb : Qn b q) : Spec true Tryz.prog 86 [] [qF a, qF b] (Ret (.one (tv (.bool (decide (q < p)))))) := by
  refine fn0 Tryz.func86 rfl Tryz.ntmps86 rfl ttok rfl fun N w c0 h0 => ?_
  refine sq ?_; refine rl ?_; refine bx 0 ?_; refine bx 1 ?_; refine o1 ?_; refine nl ?_; refine sq ?_; refine rl ?_; refine ld ?_; refine o1 ?_; refine ld ?_
  refine ca (p_Cmp hb ha) ok110 ⟨a1g rfl, a1g rfl, rfl⟩ (.one (tv (.int .i64 (q - p).num.sign))) ?_; refine o1 ?_; refine o1 ?_; refine nl ?_; refine rt ?_
  exact en (.inl rfl) rfl (pk1 (pkv _)) (by decide) (fun _ => trivial) (congrArg (fun z => FV.one (tv (.bool z))) (lt_sign p q))
theorem p_Min1 {a : Fr4} : Spec false Tryz.prog 85 [] [qF a] (Ret (.one (.t (.f 86 [.a (a.tr false)] [])))) := by
  refine fn0 Tryz.func85 rfl Tryz.ntmps85 rfl ttok rfl fun N w c0 h0 => ?_
  refine sq ?_; refine rl ?_; refine bx 0 ?_; refine o1 ?_; refine nl ?_; refine sq ?_; refine rl ?_; refine ld ?_; refine o1 ?_; refine o1 ?_; refine nl ?_; refine rt ?_
  exact en (.inl rfl) rfl (pk1 (.one (.id rfl))) (by decide) (fun h => by cases h) rfl
theorem p_best {a : Fr4} {p : Rat} {xs : List Fr4} (ha : Qn a p) (hx : ∀ x ∈ xs, x.ok) (hl : xs.length ≤ 1099511627776) : Spec false Tryz.prog 84 [] [qF a, .one (.t (sQ false xs)), .one (.t (.f 85 [] []))] (Ret (qF (.of (qmin p (xs.map Fr4.q))))) := by
  refine fn0 Tryz.func84 rfl Tryz.ntmps84 rfl ttok rfl fun N w c0 h0 => ?_
  have hz : ∀ x ∈ xs, Sz 68719476736 x.q := fun x h => (show Qn x x.q from ⟨hx x h, rfl⟩).sz
  refine sq ?_; refine rl ?_; refine bx 0 ?_; refine al 1 ?_; refine nl ?_; refine sq ?_; refine rl ?_; refine ld ?_; refine ca (p_right ha) ok57 ⟨a1g rfl, rfl⟩ (qF (.of p)) ?_
  refine ca (c_rWhole (z := 0) (by omega) (by omega)) ok46 ⟨a1 rfl, rfl⟩ (qF (.of ((0 : Int) : Rat))) ?_
  refine ca (p_add0 ha.sz) ok65 ⟨a1g rfl, a1g rfl, rfl⟩ (qF (.of p)) ?_; refine al 2 ?_; refine st ?_; refine nl ?_; refine sq ?_; refine sq ?_; refine rl ?_; (iterate 3 refine o1 ?_); refine nl ?_
  refine bl ?_
  refine lp (γ := Nat) (fun k => frL [(2, .one (.t (.f 85 [] []))), (6, .one (.pt 0 0)), (7, .one (.pt 1 0)), (14, .one (.t (sQ false xs))), (15, .one (tv (.int .i64 ((xs.length : Nat) : Int)))), (16, .one (tv (.int .i64 ((k : Nat) : Int))))]) (fun k => [(⟨36, 0, [tv (.bool false), tv (.slice none 0 0), tv (.bool false), tv (.slice none 0 0)]⟩ : Ob), ⟨36, 0, ((Fr4.of (qmin p ((xs.take k).map Fr4.q))).tr false).map .t⟩].map some) (fun k => k ≤ xs.length ∧ Sz 68719476736 (qmin p ((xs.take k).map Fr4.q))) (fun k => xs.length - k) 0 ⟨Nat.zero_le _, ha.sz⟩ (su0 h0 [1, 2] _ _ (by decide) ⟨rfl, rfl, rfl, rfl, rfl, rfl, trivial⟩ ⟨oe rfl rfl, oet rfl, rfl⟩) fun k hk => ?_
  refine sq ?_; refine rl ?_; refine o1 ?_; refine nl ?_; refine sq ?_; refine cdp rfl (fun h1 => ?_) (fun h1 => ?_)
  ·
    refine sk ?_; refine sq ?_; refine bl ?_; refine sq ?_; refine rl ?_; refine o1 ?_; refine ldf ((nthF xs (k)).tr false) (rat_at xs (k := k) (by omega)) ?_
    refine al 2 ?_; refine st ?_; refine nl ?_; refine sq ?_; refine rd [0, 1, 2] (fun i => [].contains i) mixed ?_
    refine dv 0 ?_; refine dld 1 ?_; refine dv 2 ?_; refine dld 4 ?_
    refine dce 3 3 [.agg [tv (.bool (sgz (qmin p ((xs.take k).map Fr4.q)).num)), .t (sU false (dg 4294967296 (qmin p ((xs.take k).map Fr4.q)).num.natAbs)), tv (.bool false), .t (sU false (dg 4294967296 (qmin p ((xs.take k).map Fr4.q)).den))]] rfl rfl (p_Min1 (a := .of (qmin p ((xs.take k).map Fr4.q)))) ok85 ⟨rfl, rfl⟩ ?_
    refine dce 5 3 [qF (nthF xs (k))] rfl rfl (p_less (a := .of (qmin p ((xs.take k).map Fr4.q))) (b := (nthF xs (k))) (Qn.of (p := (qmin p ((xs.take k).map Fr4.q))) hk.2) ⟨hx _ (nthF_mem (by omega)), rfl⟩) ok86 ⟨rfl, rfl⟩ ?_
    refine dz0 ?_; refine cdp rfl (fun h2 => ?_) (fun h2 => ?_)
    ·
      refine rl ?_; refine ld ?_; refine ca (p_right ⟨hx _ (nthF_mem (by omega)), rfl⟩) ok57 ⟨a1g rfl, rfl⟩ (qF (.of (nthF xs (k)).q)) ?_
      refine ca (c_rWhole (z := 0) (by omega) (by omega)) ok46 ⟨a1 rfl, rfl⟩ (qF (.of ((0 : Int) : Rat))) ?_
      refine ca (p_add0 (hz _ (nthF_mem (by omega)))) ok65 ⟨a1g rfl, a1g rfl, rfl⟩ (qF (.of (nthF xs (k)).q)) ?_
      refine st ?_; refine nl ?_; refine rl ?_; refine o1 ?_; refine WL.cast (t := 30) (u' := .int .i64 ((k + 1 : Nat) : Int)) rfl (cint (by omega)) ?_
      refine o1 ?_; refine nl ?_; have hst : (qmin p ((xs.take (k + 1)).map Fr4.q)) = (nthF xs k).q := by rw [take_q (by omega), qmin_snoc]; exact if_pos h2
      exact ⟨k + 1, by omega, ⟨by omega, by rw [hst]; exact hz _ (nthF_mem (by omega))⟩, su0 h0 [0, 1] _ _ (by decide) ⟨rfl, rfl, rfl, rfl, rfl, rfl, trivial⟩ ⟨oe rfl rfl, oet (congrArg (fun q => some (⟨36, 0, ((Fr4.of q).tr false).map .t⟩ : Ob)) hst.symm), rfl⟩⟩
    ·
      refine sk ?_; refine rl ?_; refine o1 ?_; refine WL.cast (t := 30) (u' := .int .i64 ((k + 1 : Nat) : Int)) rfl (cint (by omega)) ?_
      refine o1 ?_; refine nl ?_; have hst : (qmin p ((xs.take (k + 1)).map Fr4.q)) = (qmin p ((xs.take k).map Fr4.q)) := by rw [take_q (by omega), qmin_snoc]; exact if_neg h2
      exact ⟨k + 1, by omega, ⟨by omega, by rw [hst]; exact hk.2⟩, su0 h0 [0, 1] _ _ (by decide) ⟨rfl, rfl, rfl, rfl, rfl, rfl, trivial⟩ ⟨oe rfl rfl, oet (congrArg (fun q => some (⟨36, 0, ((Fr4.of q).tr false).map .t⟩ : Ob)) hst.symm), rfl⟩⟩
  ·
    refine ex ?_; refine sq ?_; refine rl ?_; refine ld ?_; refine st ?_; refine nl ?_; refine rt ?_
    exact en (.inl rfl) rfl (pk1 (.agg (.cons (.id rfl) (.cons (.id rfl) (.cons (.id rfl) (.cons (.id rfl) .nil)))))) (by decide) (fun h => by cases h) (by rw [List.take_of_length_le (by omega)]; rfl)
theorem p_Min {a : Fr4} {p : Rat} {xs : List Fr4} (ha : Qn a p) (hx : ∀ x ∈ xs, x.ok) (hl : xs.length ≤ 1099511627776) : Spec false Tryz.prog 64 [] [qF a, .one (.t (sQ false xs))] (Ret (qF (.of (qmin p (xs.map Fr4.q))))) := by
  refine fn0 Tryz.func64 rfl Tryz.ntmps64 rfl ttok rfl fun N w c0 h0 => ?_
  refine sq ?_; refine rl ?_; refine bx 0 ?_; refine al 1 ?_; refine nl ?_; refine sq ?_; refine rl ?_; refine ld ?_; refine o1 ?_
  refine ca (p_best ha hx hl) ok84 ⟨a1g rfl, a1 rfl, a1 rfl, rfl⟩ (qF (.of (qmin p (xs.map Fr4.q)))) ?_; refine st ?_; refine nl ?_; refine rt ?_
  exact en (.inl rfl) rfl (pk1 (.agg (.cons (.id rfl) (.cons (.id rfl) (.cons (.id rfl) (.cons (.id rfl) .nil)))))) (by decide) (fun h => by cases h) (rfl)
end Go.Proofs.YtogaallfhifngaaGreat
namespace Go.Proofs.YtogaallfhifngaaGreat
open Go Go.RowKit
theorem p_clone {y : Int} {a : Fr4} {p : Rat} (ha : Qn a p) : Spec true Tryz.prog 41 [] [.agg (((Tr.v (.int .i64 y) :: a.tr false) : List Tr).map .t)] (Ret (.agg ((vtr true (y, p)).map .t))) := by
  refine fn0 Tryz.func41 rfl Tryz.ntmps41 rfl ttok rfl fun N w c0 h0 => ?_
  refine sq ?_; refine rl ?_; refine bx 0 ?_; refine al 1 ?_; refine nl ?_; refine sq ?_; refine rd [0, 1] (fun i => [7].contains i) mixed ?_
  refine dv 0 ?_; refine dld 1 ?_; refine dv 2 ?_; refine dld 3 ?_; refine dca 4 rfl (c_rWhole (z := 0) (by omega) (by omega)) ok46 ⟨a1 rfl, rfl⟩ (qF (.of ((0 : Int) : Rat))) ?_
  refine dck 2 5 rfl (p_Add0 ha) ok47 ⟨a1g rfl, a1g rfl, rfl⟩ ?_; refine df 6 ?_; refine dst 7 ?_; refine dz0 ?_; refine rt ?_
  exact en (.inl rfl) rfl (pk1 (.agg (.cons (.id rfl) (.cons (.id rfl) (.cons (.sl (trs := u32T (dg 4294967296 p.num.natAbs)) rfl rfl (tk_u32 _) (ln_u32 _)) (.cons (.id rfl) (.cons (.sl (trs := u32T (dg 4294967296 p.den)) rfl rfl (tk_u32 _) (ln_u32 _)) .nil))))))) (by decide) (fun _ => nofr_vtr (y, p)) rfl
theorem p_rows {vs : List (Int × Rat)} {rest : List Tr} (hz : ∀ x ∈ vs, Sz 68719476736 x.2) (hl : vs.length ≤ 1073741823) : Spec true Tryz.prog 45 [] [.one (.ef (sV 57 false vs :: rest) 0)] (Ret (.one (.t (sO 57 vs)))) := by
  refine fn0 Tryz.func45 rfl Tryz.ntmps45 rfl ttok rfl fun N w c0 h0 => ?_
  refine sq ?_; refine rl ?_; refine o1 ?_; refine nl ?_; refine sq ?_; refine rl ?_; refine o1 ?_; refine nl ?_; refine sq ?_; refine sq ?_; refine rl ?_; (iterate 3 refine o1 ?_)
  refine ldf ([(sV 57 false vs)]) rfl ?_; refine o1 ?_; refine o1 ?_; refine nl ?_; refine bl ?_
  refine lp (γ := Nat) (fun k => frL [(3, .one (.sl 0 0 k)), (9, .one (.t (sV 57 false vs))), (10, .one (tv (.int .i64 ((vs.length : Nat) : Int)))), (11, .one (tv (.int .i64 ((k : Nat) : Int))))]) (fun k => [({ t := 57, z := 5, l := vco (vs.take k) } : Ob)].map some) (fun k => k ≤ vs.length) (fun k => vs.length - k) 0 (Nat.zero_le _) ((nr (i := 3) 0 57 5 rfl rfl rfl rfl).trans (su0 h0 [0] _ _ (by decide) ⟨rfl, rfl, rfl, rfl, trivial⟩ ⟨oe rfl rfl, rfl⟩)) fun k hk => ?_
  refine sq ?_; refine rl ?_; refine o1 ?_; refine nl ?_; refine sq ?_; refine cdp rfl (fun h1 => ?_) (fun h1 => ?_)
  ·
    refine sk ?_; refine sq ?_; refine bl ?_; refine sq ?_; refine rl ?_; refine o1 ?_; refine ldf (vtr false (nthV vs (k))) (vin_at false (by omega)) ?_
    refine al 1 ?_; refine st ?_; refine nl ?_; refine rl ?_; refine o1 ?_; refine ld ?_
    refine cak 2 (p_clone (y := (nthV vs (k)).1) (Qn.of (p := (nthV vs (k)).2) (hz _ (nthV_mem (by omega))))) ok41 ⟨a1g rfl, rfl⟩ ?_
    refine bs 4 ?_; refine w_app (j := 5) ttok rfl rfl rfl rfl (.sl rfl (by rw [vco_len, List.length_take, Nat.min_eq_left hk])) (.sl rfl rfl rfl) rfl rfl rfl (by omega) (by omega) ?_
    refine o1 ?_; refine nl ?_; refine rl ?_; refine o1 ?_; refine WL.cast (t := 20) (u' := .int .i64 ((k + 1 : Nat) : Int)) rfl (cint (by omega)) ?_
    refine o1 ?_; refine nl ?_; have hst : vco (vs.take (k + 1)) = vco (vs.take k ++ [((nthV vs k).1, (nthV vs k).2)]) := by rw [take_v (by omega)]
    exact ⟨k + 1, by omega, by omega, (pkV (j := 5) (k1 := 2) (k2 := 3) (us := vs.take k) rfl rfl rfl rfl rfl rfl).trans (su0 h0 [5] _ _ (by decide) ⟨rfl, rfl, rfl, rfl, trivial⟩ ⟨oet (congrArg (fun l => some (⟨57, 5, l⟩ : Ob)) hst.symm), rfl⟩)⟩
  ·
    refine ex ?_; refine sq ?_; refine rl ?_; refine o1 ?_; refine o1 ?_; refine nl ?_; refine rt ?_; have hkk : vs.take k = vs := List.take_of_length_le (by omega)
    have hkn : k = vs.length := by omega
    exact en (.inl rfl) rfl (pk1 (.one (.sl (trs := (vs.take k).flatMap (vtr true)) rfl rfl (by rw [List.take_of_length_le (by rw [vco_len, List.length_take]; omega)]; rfl) (by rw [vflat_len, List.length_take, Nat.min_eq_left hk])))) (by decide) (fun _ => by rw [hkk]; exact .inl ⟨rfl, nofr_vo vs⟩) (by rw [hkk, hkn]; rfl)
theorem p_Total {vs : List (Int × Rat)} {B : Nat} (hB : 2 + vs.length * (B + 1) ≤ 68719476736) (hzB : ∀ x ∈ vs, Sz B x.2) (hl : vs.length ≤ 1073741823) : Spec true Tryz.prog 17 [] [.one (.t (sV 57 false vs))] (Ret (qO (qsum (vs.map Prod.snd)))) := by
  refine fn0 Tryz.func17 rfl Tryz.ntmps17 rfl ttok rfl fun N w c0 h0 => ?_
  have h00 : ((0 : Int) : Rat) = qsum ((vs.take 0).map Prod.snd) := by simp [qsum]
  have hzs : ∀ x ∈ vs, Sz 68719476736 x.2 := fun x hx => (hzB x hx).mono (by have h9 : 0 < vs.length := List.length_pos_of_mem hx; have := Nat.mul_le_mul h9 (Nat.le_refl (B + 1)); omega)
  refine sq ?_; refine rl ?_; refine al 0 ?_; refine nl ?_; refine sq ?_; refine rl ?_; refine cak 1 (c_rWhole (z := 0) (by omega) (by omega)) ok46 ⟨a1 rfl, rfl⟩ ?_
  refine al 3 ?_; refine st ?_; refine nl ?_; refine sq ?_; refine sq ?_; refine rl ?_; (iterate 3 refine o1 ?_); refine nl ?_; refine bl ?_
  refine lp (γ := Nat) (fun k => frL [(2, .one (.pt 0 0)), (3, .one (.pt 1 0)), (7, .one (.t (sV 57 false vs))), (8, .one (tv (.int .i64 ((vs.length : Nat) : Int)))), (9, .one (tv (.int .i64 ((k : Nat) : Int))))]) (fun k => [(⟨36, 0, [tv (.bool false), tv (.slice none 0 0), tv (.bool false), tv (.slice none 0 0)]⟩ : Ob), ⟨36, 0, [tv (.bool (sgz (qsum ((vs.take k).map Prod.snd)).num)), .sl 2 0 (dg 4294967296 (qsum ((vs.take k).map Prod.snd)).num.natAbs).length, tv (.bool false), .sl 3 0 (dg 4294967296 (qsum ((vs.take k).map Prod.snd)).den).length]⟩, ⟨104, 1, (u32T (dg 4294967296 (qsum ((vs.take k).map Prod.snd)).num.natAbs)).map .t⟩, ⟨104, 1, (u32T (dg 4294967296 (qsum ((vs.take k).map Prod.snd)).den)).map .t⟩].map some) (fun k => k ≤ vs.length ∧ Sz (2 + k * (B + 1)) (qsum ((vs.take k).map Prod.snd))) (fun k => vs.length - k) 0 ⟨Nat.zero_le _, by rw [← h00]; exact (int_sz (z := 0) (by omega) (by omega)).mono (by omega)⟩ (su0 h0 [0, 3, 1, 2] _ _ (by decide) ⟨rfl, rfl, rfl, rfl, rfl, trivial⟩ ⟨oe rfl rfl, oe rfl (congrArg (fun q : Rat => some (⟨36, 0, [tv (.bool (sgz q.num)), .sl 1 0 (dg 4294967296 q.num.natAbs).length, tv (.bool false), .sl 2 0 (dg 4294967296 q.den).length]⟩ : Ob)) h00), oet (congrArg (fun q : Rat => some (⟨104, 1, (u32T (dg 4294967296 q.num.natAbs)).map .t⟩ : Ob)) h00), oet (congrArg (fun q : Rat => some (⟨104, 1, (u32T (dg 4294967296 q.den)).map .t⟩ : Ob)) h00), rfl⟩) fun k hk => ?_
  have hmul : k * (B + 1) ≤ vs.length * (B + 1) := Nat.mul_le_mul hk.1 (Nat.le_refl _)
  have hsz : Sz 68719476736 (qsum ((vs.take k).map Prod.snd)) := hk.2.mono (by omega)
  refine sq ?_; refine rl ?_; refine o1 ?_; refine nl ?_; refine sq ?_; refine cdp rfl (fun h1 => ?_) (fun h1 => ?_)
  ·
    refine sk ?_; refine sq ?_; refine bl ?_; refine sq ?_; refine rl ?_; refine o1 ?_; refine ldf (vtr false (nthV vs (k))) (vin_at false (by omega)) ?_
    refine al 4 ?_; refine st ?_; refine nl ?_; refine rl ?_; refine ld ?_; refine o1 ?_; refine ld ?_
    refine cak 5 (p_Add (a := .of (qsum ((vs.take k).map Prod.snd))) (b := .of (nthV vs k).2) (Qn.of hsz) (Qn.of (p := (nthV vs k).2) (hzs _ (nthV_mem (by omega))))) ok47 ⟨a1a rfl (.cons .t (.cons (.sl rfl rfl (take_self _ _ rfl) (ln_u32 _)) (.cons .t (.cons (.sl rfl rfl (take_self _ _ rfl) (ln_u32 _)) .nil)))), a1g rfl, rfl⟩ ?_
    refine st ?_; refine nl ?_; refine rl ?_; refine o1 ?_; refine WL.cast (t := 17) (u' := .int .i64 ((k + 1 : Nat) : Int)) rfl (cint (by omega)) ?_
    refine o1 ?_; refine nl ?_; have hst : (qsum ((vs.take (k + 1)).map Prod.snd)) = (qsum ((vs.take k).map Prod.snd)) + (nthV vs k).2 := by rw [take_v (by omega), List.map_append]; exact qsum_snoc _ _
    exact ⟨k + 1, by omega, ⟨by omega, by rw [hst]; exact (add_sz hk.2 (hzB _ (nthV_mem (by omega)))).mono (by rw [show (k + 1) * (B + 1) = k * (B + 1) + (B + 1) from Nat.succ_mul k (B + 1)]; omega)⟩, su0 h0 [0, 1, 5, 6] _ _ (by decide) ⟨rfl, rfl, rfl, rfl, rfl, trivial⟩ ⟨oe rfl rfl, oe rfl (congrArg (fun q : Rat => some (⟨36, 0, [tv (.bool (sgz q.num)), .sl 5 0 (dg 4294967296 q.num.natAbs).length, tv (.bool false), .sl 6 0 (dg 4294967296 q.den).length]⟩ : Ob)) hst.symm), oet (congrArg (fun q : Rat => some (⟨104, 1, (u32T (dg 4294967296 q.num.natAbs)).map .t⟩ : Ob)) hst.symm), oet (congrArg (fun q : Rat => some (⟨104, 1, (u32T (dg 4294967296 q.den)).map .t⟩ : Ob)) hst.symm), rfl⟩⟩
  ·
    refine ex ?_; refine sq ?_; refine rl ?_; refine ld ?_; refine st ?_; refine nl ?_; refine rt ?_; have hkk : vs.take k = vs := List.take_of_length_le (by omega)
    exact en (.inl rfl) rfl (pk1 (.agg (.cons (.id rfl) (.cons (.sl (trs := u32T (dg 4294967296 (qsum ((vs.take k).map Prod.snd)).num.natAbs)) rfl rfl (tk_u32 _) (ln_u32 _)) (.cons (.id rfl) (.cons (.sl (trs := u32T (dg 4294967296 (qsum ((vs.take k).map Prod.snd)).den)) rfl rfl (tk_u32 _) (ln_u32 _)) .nil)))))) (by decide) (fun _ => by rw [hkk]; exact nofr_q _) (by rw [hkk]; rfl)
theorem p_Balance {vs : List (Int × Rat)} {rest : List Tr} {B : Nat} (hB : 2 + vs.length * (B + 1) ≤ 68719476736) (hzB : ∀ x ∈ vs, Sz B x.2) (hl : vs.length ≤ 1073741823) : Spec true Tryz.prog 28 [] [.one (.ef (sV 57 false vs :: rest) 0)] (Ret (qO (qsum (vs.map Prod.snd)))) := by
  refine fn0 Tryz.func28 rfl Tryz.ntmps28 rfl ttok rfl fun N w c0 h0 => ?_
  refine sq ?_; refine rl ?_; refine al 0 ?_; refine nl ?_; refine sq ?_; refine sq ?_; refine rl ?_; refine o1 ?_; refine o1 ?_; refine nl ?_; refine cdf rfl ?_; refine sk ?_; refine sq ?_
  refine rl ?_; (iterate 4 refine o1 ?_); refine ldf ([(sV 57 false vs)]) rfl ?_; refine cak 1 (p_Total hB hzB hl) ok17 ⟨a1 rfl, rfl⟩ ?_; refine st ?_; refine nl ?_; refine rt ?_
  exact en (.inl rfl) rfl (pk1 (.agg (.cons (.id rfl) (.cons (.sl (trs := u32T (dg 4294967296 (qsum (vs.map Prod.snd)).num.natAbs)) rfl rfl (tk_u32 _) (ln_u32 _)) (.cons (.id rfl) (.cons (.sl (trs := u32T (dg 4294967296 (qsum (vs.map Prod.snd)).den)) rfl rfl (tk_u32 _) (ln_u32 _)) .nil)))))) (by decide) (fun _ => nofr_q _) rfl
theorem p_Rows {vs : List (Int × Rat)} {rest : List Tr} (hz : ∀ x ∈ vs, Sz 68719476736 x.2) (hl : vs.length ≤ 1073741823) : Spec true Tryz.prog 16 [] [.one (.ef (sV 57 false vs :: rest) 0)] (Ret (.one (.t (sO 57 vs)))) := by
  refine fn0 Tryz.func16 rfl Tryz.ntmps16 rfl ttok rfl fun N w c0 h0 => ?_
  refine sq ?_; refine rl ?_; refine o1 ?_; refine nl ?_; refine sq ?_; refine sq ?_; refine rl ?_; refine o1 ?_; refine o1 ?_; refine nl ?_; refine cdf rfl ?_; refine sk ?_; refine sq ?_; refine rl ?_
  (iterate 3 refine o1 ?_); refine cak 0 (p_rows hz hl) ok45 ⟨a1o rfl .ef, rfl⟩ ?_; refine o1 ?_; refine nl ?_; refine rt ?_
  exact en (.inl rfl) rfl (pk1 (.one (.sl (trs := vs.flatMap (vtr true)) rfl rfl (take_self _ _ (vflat_len true vs)) (vflat_len true vs)))) (by decide) (fun _ => nofr_sO _ _) rfl
theorem p_New : Spec true Tryz.prog 9 [] [] (Ret (.one (.t (.p true 76 [sR 57 [], .v (.int .i64 0), .v (.bool false)])))) := by
  refine fn0 Tryz.func9 rfl Tryz.ntmps9 rfl ttok rfl fun N w c0 h0 => ?_
  refine sq ?_; refine rl ?_; refine o1 ?_; refine nl ?_; refine sq ?_; refine rl ?_; refine o1 ?_; refine bx 0 ?_
  refine WL.sub ((nro (j := 0) (key := 1) (e := 57) (z := 5) rfl rfl rfl (.sl (.id (.id .nil)))).trans (cls (j := 0) (k := 1) (p := 0) (n := 0) (trs := []) rfl rfl rfl rfl rfl rfl rfl rfl)) ?_
  refine o1 ?_; refine nl ?_; refine rt ?_
  exact en (.inl rfl) rfl (pk1 (.one (.pt (k := 0) (trs := [sR 57 [], .v (.int .i64 0), .v (.bool false)]) rfl))) (by decide) (fun _ => ⟨rfl, .inl ⟨rfl, trivial⟩, trivial, trivial, trivial⟩) rfl
end Go.Proofs.YtogaallfhifngaaGreat
namespace Go.Proofs.YtogaallfhifngaaGreat
open Go Go.RowKit
theorem p_IndexFunc {vs : List (Int × Rat)} {dl : Int × Rat → Bool} {fd : FuncId} {fst caps : List Tr} (hok : CallOk Tryz.prog fd) (hd : ∀ x ∈ vs, Spec true Tryz.prog fd [] (capF fst ++ [.agg ((vtr false x).map .t)] ++ capF caps) (Ret (.one (tv (.bool (dl x)))))) (hl : vs.length ≤ 1073741823) : Spec true Tryz.prog 92 [] [.one (.t (sV 57 false vs)), .one (.t (.f fd fst caps))] (Ret (.one (tv (.int .i64 (if ixV dl vs = vs.length then -1 else (ixV dl vs : Int)))))) := by
  refine fn0 Tryz.func92 rfl Tryz.ntmps92 rfl ttok rfl fun N w c0 h0 => ?_
  refine sq ?_; refine rl ?_; refine o1 ?_; refine nl ?_; refine sq ?_; refine sq ?_; refine rl ?_; (iterate 3 refine o1 ?_); refine nl ?_; refine bl ?_
  refine lp (γ := Nat) (fun k => frL [(0, .one (.t (sV 57 false vs))), (1, .one (.t (.f fd fst caps))), (7, .one (tv (.int .i64 ((vs.length : Nat) : Int)))), (8, .one (tv (.int .i64 ((k : Nat) : Int))))]) (fun k => [].map some) (fun k => k ≤ vs.length ∧ k ≤ ixV dl vs) (fun k => vs.length - k) 0 (⟨Nat.zero_le _, Nat.zero_le _⟩) (su0 h0 [] _ _ (by decide) ⟨rfl, rfl, rfl, rfl, trivial⟩ rfl) fun k hk => ?_
  refine sq ?_; refine rl ?_; refine o1 ?_; refine nl ?_; refine sq ?_; refine cdp rfl (fun h1 => ?_) (fun h1 => ?_)
  ·
    refine sk ?_; refine sq ?_; refine bl ?_; refine sq ?_; refine rl ?_; refine o1 ?_; refine o1 ?_; refine nl ?_; refine sq ?_; refine rl ?_; (iterate 4 refine o1 ?_)
    refine ldf (vtr false (nthV vs (k))) (vin_at false (by omega)) ?_
    refine ce 0 [.agg ((vtr false (nthV vs k)).map .t)] rfl (hd (nthV vs k) (nthV_mem (by omega))) hok ⟨rfl, rfl⟩ ?_
    refine nl ?_; refine cdq rfl (fun h2 => ?_) (fun h2 => ?_)
    ·
      refine sq ?_; refine rl ?_; refine o1 ?_; refine o1 ?_; refine nl ?_; refine rt ?_; have hx9 := (ixV_step hk.2 (by omega)).1 h2
      exact en (.inl rfl) rfl (pk1 (pkv _)) (by decide) (fun _ => trivial) (congrArg (fun z => FV.one (tv (.int .i64 z))) (by rw [hx9, if_neg (by omega)]))
    ·
      refine sk ?_; refine rl ?_; refine o1 ?_; refine WL.cast (t := 18) (u' := .int .i64 ((k + 1 : Nat) : Int)) rfl (cint (by omega)) ?_
      refine o1 ?_; refine nl ?_; exact ⟨k + 1, by omega, ⟨by omega, (ixV_step hk.2 (by omega)).2 h2⟩, su0 h0 [] _ _ (by decide) ⟨rfl, rfl, rfl, rfl, trivial⟩ rfl⟩
  ·
    refine ex ?_; refine sq ?_; refine rl ?_; refine o1 ?_; refine nl ?_; refine rt ?_; have hx9 := ixV_le (dl := dl) vs
    exact en (.inl rfl) rfl (pk1 (pkv _)) (by decide) (fun _ => trivial) (congrArg (fun z => FV.one (tv (.int .i64 z))) (by rw [if_pos (by omega)]))
theorem p_Index_hit {vs : List (Int × Rat)} {dl : Int × Rat → Bool} {fd : FuncId} {fst caps : List Tr} (hok : CallOk Tryz.prog fd) (hd : ∀ x ∈ vs, Spec true Tryz.prog fd [] (capF fst ++ [.agg ((vtr false x).map .t)] ++ capF caps) (Ret (.one (tv (.bool (dl x)))))) (hl : vs.length ≤ 1073741823) (hix : ixV dl vs < vs.length) : Spec true Tryz.prog 92 [] [.one (.t (sV 57 false vs)), .one (.t (.f fd fst caps))] (Ret (.one (tv (.int .i64 ((ixV dl vs : Nat) : Int))))) := by
  have h9 := p_IndexFunc hok hd hl
  rwa [if_neg (by omega)] at h9
theorem p_Index_none {vs : List (Int × Rat)} {dl : Int × Rat → Bool} {fd : FuncId} {fst caps : List Tr} (hok : CallOk Tryz.prog fd) (hd : ∀ x ∈ vs, Spec true Tryz.prog fd [] (capF fst ++ [.agg ((vtr false x).map .t)] ++ capF caps) (Ret (.one (tv (.bool (dl x)))))) (hl : vs.length ≤ 1073741823) (hix : ixV dl vs = vs.length) : Spec true Tryz.prog 92 [] [.one (.t (sV 57 false vs)), .one (.t (.f fd fst caps))] (Ret (.one (tv (.int .i64 (-1))))) := by
  have h9 := p_IndexFunc hok hd hl
  rwa [if_pos hix] at h9
theorem p_DeleteFunc {vs : List (Int × Rat)} {dl : Int × Rat → Bool} {fd : FuncId} {fst caps : List Tr} (hok : CallOk Tryz.prog fd) (hd : ∀ x ∈ vs, Spec true Tryz.prog fd [] (capF fst ++ [.agg ((vtr false x).map .t)] ++ capF caps) (Ret (.one (tv (.bool (dl x)))))) (hl : vs.length ≤ 1073741823) : Spec false Tryz.prog 67 [⟨57, 5, vcl vs⟩] [.one (.sl 0 0 vs.length), .one (.t (.f fd fst caps))] (Rt [⟨57, 5, (swept vs (keepV dl vs)).map .t⟩] (.one (.sl 0 0 (keepV dl vs).length))) := by
  refine fnL Tryz.func67 rfl Tryz.ntmps67 rfl ttok rfl fun N M w c0 h0 => ?_
  have hix0 := ixV_le (dl := dl) vs
  rcases Nat.lt_or_ge (ixV dl vs) vs.length with hix | hix
  ·
    refine sq ?_; refine rl ?_; refine o1 ?_; refine nl ?_; refine sq ?_; refine rl ?_; refine o1 ?_; refine o1 ?_
    refine ca (p_Index_hit hok hd hl hix) ok92 ⟨a1o rfl (.sl rfl rfl (take_self _ _ rfl) (vflat_len false vs)), a1 rfl, rfl⟩ (.one (tv (.int .i64 ((ixV dl vs : Nat) : Int)))) ?_; refine o1 ?_
    refine nl ?_; refine sq ?_; refine sq ?_; refine rl ?_; refine o1 ?_; refine o1 ?_; refine nl ?_; refine cdp rfl (fun h1 => ?_) (fun h1 => ?_)
    ·
      exact absurd h1 (by omega)
    ·
      refine sk ?_; refine sq ?_; refine sq ?_; refine rl ?_; refine o1 ?_; refine o1 ?_; refine WL.cast (t := 15) (u' := .int .i64 ((ixV dl vs + 1 : Nat) : Int)) rfl (cint (by omega)) ?_
      refine o1 ?_; refine nl ?_; refine bl ?_
      refine lp (γ := Nat × Nat × List (Int × Rat)) (fun s => frL [(0, .one (.sl 0 0 vs.length)), (1, .one (.t (.f fd fst caps))), (5, .one (tv (.int .i64 ((s.1 : Nat) : Int)))), (6, .one (tv (.int .i64 ((s.2.1 : Nat) : Int))))]) (fun s => [({ t := 57, z := 5, l := vcl s.2.2 } : Ob)].map some) (fun s => s.1 ≤ s.2.1 ∧ s.2.1 ≤ vs.length ∧ s.2.2.length = vs.length ∧ s.2.2.take s.1 = (vs.take s.2.1).filter (fun x => !dl x) ∧ ∀ m, s.2.1 ≤ m → nthV s.2.2 m = nthV vs m) (fun s => vs.length - s.2.1) (ixV dl vs, ixV dl vs + 1, vs) ⟨by dsimp only; omega, by dsimp only; omega, rfl, del_start hix, fun _ _ => rfl⟩ (suL h0 [0] _ _ (by decide) rfl ⟨rfl, rfl, rfl, rfl, trivial⟩ ⟨oet rfl, rfl⟩) ?_
      rintro ⟨i, j, us⟩ ⟨hij, hj, hul, hpre, hsuf⟩; dsimp only at hij hj hul hpre hsuf ⊢; refine sq ?_; refine sq ?_; refine rl ?_; (iterate 4 refine o1 ?_); refine nl ?_
      refine cdp rfl (fun h2 => ?_) (fun h2 => ?_)
      ·
        refine sk ?_; refine sq ?_; refine bl ?_; refine sq ?_; have hsj : nthV us j = nthV vs j := hsuf j (Nat.le_refl _)
        refine rl ?_; (iterate 3 refine o1 ?_); refine lda (row_at (us := us) (k := j) (by omega)) ?_
        refine al 1 ?_; refine st ?_; refine nl ?_; refine sq ?_; refine rl ?_; refine o1 ?_; refine ld ?_
        refine ce 2 [.agg ((vtr false (nthV us j)).map .t)] rfl (hd (nthV us j) (by rw [hsj]; exact nthV_mem (by omega))) hok ⟨rfl, rfl⟩ ?_
        refine WL.splitb (t := 28) rfl (fun h3 => ?_) (fun h3 => ?_)
        ·
          refine o1 ?_; refine nl ?_; refine cdf rfl ?_; refine sk ?_; refine rl ?_; refine o1 ?_; refine o1 ?_
          refine WL.cast (t := 21) (u' := .int .i64 ((j + 1 : Nat) : Int)) rfl (cint (by omega)) ?_
          refine o1 ?_; refine nl ?_
          exact ⟨(i, j + 1, us), by dsimp only; omega, ⟨by dsimp only; omega, by dsimp only; omega, hul, by dsimp only; exact del_drop hpre (by omega) (by rw [← hsj]; exact h3), fun m hm => hsuf m (by dsimp only at hm; omega)⟩, suL h0 [0] _ _ (by decide) rfl ⟨rfl, rfl, rfl, rfl, trivial⟩ ⟨oet rfl, rfl⟩⟩
        ·
          refine o1 ?_; refine nl ?_; refine cdt rfl ?_; refine sq ?_; refine rl ?_; refine o1 ?_; refine o1 ?_; refine ld ?_; refine o1 ?_
          refine sto (put_v (us := us) (k := i) (x := ((nthV us (j)).1, (nthV us (j)).2)) (by omega)) (row_le (us := us) (k := i) (by omega)) ?_
          refine nl ?_; refine rl ?_; refine o1 ?_; refine o1 ?_; refine WL.cast (t := 35) (u' := .int .i64 ((i + 1 : Nat) : Int)) rfl (cint (by omega)) ?_
          refine o1 ?_; refine nl ?_; refine rl ?_; refine o1 ?_; refine o1 ?_; refine WL.cast (t := 21) (u' := .int .i64 ((j + 1 : Nat) : Int)) rfl (cint (by omega)) ?_
          refine o1 ?_; refine nl ?_
          exact ⟨(i + 1, j + 1, us.set i (nthV us j)), by dsimp only; omega, ⟨by dsimp only; omega, by dsimp only; omega, by dsimp only; rw [List.length_set]; exact hul, by dsimp only; rw [hsj]; exact del_keep hpre (by omega) (by rw [← hsj]; exact h3) (by omega), fun m hm => by dsimp only at hm ⊢; rw [nth_ne (by omega)]; exact hsuf m (by omega)⟩, suL h0 [0] _ _ (by decide) rfl ⟨rfl, rfl, rfl, rfl, trivial⟩ ⟨oet rfl, rfl⟩⟩
      ·
        refine ex ?_; refine sq ?_; refine rl ?_; (iterate 3 refine o1 ?_); have hF : us.take i = keepV dl vs := by rw [hpre, List.take_of_length_le (by omega)]; rfl
        refine clear (o := 0 + i * 5) (n := vs.length - i) (z := 5) (zz := .agg zV.toArray) (l := vcl us) (l' := (swept vs (keepV dl vs)).map .t) (by rw [vcl_len]; omega) ((by rw [← hul] : putA (vcl us) (0 + i * 5) ((zRow zV (vs.length - i)).map tv) = putA (vcl us) (0 + i * 5) ((zRow zV (us.length - i)).map tv)).trans (swept_end hul (by omega) hF)) ?_
        refine nl ?_; refine sq ?_; refine rl ?_; (iterate 4 refine o1 ?_); refine nl ?_; refine rt ?_; have hFl : (keepV dl vs).length = i := by rw [← hF, List.length_take]; omega
        exact enL (lent' := [⟨57, 5, (swept vs (keepV dl vs)).map .t⟩]) (.inl rfl) rfl (pk1 (.one (.rf rfl rfl))) (by decide) (fun _ h => by cases h) ⟨⟨rfl, rfl⟩, trivial⟩ ⟨rfl, trivial⟩ ⟨refC_t _, trivial⟩ (fun h => by cases h) ⟨rfl, by rw [hFl]⟩
  ·
    replace hix : ixV dl vs = vs.length := by omega
    refine sq ?_; refine rl ?_; refine o1 ?_; refine nl ?_; refine sq ?_; refine rl ?_; refine o1 ?_; refine o1 ?_
    refine ca (p_Index_none hok hd hl hix) ok92 ⟨a1o rfl (.sl rfl rfl (take_self _ _ rfl) (vflat_len false vs)), a1 rfl, rfl⟩ (.one (tv (.int .i64 (-1)))) ?_; refine o1 ?_; refine nl ?_; refine sq ?_
    refine sq ?_; refine rl ?_; refine o1 ?_; refine o1 ?_; refine nl ?_; refine cdp rfl (fun h4 => ?_) (fun h4 => ?_)
    ·
      refine sq ?_; refine rl ?_; refine o1 ?_; refine o1 ?_; refine nl ?_; refine rt ?_
      exact enL (lent' := [⟨57, 5, (swept vs (keepV dl vs)).map .t⟩]) (.inl rfl) rfl (pk1 (.one (.rf rfl rfl))) (by decide) (fun _ h => by cases h) ⟨⟨rfl, rfl⟩, trivial⟩ ⟨congrArg (fun l => some (⟨57, 5, l⟩ : Ob)) (swept_all (keep_all hix)), trivial⟩ ⟨refC_t _, trivial⟩ (fun h => by cases h) ⟨rfl, by rw [keep_all hix]⟩
    ·
      exact absurd h4 (by omega)
theorem p_CloneS {vs : List (Int × Rat)} (hl : vs.length ≤ 1073741823) : Spec false Tryz.prog 52 [⟨57, 5, vcl vs⟩] [.one (.sl 0 0 vs.length)] (Rt [⟨57, 5, vcl vs⟩] (.one (.t (sR 57 vs)))) := by
  refine fnL Tryz.func52 rfl Tryz.ntmps52 rfl ttok rfl fun N M w c0 h0 => ?_
  refine sq ?_; refine rl ?_; refine o1 ?_; refine nl ?_; refine sq ?_; refine sq ?_; refine rl ?_; refine o1 ?_; refine nq (fun hn0 => ?_) ?_
  ·
    refine nl ?_; refine cdt rfl ?_; refine sq ?_; refine rl ?_; refine o1 ?_; refine nl ?_; refine rt ?_; have hv0 : vs = [] := List.eq_nil_of_length_eq_zero hn0
    exact enL (lent' := [⟨57, 5, vcl vs⟩]) (.inl rfl) rfl (pk1 (.one (.nil (t := 57) (z := 5)))) (by decide) (fun _ h => by cases h) ⟨⟨rfl, rfl⟩, trivial⟩ ⟨rfl, trivial⟩ ⟨refC_t _, trivial⟩ (fun h => by cases h) ⟨rfl, by rw [hv0]; rfl⟩
  ·
    refine nl ?_; refine cdf rfl ?_; refine sk ?_; refine sq ?_; refine rl ?_; refine bs0 1 ?_; refine o1 ?_
    refine w_app (j := 2) (n := 0) (m := vs.length) (news := vcl vs) ttok rfl rfl rfl rfl (.sl rfl rfl) (.sl rfl (List.take_of_length_le (Nat.le_of_eq (vcl_len vs))) (vcl_len vs)) (rd_v vs) (lone_v vs) rfl (by omega) (by omega) ?_
    refine o1 ?_; refine nl ?_; refine rt ?_
    exact enL (lent' := [⟨57, 5, vcl vs⟩]) (.inl rfl) rfl (pk1 (.one (.sl (trs := vs.flatMap (vtr false)) rfl rfl (by rw [List.nil_append, Nat.zero_add]; exact List.take_of_length_le (Nat.le_of_eq (vcl_len vs))) (by rw [vflat_len, Nat.zero_add])))) (by decide) (by simp) ⟨⟨rfl, rfl⟩, trivial⟩ ⟨rfl, trivial⟩ ⟨refC_t _, trivial⟩ (fun h => by cases h) ⟨rfl, by rw [Nat.zero_add]; rfl⟩
theorem p_sweep {t0 : Nat} {rest : List Tr} {vs : List (Int × Rat)} {dl : Int × Rat → Bool} {fd : FuncId} {fst caps : List Tr} (hok : CallOk Tryz.prog fd) (hd : ∀ x ∈ vs, Spec true Tryz.prog fd [] (capF fst ++ [.agg ((vtr false x).map .t)] ++ capF caps) (Ret (.one (tv (.bool (dl x)))))) (hl : vs.length ≤ 1073741823) : Spec false Tryz.prog 43 [⟨t0, 0, .t (sR 57 vs) :: rest.map .t⟩] [.one (.pt 0 0), .one (.t (.f fd fst caps))] (Rt [⟨t0, 0, .t (sR 57 (keepV dl vs)) :: rest.map .t⟩] (.tup [])) := by
  refine fnL Tryz.func43 rfl Tryz.ntmps43 rfl ttok rfl fun N M w c0 h0 => ?_
  refine WP.sub (opn (j := 0) (key := 1) (p := 0) (e := 57) (z := 5) (n := vs.length) (trs := vs.flatMap (vtr false)) rfl rfl rfl rfl rfl) ?_; refine rl ?_; (iterate 4 refine o1 ?_); refine ld ?_
  refine o1 ?_; refine clr [1] (p_DeleteFunc hok hd hl) ok67 ⟨oet rfl, rfl⟩ ⟨rfl, rfl, rfl⟩ (ok := [some ⟨57, 5, (swept vs (keepV dl vs)).map .t⟩]) ⟨oet rfl, rfl⟩ ?_; refine o1 ?_; refine o1 ?_
  refine sto (o := 0) (us := [.sl 1 0 (keepV dl vs).length]) (l := .sl 1 0 vs.length :: rest.map .t) rfl (by simp) ?_
  refine WL.sub (cls (j := 0) (k := 1) (p := 0) (n := (keepV dl vs).length) (trs := (keepV dl vs).flatMap (vtr false)) rfl rfl rfl rfl rfl (swept_take _ _) (vflat_len _ _) rfl) ?_; refine nl ?_
  exact enL (lent' := [⟨t0, 0, .t (sR 57 (keepV dl vs)) :: rest.map .t⟩]) (.inr rfl) rfl pk0 (by decide) (fun _ h => by cases h) ⟨⟨rfl, rfl⟩, trivial⟩ ⟨rfl, trivial⟩ ⟨refC_t (sR _ _ :: rest), trivial⟩ (fun h => by cases h) ⟨rfl, rfl⟩
end Go.Proofs.YtogaallfhifngaaGreat
namespace Go.Proofs.YtogaallfhifngaaGreat
open Go Go.RowKit
theorem p_Min2 {a : Fr4} {p v : Rat} (ha : Qn a p) (hv : Sz 68719476736 v) : Spec false Tryz.prog 64 [] [qF (.of v), .one (.t (sQ false [a]))] (Ret (qF (.of (qmin v [p])))) := by
  have h := p_Min (a := .of v) (xs := [a]) (Qn.of hv) (fun x hx => by rw [List.mem_singleton] at hx; rw [hx]; exact ha.1) (by simp)
  have e : [a].map Fr4.q = [p] := by rw [← ha.2]; rfl
  rwa [e] at h
theorem p_take {t0 i : Nat} {rest : List Tr} {vs : List (Int × Rat)} {a : Fr4} {p : Rat} (ha : Qn a p) (hi : i < vs.length) (hv : Sz 68719476736 (nthV vs (i)).2) (hl : vs.length ≤ 1073741823) : Spec false Tryz.prog 40 [⟨t0, 0, .sl 1 0 vs.length :: rest.map .t⟩, ⟨57, 5, vcl vs⟩] [.one (.pt 0 0), .one (tv (.int .i64 ((i : Nat) : Int))), qF a] (Rt [⟨t0, 0, .sl 1 0 vs.length :: rest.map .t⟩, ⟨57, 5, vcl (vs.set (i) ((nthV vs (i)).1, ((nthV vs (i)).2 - (qmin (nthV vs (i)).2 [p]))))⟩] (.agg ((vtr false ((nthV vs (i)).1, (qmin (nthV vs (i)).2 [p]))).map .t))) := by
  refine fnL Tryz.func40 rfl Tryz.ntmps40 rfl ttok rfl fun N M w c0 h0 => ?_
  have hn : Sz 68719476736 (qmin (nthV vs (i)).2 [p]) := qmin_sz hv fun q hq => by rw [List.mem_singleton] at hq; rw [hq]; exact ha.sz
  have hix : i < vs.length := hi
  refine sq ?_; refine rl ?_; refine bx 2 ?_; refine al 3 ?_; refine nl ?_; refine sq ?_; refine rl ?_; (iterate 3 refine o1 ?_); refine ld ?_; (iterate 3 refine o1 ?_); refine nl ?_
  refine md (γ := Unit) (fun _ => frL [(6, .one (.pt 2 0)), (7, .one (.pt 1 (0 + i * 5))), (8, .one (.pt 3 0))]) (fun _ => ([⟨t0, 0, .sl 1 0 vs.length :: rest.map .t⟩, ⟨57, 5, vcl vs⟩, ⟨57, 0, [tv (.int .i64 0), tv (.bool false), tv (.slice none 0 0), tv (.bool false), tv (.slice none 0 0)]⟩, ⟨36, 0, ((Fr4.of (qmin (nthV vs (i)).2 [p])).tr false).map .t⟩] : List Ob).map some) (fun _ => True) ?_ fun _ _ => ?_
  ·
    refine rd [0, 1, 2, 3] (fun i => [8].contains i) mixed ?_
    refine dv 0 ?_; refine dv 1 ?_; refine dv 2 ?_; refine dlda 3 (row_q (us := vs) (k := i) (by omega)) ?_
    refine dld 4 ?_; refine WO.two (i := 5) (j := 7) (by kernel_rfl) ?_ ?_
    ·
      refine o_bs (key := 4) 5 rfl rfl ⟨rfl, rfl, rfl, rfl, trivial⟩ ?_
      refine dfz (i := 20) (k := 4) (t := 36) (t' := 45) (z := 4) (n := 1) (l := [a].flatMap (Fr4.tr false)) rfl rfl rfl rfl (.one .sl) (by rfl) (by rfl) ?_
      refine WO.two (i := 6) (j := 7) (by kernel_rfl) ?_ ?_
      ·
        refine oca 6 rfl (p_Min2 ha hv) ok64 ⟨a1g rfl, a1 rfl, rfl⟩ (qF (.of (qmin (nthV vs (i)).2 [p]))) ?_; refine d_al (key := 5) 7 (by kernel_rfl) rfl rfl ttok rfl ⟨rfl, rfl, rfl, rfl, trivial⟩ ?_
        refine dst 8 ?_; refine dz0 ?_; exact ⟨(), trivial, suL h0 [0, 1, 3, 5] _ _ (by decide) rfl ⟨rfl, rfl, rfl, trivial⟩ ⟨oel rfl rfl, oet rfl, oe rfl rfl, oet rfl, rfl⟩⟩
      ·
        refine o_al (key := 5) 7 rfl rfl ttok rfl ⟨rfl, rfl, rfl, rfl, trivial⟩ ?_; refine dca 6 rfl (p_Min2 ha hv) ok64 ⟨a1g rfl, a1 rfl, rfl⟩ (qF (.of (qmin (nthV vs (i)).2 [p]))) ?_; refine dst 8 ?_
        refine dz0 ?_; exact ⟨(), trivial, suL h0 [0, 1, 3, 5] _ _ (by decide) rfl ⟨rfl, rfl, rfl, trivial⟩ ⟨oel rfl rfl, oet rfl, oe rfl rfl, oet rfl, rfl⟩⟩
    ·
      refine o_al (key := 4) 7 rfl rfl ttok rfl ⟨rfl, rfl, rfl, rfl, trivial⟩ ?_; refine d_bs (key := 5) 5 (by kernel_rfl) rfl rfl ttok rfl ⟨rfl, rfl, rfl, rfl, trivial⟩ ?_
      refine dfz (i := 20) (k := 5) (t := 36) (t' := 45) (z := 4) (n := 1) (l := [a].flatMap (Fr4.tr false)) rfl rfl rfl rfl (.one .sl) (by rfl) (by rfl) ?_
      refine dca 6 rfl (p_Min2 ha hv) ok64 ⟨a1g rfl, a1 rfl, rfl⟩ (qF (.of (qmin (nthV vs (i)).2 [p]))) ?_; refine dst 8 ?_; refine dz0 ?_
      exact ⟨(), trivial, suL h0 [0, 1, 3, 4] _ _ (by decide) rfl ⟨rfl, rfl, rfl, trivial⟩ ⟨oel rfl rfl, oet rfl, oe rfl rfl, oet rfl, rfl⟩⟩
  refine sq ?_; refine rd [0, 1, 2, 3] (fun i => [7, 8, 9].contains i) mixed ?_
  refine dv 0 ?_; refine dv 1 ?_; refine dv 2 ?_; refine dv 3 ?_; refine dlda 4 (row_q (us := vs) (k := i) (by omega)) ?_
  refine dld 5 ?_
  refine dca 6 rfl (p_Sub (Qn.of (p := (nthV vs (i)).2) hv) (Qn.of (p := (qmin (nthV vs (i)).2 [p])) hn)) ok42 ⟨a1g rfl, a1g rfl, rfl⟩ (qF (.of ((nthV vs (i)).2 - (qmin (nthV vs (i)).2 [p])))) ?_
  refine d_v 7 (by kernel_rfl) rfl rfl ttok rfl (by trivial) ?_ (fun h => by first | rfl | cases h)
  refine d_v 8 (by kernel_rfl) rfl rfl ttok rfl (by trivial) ?_ (fun h => by first | rfl | cases h)
  refine dsto 9 (put_q (us := vs) (k := i) (q := ((nthV vs (i)).2 - (qmin (nthV vs (i)).2 [p]))) (by omega)) (row_le4 (us := vs) (k := i) (by omega)) ?_
  refine dz0 ?_; refine sq ?_; refine rd [0, 1, 2, 3] (fun i => [6].contains i) mixed ?_
  refine dv 0 ?_; refine dv 1 ?_; refine dv 2 ?_
  refine dldo 3 (row_y (us := (vs.set (i) ((nthV vs (i)).1, ((nthV vs (i)).2 - (qmin (nthV vs (i)).2 [p]))))) (k := i) (by rw [List.length_set]; omega)) ?_
  refine dld 4 ?_; refine dv 5 ?_; refine dst 6 ?_; refine dz0 ?_; refine rt ?_
  exact enL (lent' := [⟨t0, 0, .sl 1 0 vs.length :: rest.map .t⟩, ⟨57, 5, vcl (vs.set (i) ((nthV vs (i)).1, ((nthV vs (i)).2 - (qmin (nthV vs (i)).2 [p]))))⟩]) (.inl rfl) rfl (pk1 (.agg (.cons (.id rfl) (.cons (.id rfl) (.cons (.id rfl) (.cons (.id rfl) (.cons (.id rfl) .nil))))))) (by decide) (fun _ h => by cases h) ⟨⟨rfl, rfl⟩, ⟨rfl, rfl⟩, trivial⟩ ⟨rfl, rfl, trivial⟩ ⟨refC_t rest, refC_t _, trivial⟩ (fun h => by cases h) ⟨rfl, by rw [nthV_set hi]; rfl⟩
end Go.Proofs.YtogaallfhifngaaGreat
