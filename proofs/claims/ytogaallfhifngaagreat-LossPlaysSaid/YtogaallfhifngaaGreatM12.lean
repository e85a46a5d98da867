/- Part 12 of a proof: A5 to B8. -/
import Derived.Test.YtogaallfhifngaaGreatM11
import Derived.Test.YtogaallfhifngaaGreatM8
import Derived.Test.YtogaallfhifngaaGreatM7
import Derived.Test.YtogaallfhifngaaGreatM9
import Derived.Test.YtogaallfhifngaaGreatM10
set_option linter.unusedVariables false
set_option linter.unusedSimpArgs false
/- Walks of the third road: tallageref04. Printed by a program. -/
namespace Go.Proofs.YtogaallfhifngaaGreat
open Go Go.RowKit
set_option maxRecDepth 100000 in
theorem c_same4 {a b : Zi} {k k' : Int} (ha : Zn a k) (hb : Zn b k') : Spec true Tryz.prog 79 [] [gF a, gF b] (Ret (.one (tv (.bool (decide (k = k')))))) := by
  refine fn0 Tryz.func79 rfl Tryz.ntmps79 rfl ttok rfl fun N w c0 h0 => ?_
  refine sq ?_; refine rl ?_; refine bx 0 ?_; refine bx 1 ?_; refine o1 ?_; refine nl ?_; refine sq ?_; refine rl ?_; refine ld ?_; refine ld ?_
  refine ca (c_Cmp3 ha hb) ok95 ⟨a1g rfl, a1g rfl, rfl⟩ (.one (tv (.int .i64 ((k) - (k')).sign))) ?_; refine o1 ?_; refine o1 ?_; refine nl ?_; refine rt ?_
  exact en (.inl rfl) rfl (pk1 (pkv _)) (by decide) (fun _ => trivial) (congrArg (fun z => FV.one (tv (.bool z))) (sign_dec _ _))
set_option maxRecDepth 100000 in
theorem c_Right4 {a : Fr4} {p : Rat} (ha : Qn a p) : Spec true Tryz.prog 60 [] [qF a] (Ret (.one (tv (.bool (rightQ a.s a.x a.t a.y))))) := by
  refine fn0 Tryz.func60 rfl Tryz.ntmps60 rfl ttok rfl fun N w c0 h0 => ?_
  have hzl := (zn_n ha).len
  have hzd := (zn_d ha).len
  refine sq ?_; refine rl ?_; refine bx 0 ?_; refine o1 ?_; refine nl ?_; refine sq ?_; refine rl ?_; refine o1 ?_; refine ld ?_
  refine ca (c_Right3 (zn_n ha)) ok78 ⟨a1g rfl, rfl⟩ (.one (tv (.bool (rightI a.s a.x)))) ?_; refine o1 ?_; refine WL.splitb (t := 6) rfl (fun h1 => ?_) (fun h1 => ?_)
  ·
    refine o1 ?_; refine ld ?_; refine ca (c_Right3 (zn_d ha)) ok78 ⟨a1g rfl, rfl⟩ (.one (tv (.bool (rightI a.t a.y)))) ?_; refine o1 ?_; refine o1 ?_
    refine WL.splitb (t := 11) rfl (fun h2 => ?_) (fun h2 => ?_)
    ·
      refine o1 ?_; refine ld ?_; refine ca (c_Sign3 (zn_d ha)) ok70 ⟨a1g rfl, rfl⟩ (.one (tv (.int .i64 ((zin a.t a.y)).sign))) ?_; (iterate 3 refine o1 ?_)
      refine WL.split (t := 17) rfl (fun h3 => ?_) (fun h3 => ?_)
      ·
        refine o1 ?_; refine ld ?_; refine o1 ?_; refine ld ?_; have s3 : 0 < zin a.t a.y := Int.sign_pos_iff.1 h3
        have hn4 := gcd_len (k := (zin a.s a.x)) (k' := (zin a.t a.y)) (by omega)
        refine ca (c_Gcd3 (zn_n ha) (zn_d ha)) ok80 ⟨a1g rfl, a1g rfl, rfl⟩ (kF (((Int.gcd (zin a.s a.x) (zin a.t a.y) : Nat) : Int))) ?_; have hn5 := of_len (n := (1 : Int)) (by omega) (by omega)
        refine ca (c_Of3 (n := (1 : Int)) (by omega) (by omega)) ok38 ⟨a1 rfl, rfl⟩ (kF ((1 : Int))) ?_
        refine ca (c_same4 (Zn.of (k := ((Int.gcd (zin a.s a.x) (zin a.t a.y) : Nat) : Int)) (by omega)) (Zn.of (k := (1 : Int)) (by omega))) ok79 ⟨a1g rfl, a1g rfl, rfl⟩ (.one (tv (.bool (decide ((((Int.gcd (zin a.s a.x) (zin a.t a.y) : Nat) : Int)) = ((1 : Int))))))) ?_
        refine o1 ?_; refine o1 ?_; refine nl ?_; refine rt ?_
        exact en (.inl rfl) rfl (pk1 (pkv _)) (by decide) (fun _ => trivial) (congrArg (fun z => FV.one (tv (.bool z))) (by simp [rightQ, h1, h2, s3, gcd_dec]))
      ·
        (iterate 7 refine no_ ?_); refine o1 ?_; refine o1 ?_; refine nl ?_; refine rt ?_; have s3 : ¬ (0 < zin a.t a.y) := fun h => h3 (Int.sign_pos_iff.2 h)
        exact en (.inl rfl) rfl (pk1 (pkv _)) (by decide) (fun _ => trivial) (congrArg (fun z => FV.one (tv (.bool z))) (by simp [rightQ, h1, h2, s3, gcd_dec]))
    ·
      (iterate 4 refine no_ ?_); refine o1 ?_; refine o1 ?_; (iterate 7 refine no_ ?_); refine o1 ?_; refine o1 ?_; refine nl ?_; refine rt ?_
      exact en (.inl rfl) rfl (pk1 (pkv _)) (by decide) (fun _ => trivial) (congrArg (fun z => FV.one (tv (.bool z))) (by simp [rightQ, h1, h2]))
  ·
    (iterate 3 refine no_ ?_); refine o1 ?_; refine o1 ?_; (iterate 4 refine no_ ?_); refine o1 ?_; refine o1 ?_; (iterate 7 refine no_ ?_); refine o1 ?_; refine o1 ?_; refine nl ?_; refine rt ?_
    exact en (.inl rfl) rfl (pk1 (pkv _)) (by decide) (fun _ => trivial) (congrArg (fun z => FV.one (tv (.bool z))) (by simp [rightQ, h1]))
set_option maxRecDepth 100000 in
theorem c_Zero4 : Spec false Tryz.prog 72 [] [] (Ret (qF (.of 0))) := by
  refine fn0 Tryz.func72 rfl Tryz.ntmps72 rfl ttok rfl fun N w c0 h0 => ?_
  refine sq ?_; refine rl ?_; refine al 0 ?_; refine nl ?_; refine sq ?_; refine rl ?_; have hn1 := of_len (n := (0 : Int)) (by omega) (by omega)
  refine ca (c_Of3 (n := (0 : Int)) (by omega) (by omega)) ok38 ⟨a1 rfl, rfl⟩ (kF ((0 : Int))) ?_
  have hn2 := of_len (n := (1 : Int)) (by omega) (by omega)
  refine ca (c_Of3 (n := (1 : Int)) (by omega) (by omega)) ok38 ⟨a1 rfl, rfl⟩ (kF ((1 : Int))) ?_
  refine o1 ?_; refine st ?_; refine nl ?_; refine rt ?_
  exact en (.inl rfl) rfl (pk1 (.agg (.cons (.id rfl) (.cons (.id rfl) (.cons (.id rfl) (.cons (.id rfl) .nil)))))) (by decide) (fun h => by cases h) (qF_make (q := 0) rfl rfl)
set_option maxRecDepth 100000 in
theorem c_Whole4 {n : Int} (h1 : -9223372036854775808 ≤ n) (h2 : n ≤ 9223372036854775807) : Spec false Tryz.prog 12 [] [.one (tv (.int .i64 n))] (Ret (qF (.of (n : Rat)))) := by
  refine fn0 Tryz.func12 rfl Tryz.ntmps12 rfl ttok rfl fun N w c0 h0 => ?_
  refine sq ?_; refine rl ?_; refine al 0 ?_; refine nl ?_; refine sq ?_; refine rl ?_; refine o1 ?_; have hn1 := of_len (n := n) (by omega) (by omega)
  refine ca (c_Of3 (n := n) (by omega) (by omega)) ok38 ⟨a1 rfl, rfl⟩ (kF (n)) ?_
  have hn2 := of_len (n := (1 : Int)) (by omega) (by omega)
  refine ca (c_Of3 (n := (1 : Int)) (by omega) (by omega)) ok38 ⟨a1 rfl, rfl⟩ (kF ((1 : Int))) ?_
  refine o1 ?_; refine st ?_; refine nl ?_; refine rt ?_
  exact en (.inl rfl) rfl (pk1 (.agg (.cons (.id rfl) (.cons (.id rfl) (.cons (.id rfl) (.cons (.id rfl) .nil)))))) (by decide) (fun h => by cases h) (qF_make (q := (n : Rat)) (Rat.num_intCast n) (by rw [Rat.den_intCast]; rfl))
set_option maxRecDepth 100000 in
theorem c_Plain4 {a : Fr4} {p : Rat} (ha : Qn a p) : Spec false Tryz.prog 50 [] [qF a] (Ret (qF (.of p))) := by
  refine fn0 Tryz.func50 rfl Tryz.ntmps50 rfl ttok rfl fun N w c0 h0 => ?_
  refine sq ?_; refine rl ?_; refine bx 0 ?_; refine al 1 ?_; refine nl ?_; refine sq ?_; refine sq ?_; refine rl ?_; refine ld ?_
  refine ca (c_Right4 ha) ok60 ⟨a1g rfl, rfl⟩ (.one (tv (.bool (rightQ a.s a.x a.t a.y)))) ?_; refine WL.splitb (t := 4) rfl (fun h1 => ?_) (fun h1 => ?_)
  ·
    refine o1 ?_; refine nl ?_; refine cdf rfl ?_; refine sk ?_; refine sq ?_; refine rl ?_; refine ld ?_; refine st ?_; refine nl ?_; refine rt ?_
    exact en (.inl rfl) rfl (pk1 (.agg (.cons (.id rfl) (.cons (.id rfl) (.cons (.id rfl) (.cons (.id rfl) .nil)))))) (by decide) (fun h => by cases h) (by rw [ha.right h1]; rfl)
  ·
    refine o1 ?_; refine nl ?_; refine cdt rfl ?_; refine sq ?_; refine rl ?_; refine ca (c_Zero4) ok72 rfl (qF (.of 0)) ?_; refine st ?_; refine nl ?_; refine rt ?_
    exact en (.inl rfl) rfl (pk1 (.agg (.cons (.id rfl) (.cons (.id rfl) (.cons (.id rfl) (.cons (.id rfl) .nil)))))) (by decide) (fun h => by cases h) (by rw [ha.wrong h1]; rfl)
theorem c_DivModn {a b : Zi} {k k' : Int} (ha : Zn a k) (hb : Zn b k') (h0 : k' ≠ 0) : Spec false Tryz.prog 98 [] [gF a, gF b] (Ret (.tup [kF (k.fdiv k'), kF (k.fmod k'), .one (tv (.int .i64 0))])) := by
  have h := c_DivMod3 ha hb
  rwa [if_neg h0, if_neg h0, if_neg h0] at h
set_option maxRecDepth 100000 in
theorem c_New4 {a b : Zi} {k k' : Int} (ha : Zn a k) (hb : Zn b k') : Spec false Tryz.prog 75 [] [gF a, gF b] (Ret (.tup [qF (.of (Rat.divInt k k')), .one (tv (.int .i64 (if k' = 0 then 20 else 0)))])) := by
  refine fn0 Tryz.func75 rfl Tryz.ntmps75 rfl ttok rfl fun N w c0 h0 => ?_
  have hkl := ha.len
  have hkl' := hb.len
  refine sq ?_; refine rl ?_; refine bx 0 ?_; refine bx 1 ?_; refine al 2 ?_; refine o1 ?_; refine nl ?_; refine sq ?_; refine sq ?_; refine rl ?_; refine ld ?_
  refine ca (c_Sign3 hb) ok70 ⟨a1g rfl, rfl⟩ (.one (tv (.int .i64 (k').sign))) ?_; refine o1 ?_; refine nl ?_; refine cdp rfl (fun h1 => ?_) (fun h1 => ?_)
  ·
    refine sq ?_; refine rl ?_; refine ca (c_Zero4) ok72 rfl (qF (.of 0)) ?_; refine st ?_; refine o1 ?_; refine nl ?_; refine rt ?_; have hk0 : k' = 0 := Int.sign_eq_zero_iff_zero.1 h1
    have hd0 : Rat.divInt k k' = 0 := by rw [hk0]; simp
    exact en (.inl rfl) rfl (pkt (.cons (.agg (.cons (.id rfl) (.cons (.id rfl) (.cons (.id rfl) (.cons (.id rfl) .nil))))) (.cons (pkv _) .nil))) (by decide) (fun h => by cases h) (by rw [if_pos hk0, hd0]; rfl)
  ·
    refine sk ?_; refine sq ?_; refine sq ?_; have hk0 : k' ≠ 0 := fun h9 => h1 (by rw [h9]; rfl)
    refine rl ?_; refine ld ?_; refine ca (c_Sign3 hb) ok70 ⟨a1g rfl, rfl⟩ (.one (tv (.int .i64 (k').sign))) ?_; refine o1 ?_; refine nl ?_; refine cdp rfl (fun h2 => ?_) (fun h2 => ?_)
    ·
      refine sq ?_; refine rl ?_; refine ld ?_; have hn3 := negz_len (k)
      refine ca (c_Neg3 ha) ok96 ⟨a1g rfl, rfl⟩ (kF (-k)) ?_; refine st ?_; refine nl ?_; refine rl ?_; refine ld ?_; have hn4 := negz_len (k')
      refine ca (c_Neg3 hb) ok96 ⟨a1g rfl, rfl⟩ (kF (-k')) ?_; refine st ?_; refine nl ?_; refine sq ?_; have hkn : k' < 0 := Int.sign_neg_iff.1 h2
      refine rl ?_; refine ld ?_; refine ld ?_; have hn5 := gcd_len (k := -k) (k' := -k') (by omega)
      refine ca (c_Gcd3 (Zn.of (k := -k) (by omega)) (Zn.of (k := -k') (by omega))) ok80 ⟨a1g rfl, a1g rfl, rfl⟩ (kF (((Int.gcd (-k) (-k') : Nat) : Int))) ?_
      refine al 3 ?_; refine st ?_; refine nl ?_; refine sq ?_; refine rl ?_; refine ld ?_; refine ld ?_
      refine ca (c_DivModn (Zn.of (k := -k) (by omega)) (Zn.of (k := ((Int.gcd (-k) (-k') : Nat) : Int)) (by omega)) (gcd_nz (by omega))) ok98 ⟨a1g rfl, a1g rfl, rfl⟩ (.tup [kF ((-k).fdiv ((Int.gcd (-k) (-k') : Nat) : Int)), kF ((-k).fmod ((Int.gcd (-k) (-k') : Nat) : Int)), .one (tv (.int .i64 0))]) ?_
      (iterate 4 refine o1 ?_); refine al 4 ?_; refine al 5 ?_; refine st ?_; refine st ?_; refine o1 ?_; refine nl ?_; refine sq ?_; refine rl ?_; refine ld ?_; refine ld ?_
      refine ca (c_DivModn (Zn.of (k := -k') (by omega)) (Zn.of (k := ((Int.gcd (-k) (-k') : Nat) : Int)) (by omega)) (gcd_nz (by omega))) ok98 ⟨a1g rfl, a1g rfl, rfl⟩ (.tup [kF ((-k').fdiv ((Int.gcd (-k) (-k') : Nat) : Int)), kF ((-k').fmod ((Int.gcd (-k) (-k') : Nat) : Int)), .one (tv (.int .i64 0))]) ?_
      (iterate 4 refine o1 ?_); refine al 6 ?_; refine al 7 ?_; refine st ?_; refine st ?_; refine o1 ?_; refine nl ?_; refine sq ?_; refine rl ?_; refine ld ?_; refine ld ?_; refine o1 ?_
      refine st ?_; refine o1 ?_; refine nl ?_; refine rt ?_; obtain ⟨hp9, hn9⟩ := new_laws (a := k) hk0
      obtain ⟨e1, e2⟩ := hn9 hkn
      exact en (.inl rfl) rfl (pkt (.cons (.agg (.cons (.id rfl) (.cons (.id rfl) (.cons (.id rfl) (.cons (.id rfl) .nil))))) (.cons (pkv _) .nil))) (by decide) (fun h => by cases h) (by rw [if_neg hk0]; exact congrArg (fun f => FV.tup [f, .one (tv (.int .i64 0))]) (qF_make e1 e2))
    ·
      refine sk ?_; refine sq ?_; have hkp : 0 < k' := by have h9 := mt Int.sign_neg_iff.2 h2; omega
      refine rl ?_; refine ld ?_; refine ld ?_; have hn6 := gcd_len (k := k) (k' := k') (by omega)
      refine ca (c_Gcd3 ha hb) ok80 ⟨a1g rfl, a1g rfl, rfl⟩ (kF (((Int.gcd k k' : Nat) : Int))) ?_; refine al 3 ?_; refine st ?_; refine nl ?_; refine sq ?_; refine rl ?_; refine ld ?_; refine ld ?_
      refine ca (c_DivModn ha (Zn.of (k := ((Int.gcd k k' : Nat) : Int)) (by omega)) (gcd_nz (by omega))) ok98 ⟨a1g rfl, a1g rfl, rfl⟩ (.tup [kF ((k).fdiv ((Int.gcd k k' : Nat) : Int)), kF ((k).fmod ((Int.gcd k k' : Nat) : Int)), .one (tv (.int .i64 0))]) ?_
      (iterate 4 refine o1 ?_); refine al 4 ?_; refine al 5 ?_; refine st ?_; refine st ?_; refine o1 ?_; refine nl ?_; refine sq ?_; refine rl ?_; refine ld ?_; refine ld ?_
      refine ca (c_DivModn hb (Zn.of (k := ((Int.gcd k k' : Nat) : Int)) (by omega)) (gcd_nz (by omega))) ok98 ⟨a1g rfl, a1g rfl, rfl⟩ (.tup [kF ((k').fdiv ((Int.gcd k k' : Nat) : Int)), kF ((k').fmod ((Int.gcd k k' : Nat) : Int)), .one (tv (.int .i64 0))]) ?_
      (iterate 4 refine o1 ?_); refine al 6 ?_; refine al 7 ?_; refine st ?_; refine st ?_; refine o1 ?_; refine nl ?_; refine sq ?_; refine rl ?_; refine ld ?_; refine ld ?_; refine o1 ?_
      refine st ?_; refine o1 ?_; refine nl ?_; refine rt ?_; obtain ⟨hp9, hn9⟩ := new_laws (a := k) hk0
      obtain ⟨e1, e2⟩ := hp9 hkp
      exact en (.inl rfl) rfl (pkt (.cons (.agg (.cons (.id rfl) (.cons (.id rfl) (.cons (.id rfl) (.cons (.id rfl) .nil))))) (.cons (pkv _) .nil))) (by decide) (fun h => by cases h) (by rw [if_neg hk0]; exact congrArg (fun f => FV.tup [f, .one (tv (.int .i64 0))]) (qF_make e1 e2))
set_option maxRecDepth 100000 in
theorem c_Of4 {n d : Int} (h1 : -9223372036854775808 ≤ n) (h2 : n ≤ 9223372036854775807) (h3 : -9223372036854775808 ≤ d) (h4 : d ≤ 9223372036854775807) : Spec false Tryz.prog 55 [] [.one (tv (.int .i64 n)), .one (tv (.int .i64 d))] (Ret (.tup [qF (.of (Rat.divInt n d)), .one (tv (.int .i64 (if d = 0 then 20 else 0)))])) := by
  refine fn0 Tryz.func55 rfl Tryz.ntmps55 rfl ttok rfl fun N w c0 h0 => ?_
  refine sq ?_; refine rl ?_; refine al 0 ?_; refine o1 ?_; refine nl ?_; refine sq ?_; refine rl ?_; refine o1 ?_; have hn1 := of_len (n := n) (by omega) (by omega)
  refine ca (c_Of3 (n := n) (by omega) (by omega)) ok38 ⟨a1 rfl, rfl⟩ (kF (n)) ?_
  refine o1 ?_; have hn2 := of_len (n := d) (by omega) (by omega)
  refine ca (c_Of3 (n := d) (by omega) (by omega)) ok38 ⟨a1 rfl, rfl⟩ (kF (d)) ?_
  refine ca (c_New4 (Zn.of (k := n) (by omega)) (Zn.of (k := d) (by omega))) ok75 ⟨a1g rfl, a1g rfl, rfl⟩ (.tup [qF (.of (Rat.divInt (n) (d))), .one (tv (.int .i64 (if (d) = 0 then 20 else 0)))]) ?_
  refine o1 ?_; refine o1 ?_; refine st ?_; refine o1 ?_; refine nl ?_; refine rt ?_
  exact en (.inl rfl) rfl (pkt (.cons (.agg (.cons (.id rfl) (.cons (.id rfl) (.cons (.id rfl) (.cons (.id rfl) .nil))))) (.cons (pkv _) .nil))) (by decide) (fun h => by cases h) rfl
set_option maxRecDepth 100000 in
theorem c_Neg4 {a : Fr4} {p : Rat} (ha : Qn a p) : Spec false Tryz.prog 71 [] [qF a] (Ret (qF (.of (-p)))) := by
  refine fn0 Tryz.func71 rfl Tryz.ntmps71 rfl ttok rfl fun N w c0 h0 => ?_
  refine sq ?_; refine rl ?_; refine bx 0 ?_; refine al 1 ?_; refine nl ?_; refine sq ?_; refine rl ?_; refine ld ?_; refine ca (c_Plain4 ha) ok50 ⟨a1g rfl, rfl⟩ (qF (.of p)) ?_; refine st ?_
  refine nl ?_; refine sq ?_; refine rd [0, 1] (fun i => [6].contains i) mixed ?_
  refine dv 0 ?_; refine dld 1 ?_; refine dv 3 ?_; refine dld 4 ?_; refine dca 2 rfl (c_Neg3 (zn_num ha.sz)) ok96 ⟨a1g rfl, rfl⟩ (kF (-p.num)) ?_; refine df 5 ?_; refine dst 6 ?_; refine dz0 ?_
  refine rt ?_
  exact en (.inl rfl) rfl (pk1 (.agg (.cons (.id rfl) (.cons (.id rfl) (.cons (.id rfl) (.cons (.id rfl) .nil)))))) (by decide) (fun h => by cases h) (by unfold qF Fr4.of; rw [Rat.neg_num, Rat.neg_den]; rfl)
set_option maxRecDepth 100000 in
theorem c_Add4 {a b : Fr4} {p q : Rat} (ha : Qn a p) (hb : Qn b q) (hs : Sz 17179869184 p) (hs' : Sz 17179869184 q) : Spec false Tryz.prog 62 [] [qF a, qF b] (Ret (qF (.of (p + q)))) := by
  refine fn0 Tryz.func62 rfl Tryz.ntmps62 rfl ttok rfl fun N w c0 h0 => ?_
  have hs1 := hs.1
  have hs2 : (dg 4294967296 ((p.den : Int)).natAbs).length ≤ 17179869184 := hs.2
  have hs3 := hs'.1
  have hs4 : (dg 4294967296 ((q.den : Int)).natAbs).length ≤ 17179869184 := hs'.2
  refine sq ?_; refine rl ?_; refine bx 0 ?_; refine bx 1 ?_; refine al 2 ?_; refine nl ?_; refine sq ?_; refine rl ?_; refine ld ?_; refine ca (c_Plain4 ha) ok50 ⟨a1g rfl, rfl⟩ (qF (.of p)) ?_
  refine st ?_; refine nl ?_; refine sq ?_; refine rl ?_; refine ld ?_; refine ca (c_Plain4 hb) ok50 ⟨a1g rfl, rfl⟩ (qF (.of q)) ?_; refine st ?_; refine nl ?_
  refine md (γ := Unit) (fun _ => frL [(4, .one (.pt 0 0)), (5, .one (.pt 1 0))]) (fun _ => ([⟨45, 0, [tv (.bool false), tv (.slice none 0 0), tv (.bool false), tv (.slice none 0 0)]⟩, ⟨45, 0, ((Fr4.of (Rat.divInt (p.num * (q.den : Int) + q.num * (p.den : Int)) ((p.den : Int) * (q.den : Int)))).tr false).map .t⟩] : List Ob).map some) (fun _ => True) ?_ fun _ _ => ?_
  ·
    refine rd [0, 1, 2] (fun i => [22].contains i) mixed ?_
    refine dv 0 ?_; refine dld 1 ?_; refine dv 2 ?_; refine dld 3 ?_; refine dv 5 ?_; refine dld 6 ?_; refine dv 7 ?_; refine dld 8 ?_; refine dv 11 ?_; refine dld 12 ?_; refine dv 13 ?_
    refine dld 14 ?_; refine WO.two (i := 4) (j := 20) (by kernel_rfl) ?_ ?_
    ·
      have hn1 := mulz_len (p.num) ((q.den : Int))
      refine oca 4 rfl (c_Mul3 (zn_num hs) (zn_den hs')) ok82 ⟨a1g rfl, a1g rfl, rfl⟩ (kF (p.num * (q.den : Int))) ?_; refine WO.two (i := 9) (j := 20) (by kernel_rfl) ?_ ?_
      ·
        have hn2 := mulz_len (q.num) ((p.den : Int))
        refine oca 9 rfl (c_Mul3 (zn_num hs') (zn_den hs)) ok82 ⟨a1g rfl, a1g rfl, rfl⟩ (kF (q.num * (p.den : Int))) ?_; refine WO.two (i := 10) (j := 20) (by kernel_rfl) ?_ ?_
        ·
          have hn3 := addz_len (p.num * (q.den : Int)) (q.num * (p.den : Int))
          refine oca 10 rfl (c_Add3 (Zn.of (k := p.num * (q.den : Int)) (by omega)) (Zn.of (k := q.num * (p.den : Int)) (by omega))) ok81 ⟨a1g rfl, a1g rfl, rfl⟩ (kF (p.num * (q.den : Int) + q.num * (p.den : Int))) ?_
          refine WO.two (i := 15) (j := 20) (by kernel_rfl) ?_ ?_
          ·
            have hn4 := mulz_len ((p.den : Int)) ((q.den : Int))
            refine oca 15 rfl (c_Mul3 (zn_den hs) (zn_den hs')) ok82 ⟨a1g rfl, a1g rfl, rfl⟩ (kF ((p.den : Int) * (q.den : Int))) ?_; refine WO.two (i := 16) (j := 20) (by kernel_rfl) ?_ ?_
            ·
              refine oca 16 rfl (c_New4 (Zn.of (k := p.num * (q.den : Int) + q.num * (p.den : Int)) (by omega)) (Zn.of (k := (p.den : Int) * (q.den : Int)) (by omega))) ok75 ⟨a1g rfl, a1g rfl, rfl⟩ (.tup [qF (.of (Rat.divInt (p.num * (q.den : Int) + q.num * (p.den : Int)) ((p.den : Int) * (q.den : Int)))), .one (tv (.int .i64 (if ((p.den : Int) * (q.den : Int)) = 0 then 20 else 0)))]) ?_
              refine df 17 ?_; refine df 18 ?_; refine df 19 ?_; refine d_al (key := 3) 20 (by kernel_rfl) rfl rfl ttok rfl ⟨rfl, rfl, rfl, trivial⟩ ?_
              refine d_stn 21 (by kernel_rfl) rfl rfl ttok rfl rfl rfl rfl ⟨rfl, rfl, rfl, trivial⟩ ?_
              refine d_v 22 (by kernel_rfl) rfl rfl ttok rfl (by trivial) ?_ (fun h => by first | rfl | cases h)
              refine dz0 ?_; exact ⟨(), trivial, su0 h0 [2, 3] _ _ (by decide) ⟨rfl, rfl, trivial⟩ ⟨oe rfl rfl, oe rfl rfl, rfl⟩⟩
            ·
              refine o_al (key := 3) 20 rfl rfl ttok rfl ⟨rfl, rfl, rfl, trivial⟩ ?_
              refine dca 16 rfl (c_New4 (Zn.of (k := p.num * (q.den : Int) + q.num * (p.den : Int)) (by omega)) (Zn.of (k := (p.den : Int) * (q.den : Int)) (by omega))) ok75 ⟨a1g rfl, a1g rfl, rfl⟩ (.tup [qF (.of (Rat.divInt (p.num * (q.den : Int) + q.num * (p.den : Int)) ((p.den : Int) * (q.den : Int)))), .one (tv (.int .i64 (if ((p.den : Int) * (q.den : Int)) = 0 then 20 else 0)))]) ?_
              refine df 17 ?_; refine df 18 ?_; refine df 19 ?_; refine d_stn 21 (by kernel_rfl) rfl rfl ttok rfl rfl rfl rfl ⟨rfl, rfl, rfl, trivial⟩ ?_
              refine d_v 22 (by kernel_rfl) rfl rfl ttok rfl (by trivial) ?_ (fun h => by first | rfl | cases h)
              refine dz0 ?_; exact ⟨(), trivial, su0 h0 [2, 3] _ _ (by decide) ⟨rfl, rfl, trivial⟩ ⟨oe rfl rfl, oe rfl rfl, rfl⟩⟩
          ·
            refine o_al (key := 3) 20 rfl rfl ttok rfl ⟨rfl, rfl, rfl, trivial⟩ ?_; have hn5 := mulz_len ((p.den : Int)) ((q.den : Int))
            refine dca 15 rfl (c_Mul3 (zn_den hs) (zn_den hs')) ok82 ⟨a1g rfl, a1g rfl, rfl⟩ (kF ((p.den : Int) * (q.den : Int))) ?_
            refine dca 16 rfl (c_New4 (Zn.of (k := p.num * (q.den : Int) + q.num * (p.den : Int)) (by omega)) (Zn.of (k := (p.den : Int) * (q.den : Int)) (by omega))) ok75 ⟨a1g rfl, a1g rfl, rfl⟩ (.tup [qF (.of (Rat.divInt (p.num * (q.den : Int) + q.num * (p.den : Int)) ((p.den : Int) * (q.den : Int)))), .one (tv (.int .i64 (if ((p.den : Int) * (q.den : Int)) = 0 then 20 else 0)))]) ?_
            refine df 17 ?_; refine df 18 ?_; refine df 19 ?_; refine d_stn 21 (by kernel_rfl) rfl rfl ttok rfl rfl rfl rfl ⟨rfl, rfl, rfl, trivial⟩ ?_
            refine d_v 22 (by kernel_rfl) rfl rfl ttok rfl (by trivial) ?_ (fun h => by first | rfl | cases h)
            refine dz0 ?_; exact ⟨(), trivial, su0 h0 [2, 3] _ _ (by decide) ⟨rfl, rfl, trivial⟩ ⟨oe rfl rfl, oe rfl rfl, rfl⟩⟩
        ·
          refine o_al (key := 3) 20 rfl rfl ttok rfl ⟨rfl, rfl, rfl, trivial⟩ ?_; have hn6 := addz_len (p.num * (q.den : Int)) (q.num * (p.den : Int))
          refine dca 10 rfl (c_Add3 (Zn.of (k := p.num * (q.den : Int)) (by omega)) (Zn.of (k := q.num * (p.den : Int)) (by omega))) ok81 ⟨a1g rfl, a1g rfl, rfl⟩ (kF (p.num * (q.den : Int) + q.num * (p.den : Int))) ?_
          have hn7 := mulz_len ((p.den : Int)) ((q.den : Int))
          refine dca 15 rfl (c_Mul3 (zn_den hs) (zn_den hs')) ok82 ⟨a1g rfl, a1g rfl, rfl⟩ (kF ((p.den : Int) * (q.den : Int))) ?_
          refine dca 16 rfl (c_New4 (Zn.of (k := p.num * (q.den : Int) + q.num * (p.den : Int)) (by omega)) (Zn.of (k := (p.den : Int) * (q.den : Int)) (by omega))) ok75 ⟨a1g rfl, a1g rfl, rfl⟩ (.tup [qF (.of (Rat.divInt (p.num * (q.den : Int) + q.num * (p.den : Int)) ((p.den : Int) * (q.den : Int)))), .one (tv (.int .i64 (if ((p.den : Int) * (q.den : Int)) = 0 then 20 else 0)))]) ?_
          refine df 17 ?_; refine df 18 ?_; refine df 19 ?_; refine d_stn 21 (by kernel_rfl) rfl rfl ttok rfl rfl rfl rfl ⟨rfl, rfl, rfl, trivial⟩ ?_
          refine d_v 22 (by kernel_rfl) rfl rfl ttok rfl (by trivial) ?_ (fun h => by first | rfl | cases h)
          refine dz0 ?_; exact ⟨(), trivial, su0 h0 [2, 3] _ _ (by decide) ⟨rfl, rfl, trivial⟩ ⟨oe rfl rfl, oe rfl rfl, rfl⟩⟩
      ·
        refine o_al (key := 3) 20 rfl rfl ttok rfl ⟨rfl, rfl, rfl, trivial⟩ ?_; have hn8 := mulz_len (q.num) ((p.den : Int))
        refine dca 9 rfl (c_Mul3 (zn_num hs') (zn_den hs)) ok82 ⟨a1g rfl, a1g rfl, rfl⟩ (kF (q.num * (p.den : Int))) ?_; have hn9 := addz_len (p.num * (q.den : Int)) (q.num * (p.den : Int))
        refine dca 10 rfl (c_Add3 (Zn.of (k := p.num * (q.den : Int)) (by omega)) (Zn.of (k := q.num * (p.den : Int)) (by omega))) ok81 ⟨a1g rfl, a1g rfl, rfl⟩ (kF (p.num * (q.den : Int) + q.num * (p.den : Int))) ?_
        have hn10 := mulz_len ((p.den : Int)) ((q.den : Int))
        refine dca 15 rfl (c_Mul3 (zn_den hs) (zn_den hs')) ok82 ⟨a1g rfl, a1g rfl, rfl⟩ (kF ((p.den : Int) * (q.den : Int))) ?_
        refine dca 16 rfl (c_New4 (Zn.of (k := p.num * (q.den : Int) + q.num * (p.den : Int)) (by omega)) (Zn.of (k := (p.den : Int) * (q.den : Int)) (by omega))) ok75 ⟨a1g rfl, a1g rfl, rfl⟩ (.tup [qF (.of (Rat.divInt (p.num * (q.den : Int) + q.num * (p.den : Int)) ((p.den : Int) * (q.den : Int)))), .one (tv (.int .i64 (if ((p.den : Int) * (q.den : Int)) = 0 then 20 else 0)))]) ?_
        refine df 17 ?_; refine df 18 ?_; refine df 19 ?_; refine d_stn 21 (by kernel_rfl) rfl rfl ttok rfl rfl rfl rfl ⟨rfl, rfl, rfl, trivial⟩ ?_
        refine d_v 22 (by kernel_rfl) rfl rfl ttok rfl (by trivial) ?_ (fun h => by first | rfl | cases h)
        refine dz0 ?_; exact ⟨(), trivial, su0 h0 [2, 3] _ _ (by decide) ⟨rfl, rfl, trivial⟩ ⟨oe rfl rfl, oe rfl rfl, rfl⟩⟩
    ·
      refine o_al (key := 3) 20 rfl rfl ttok rfl ⟨rfl, rfl, rfl, trivial⟩ ?_; have hn11 := mulz_len (p.num) ((q.den : Int))
      refine dca 4 rfl (c_Mul3 (zn_num hs) (zn_den hs')) ok82 ⟨a1g rfl, a1g rfl, rfl⟩ (kF (p.num * (q.den : Int))) ?_; have hn12 := mulz_len (q.num) ((p.den : Int))
      refine dca 9 rfl (c_Mul3 (zn_num hs') (zn_den hs)) ok82 ⟨a1g rfl, a1g rfl, rfl⟩ (kF (q.num * (p.den : Int))) ?_; have hn13 := addz_len (p.num * (q.den : Int)) (q.num * (p.den : Int))
      refine dca 10 rfl (c_Add3 (Zn.of (k := p.num * (q.den : Int)) (by omega)) (Zn.of (k := q.num * (p.den : Int)) (by omega))) ok81 ⟨a1g rfl, a1g rfl, rfl⟩ (kF (p.num * (q.den : Int) + q.num * (p.den : Int))) ?_
      have hn14 := mulz_len ((p.den : Int)) ((q.den : Int))
      refine dca 15 rfl (c_Mul3 (zn_den hs) (zn_den hs')) ok82 ⟨a1g rfl, a1g rfl, rfl⟩ (kF ((p.den : Int) * (q.den : Int))) ?_
      refine dca 16 rfl (c_New4 (Zn.of (k := p.num * (q.den : Int) + q.num * (p.den : Int)) (by omega)) (Zn.of (k := (p.den : Int) * (q.den : Int)) (by omega))) ok75 ⟨a1g rfl, a1g rfl, rfl⟩ (.tup [qF (.of (Rat.divInt (p.num * (q.den : Int) + q.num * (p.den : Int)) ((p.den : Int) * (q.den : Int)))), .one (tv (.int .i64 (if ((p.den : Int) * (q.den : Int)) = 0 then 20 else 0)))]) ?_
      refine df 17 ?_; refine df 18 ?_; refine df 19 ?_; refine d_stn 21 (by kernel_rfl) rfl rfl ttok rfl rfl rfl rfl ⟨rfl, rfl, rfl, trivial⟩ ?_
      refine d_v 22 (by kernel_rfl) rfl rfl ttok rfl (by trivial) ?_ (fun h => by first | rfl | cases h)
      refine dz0 ?_; exact ⟨(), trivial, su0 h0 [2, 3] _ _ (by decide) ⟨rfl, rfl, trivial⟩ ⟨oe rfl rfl, oe rfl rfl, rfl⟩⟩
  refine sq ?_; refine rl ?_; refine ld ?_; refine st ?_; refine nl ?_; refine rt ?_
  exact en (.inl rfl) rfl (pk1 (.agg (.cons (.id rfl) (.cons (.id rfl) (.cons (.id rfl) (.cons (.id rfl) .nil)))))) (by decide) (fun h => by cases h) (by rw [← add_other]; rfl)
set_option maxRecDepth 100000 in
theorem c_Sub4 {a b : Fr4} {p q : Rat} (ha : Qn a p) (hb : Qn b q) (hs : Sz 17179869184 p) (hs' : Sz 17179869184 q) : Spec false Tryz.prog 49 [] [qF a, qF b] (Ret (qF (.of (p - q)))) := by
  refine fn0 Tryz.func49 rfl Tryz.ntmps49 rfl ttok rfl fun N w c0 h0 => ?_
  refine sq ?_; refine rl ?_; refine bx 0 ?_; refine bx 1 ?_; refine al 2 ?_; refine nl ?_; refine sq ?_; refine rd [0, 1, 2] (fun i => [4].contains i) mixed ?_
  refine dld 0 ?_; refine dld 1 ?_; refine dca 2 rfl (c_Neg4 hb) ok71 ⟨a1g rfl, rfl⟩ (qF (.of (-q))) ?_
  refine dca 3 rfl (c_Add4 ha (Qn.of (p := (-q)) (neg_sz hs')) hs (neg_sz hs')) ok62 ⟨a1g rfl, a1g rfl, rfl⟩ (qF (.of (p + (-q)))) ?_; refine dst 4 ?_; refine dz0 ?_; refine rt ?_
  exact en (.inl rfl) rfl (pk1 (.agg (.cons (.id rfl) (.cons (.id rfl) (.cons (.id rfl) (.cons (.id rfl) .nil)))))) (by decide) (fun h => by cases h) (by rw [Rat.sub_eq_add_neg]; rfl)
set_option maxRecDepth 100000 in
theorem c_Sign4 {a : Fr4} {p : Rat} (ha : Qn a p) : Spec true Tryz.prog 48 [] [qF a] (Ret (.one (tv (.int .i64 p.num.sign)))) := by
  refine fn0 Tryz.func48 rfl Tryz.ntmps48 rfl ttok rfl fun N w c0 h0 => ?_
  refine sq ?_; refine rl ?_; refine bx 0 ?_; refine o1 ?_; refine nl ?_; refine sq ?_; refine rl ?_; refine ld ?_; refine ca (c_Plain4 ha) ok50 ⟨a1g rfl, rfl⟩ (qF (.of p)) ?_; refine o1 ?_
  refine ca (c_Sign3 (zn_num ha.sz)) ok70 ⟨a1g rfl, rfl⟩ (.one (tv (.int .i64 (p.num).sign))) ?_; refine o1 ?_; refine nl ?_; refine rt ?_
  exact en (.inl rfl) rfl (pk1 (pkv _)) (by decide) (fun _ => trivial) rfl
set_option maxRecDepth 100000 in
theorem c_Cmp4 {a b : Fr4} {p q : Rat} (ha : Qn a p) (hb : Qn b q) (hs : Sz 17179869184 p) (hs' : Sz 17179869184 q) : Spec true Tryz.prog 19 [] [qF a, qF b] (Ret (.one (tv (.int .i64 (p - q).num.sign)))) := by
  refine fn0 Tryz.func19 rfl Tryz.ntmps19 rfl ttok rfl fun N w c0 h0 => ?_
  refine sq ?_; refine rl ?_; refine bx 0 ?_; refine bx 1 ?_; refine o1 ?_; refine nl ?_; refine sq ?_; refine rl ?_; refine ld ?_; refine ld ?_
  refine ca (c_Sub4 ha hb hs hs') ok49 ⟨a1g rfl, a1g rfl, rfl⟩ (qF (.of (p - q))) ?_
  refine ca (c_Sign4 (Qn.of (p := (p - q)) (sub_sz hs hs'))) ok48 ⟨a1g rfl, rfl⟩ (.one (tv (.int .i64 (p - q).num.sign))) ?_; refine o1 ?_; refine nl ?_; refine rt ?_
  exact en (.inl rfl) rfl (pk1 (pkv _)) (by decide) (fun _ => trivial) rfl
end Go.Proofs.YtogaallfhifngaaGreat

/- Walks of the third road: least and greatest fractions; tallageref25. Printed by a program. -/
namespace Go.Proofs.YtogaallfhifngaaGreat
open Go Go.RowKit
set_option maxRecDepth 100000 in
theorem c_Min4 {xs : List Fr4} (hne : 0 < xs.length) (hx : ∀ x ∈ xs, x.ok ∧ Sz 17179869184 x.q) (hl : xs.length ≤ 1099511627776) : Spec false Tryz.prog 59 [] [.one (.t (sQ false xs))] (Ret (qF (.of (qmin0 (xs.map Fr4.q))))) := by
  refine fn0 Tryz.func59 rfl Tryz.ntmps59 rfl ttok rfl fun N w c0 h0 => ?_
  refine sq ?_; refine rl ?_; refine al 0 ?_; refine nl ?_; refine sq ?_; refine rl ?_; refine o1 ?_; refine o1 ?_; refine ldf ((nthF xs (0)).tr false) (rat_at xs (k := 0) (by omega)) ?_
  refine ca (c_Plain4 ⟨(hx _ (nthF_mem (by omega))).1, rfl⟩) ok50 ⟨a1g rfl, rfl⟩ (qF (.of (nthF xs (0)).q)) ?_
  refine al 1 ?_; refine st ?_; refine nl ?_; refine sq ?_; refine sq ?_; refine rl ?_; refine o1 ?_; refine nl ?_; refine bl ?_
  refine lp (γ := Nat) (fun k => frL [(0, .one (.t (sQ false xs))), (2, .one (.pt 0 0)), (3, .one (.pt 1 0)), (4, .one (tv (.int .i64 ((k : Nat) : Int))))]) (fun k => [(⟨45, 0, [tv (.bool false), tv (.slice none 0 0), tv (.bool false), tv (.slice none 0 0)]⟩ : Ob), ⟨45, 0, ((Fr4.of (qmin0 ((xs.take k).map Fr4.q))).tr false).map .t⟩].map some) (fun k => 1 ≤ k ∧ k ≤ xs.length ∧ Sz 17179869184 (qmin0 ((xs.take k).map Fr4.q))) (fun k => xs.length - k) 1 ⟨Nat.le_refl _, hne, by rw [qmin0_one hne]; exact (hx _ (nthF_mem hne)).2⟩ (su0 h0 [0, 1] _ _ (by decide) ⟨rfl, rfl, rfl, rfl, trivial⟩ ⟨oe rfl rfl, oet (congrArg (fun q => some (⟨45, 0, ((Fr4.of q).tr false).map .t⟩ : Ob)) (qmin0_one hne).symm), rfl⟩) fun k hk => ?_
  refine sq ?_; refine sq ?_; refine rl ?_; (iterate 4 refine o1 ?_); refine nl ?_; refine cdp rfl (fun h1 => ?_) (fun h1 => ?_)
  ·
    refine sk ?_; refine sq ?_; refine bl ?_; refine sq ?_; refine rd [0, 1] (fun i => [].contains i) mixed ?_
    refine dv 0 ?_; refine dv 1 ?_; refine dv 2 ?_; refine dlr 3 ((nthF xs (k)).tr false) (rat_at xs (k := k) (by omega)) ?_
    refine dld 4 ?_
    refine dca 5 rfl (c_Cmp4 ⟨(hx _ (nthF_mem (by omega))).1, rfl⟩ (Qn.of (p := (qmin0 ((xs.take k).map Fr4.q))) hk.2.2) (hx _ (nthF_mem (by omega))).2 hk.2.2) ok19 ⟨a1g rfl, a1g rfl, rfl⟩ (.one (tv (.int .i64 ((nthF xs (k)).q - (qmin0 ((xs.take k).map Fr4.q))).num.sign))) ?_
    refine df 6 ?_; refine dz0 ?_; refine cdp rfl (fun h2 => ?_) (fun h2 => ?_)
    ·
      refine rl ?_; (iterate 3 refine o1 ?_); refine ldf ((nthF xs (k)).tr false) (rat_at xs (k := k) (by omega)) ?_
      refine ca (c_Plain4 ⟨(hx _ (nthF_mem (by omega))).1, rfl⟩) ok50 ⟨a1g rfl, rfl⟩ (qF (.of (nthF xs (k)).q)) ?_
      refine st ?_; refine nl ?_; refine rl ?_; refine o1 ?_; refine o1 ?_; refine WL.cast (t := 14) (u' := .int .i64 ((k + 1 : Nat) : Int)) rfl (cint (by omega)) ?_
      refine o1 ?_; refine nl ?_; have hst : (qmin0 ((xs.take (k + 1)).map Fr4.q)) = (nthF xs k).q := (qmin0_step hk.1 (by omega)).trans (if_pos ((lt_sgn _ _).1 h2))
      exact ⟨k + 1, by omega, ⟨by omega, by omega, by rw [hst]; exact (hx _ (nthF_mem (by omega))).2⟩, su0 h0 [0, 1] _ _ (by decide) ⟨rfl, rfl, rfl, rfl, trivial⟩ ⟨oe rfl rfl, oet (congrArg (fun q => some (⟨45, 0, ((Fr4.of q).tr false).map .t⟩ : Ob)) hst.symm), rfl⟩⟩
    ·
      refine sk ?_; refine rl ?_; refine o1 ?_; refine o1 ?_; refine WL.cast (t := 14) (u' := .int .i64 ((k + 1 : Nat) : Int)) rfl (cint (by omega)) ?_
      refine o1 ?_; refine nl ?_; have hst : (qmin0 ((xs.take (k + 1)).map Fr4.q)) = (qmin0 ((xs.take k).map Fr4.q)) := (qmin0_step hk.1 (by omega)).trans (if_neg fun h8 => h2 ((lt_sgn _ _).2 h8))
      exact ⟨k + 1, by omega, ⟨by omega, by omega, by rw [hst]; exact hk.2.2⟩, su0 h0 [0, 1] _ _ (by decide) ⟨rfl, rfl, rfl, rfl, trivial⟩ ⟨oe rfl rfl, oet (congrArg (fun q => some (⟨45, 0, ((Fr4.of q).tr false).map .t⟩ : Ob)) hst.symm), rfl⟩⟩
  ·
    refine ex ?_; refine sq ?_; refine rl ?_; refine ld ?_; refine st ?_; refine nl ?_; refine rt ?_
    exact en (.inl rfl) rfl (pk1 (.agg (.cons (.id rfl) (.cons (.id rfl) (.cons (.id rfl) (.cons (.id rfl) .nil)))))) (by decide) (fun h => by cases h) (by rw [List.take_of_length_le (by omega)]; rfl)
set_option maxRecDepth 100000 in
theorem c_Total25 {vs : List (Int × Rat)} {B : Nat} (hB : 2 + vs.length * (B + 1) ≤ 17179869184) (hzs : ∀ x ∈ vs, Sz B x.2) (hl : vs.length ≤ 1099511627776) : Spec false Tryz.prog 37 [] [.one (.t (sV 63 false vs))] (Ret (qF (.of (qsum (vs.map Prod.snd))))) := by
  refine fn0 Tryz.func37 rfl Tryz.ntmps37 rfl ttok rfl fun N w c0 h0 => ?_
  have h00 : ((0 : Int) : Rat) = qsum ((vs.take 0).map Prod.snd) := by simp [qsum]
  refine sq ?_; refine rl ?_; refine al 0 ?_; refine nl ?_; refine sq ?_; refine rl ?_; refine ca (c_Whole4 (n := 0) (by omega) (by omega)) ok12 ⟨a1 rfl, rfl⟩ (qF (.of ((0 : Int) : Rat))) ?_
  refine al 1 ?_; refine st ?_; refine nl ?_; refine sq ?_; refine sq ?_; refine rl ?_; refine o1 ?_; refine nl ?_; refine bl ?_
  refine lp (γ := Nat) (fun k => frL [(0, .one (.t (sV 63 false vs))), (2, .one (.pt 0 0)), (3, .one (.pt 1 0)), (4, .one (tv (.int .i64 ((k : Nat) : Int))))]) (fun k => [(⟨45, 0, [tv (.bool false), tv (.slice none 0 0), tv (.bool false), tv (.slice none 0 0)]⟩ : Ob), ⟨45, 0, ((Fr4.of (qsum ((vs.take k).map Prod.snd))).tr false).map .t⟩].map some) (fun k => k ≤ vs.length ∧ Sz (2 + k * (B + 1)) (qsum ((vs.take k).map Prod.snd))) (fun k => vs.length - k) 0 ⟨Nat.zero_le _, by rw [← h00]; exact (int_sz (z := 0) (by omega) (by omega)).mono (by omega)⟩ (su0 h0 [0, 1] _ _ (by decide) ⟨rfl, rfl, rfl, rfl, trivial⟩ ⟨oe rfl rfl, oet (congrArg (fun q => some (⟨45, 0, ((Fr4.of q).tr false).map .t⟩ : Ob)) h00), rfl⟩) fun k hk => ?_
  have hmul : k * (B + 1) ≤ vs.length * (B + 1) := Nat.mul_le_mul hk.1 (Nat.le_refl _)
  have hB2 : vs.length = 0 ∨ B ≤ 17179869182 := by rcases Nat.eq_zero_or_pos vs.length with h | h; exact .inl h; exact .inr (by have := Nat.mul_le_mul h (Nat.le_refl (B + 1)); omega)
  refine sq ?_; refine sq ?_; refine rl ?_; (iterate 4 refine o1 ?_); refine nl ?_; refine cdp rfl (fun h1 => ?_) (fun h1 => ?_)
  ·
    refine sk ?_; refine sq ?_; refine bl ?_; refine rd [0, 1] (fun i => [7].contains i) mixed ?_
    refine dld 0 ?_; refine dv 1 ?_; refine dv 2 ?_; refine dv 3 ?_; refine dv 4 ?_; refine dlr 5 ((Fr4.of (nthV vs (k)).2).tr false) (vin_q false (by omega)) ?_
    refine dca 6 rfl (c_Add4 (Qn.of (p := (qsum ((vs.take k).map Prod.snd))) (hk.2.mono (M := 17179869184) (by omega))) (Qn.of (p := (nthV vs (k)).2) ((hzs _ (nthV_mem (by omega))).mono (M := 17179869184) (by omega))) (hk.2.mono (M := 17179869184) (by omega)) ((hzs _ (nthV_mem (by omega))).mono (M := 17179869184) (by omega))) ok62 ⟨a1g rfl, a1g rfl, rfl⟩ (qF (.of ((qsum ((vs.take k).map Prod.snd)) + (nthV vs (k)).2))) ?_
    refine dst 7 ?_; refine dz0 ?_; refine rl ?_; refine o1 ?_; refine o1 ?_; refine WL.cast (t := 11) (u' := .int .i64 ((k + 1 : Nat) : Int)) rfl (cint (by omega)) ?_
    refine o1 ?_; refine nl ?_; have hst : (qsum ((vs.take (k + 1)).map Prod.snd)) = (qsum ((vs.take k).map Prod.snd)) + (nthV vs k).2 := by rw [take_v (by omega), List.map_append]; exact qsum_snoc _ _
    exact ⟨k + 1, by omega, ⟨by omega, by rw [hst]; exact (add_sz hk.2 (hzs _ (nthV_mem (by omega)))).mono (by rw [show (k + 1) * (B + 1) = k * (B + 1) + (B + 1) from Nat.succ_mul k (B + 1)]; omega)⟩, su0 h0 [0, 1] _ _ (by decide) ⟨rfl, rfl, rfl, rfl, trivial⟩ ⟨oe rfl rfl, oet (congrArg (fun q => some (⟨45, 0, ((Fr4.of q).tr false).map .t⟩ : Ob)) hst.symm), rfl⟩⟩
  ·
    refine ex ?_; refine sq ?_; refine rl ?_; refine ld ?_; refine st ?_; refine nl ?_; refine rt ?_
    exact en (.inl rfl) rfl (pk1 (.agg (.cons (.id rfl) (.cons (.id rfl) (.cons (.id rfl) (.cons (.id rfl) .nil)))))) (by decide) (fun h => by cases h) (by rw [List.take_of_length_le (by omega)]; rfl)
set_option maxRecDepth 100000 in
theorem c_Expire25 {vs : List (Int × Rat)} {last fr : Int} {was : Bool} (hl : vs.length ≤ 1073741823) : Spec false Tryz.prog 33 [] [.agg (([sV 63 false vs, .v (.int .i64 last), .v (.bool was)] : List Tr).map .t), .one (tv (.int .i64 fr))] (Ret (.tup [.agg (([sV 63 false (vs.filter fun x => !decide (x.1 < fr)), .v (.int .i64 last), .v (.bool was)] : List Tr).map .t), .one (.t (sV 63 false (vs.filter fun x => decide (x.1 < fr))))])) := by
  refine fn0 Tryz.func33 rfl Tryz.ntmps33 rfl ttok rfl fun N w c0 h0 => ?_
  refine sq ?_; refine rl ?_; refine bx 0 ?_; refine al 1 ?_; refine o1 ?_; refine nl ?_; refine sq ?_; refine rl ?_; refine o1 ?_; refine ld ?_; refine o1 ?_; refine ld ?_; refine o1 ?_
  refine al 2 ?_; refine st ?_; refine nl ?_; refine sq ?_; refine rl ?_; refine o1 ?_; refine nl ?_; refine sq ?_; refine sq ?_; refine rl ?_; refine o1 ?_; refine nl ?_; refine bl ?_
  refine lp (γ := Nat) (fun k => frL [(1, .one (tv (.int .i64 fr))), (2, .one (.pt 0 0)), (4, .one (.pt 1 0)), (6, .one (.pt 2 0)), (7, .one (.sl 4 0 ((vs.take k).filter fun x => decide (x.1 < fr)).length)), (8, .one (tv (.int .i64 ((k : Nat) : Int))))]) (fun k => [(⟨29, 0, [.t (sV 63 false vs), tv (.int .i64 last), tv (.bool was)]⟩ : Ob), ⟨29, 0, [tv (.slice none 0 0), tv (.int .i64 0), tv (.bool false)]⟩, ⟨29, 0, [.sl 3 0 ((vs.take k).filter fun x => !decide (x.1 < fr)).length, tv (.int .i64 last), tv (.bool was)]⟩, ⟨63, 5, ((((vs.take k).filter fun x => !decide (x.1 < fr))).flatMap (vtr false)).map .t⟩, ⟨63, 5, ((((vs.take k).filter fun x => decide (x.1 < fr))).flatMap (vtr false)).map .t⟩].map some) (fun k => k ≤ vs.length) (fun k => vs.length - k) 0 (Nat.zero_le _) (((nro (j := 2) (key := 3) (e := 63) (z := 5) rfl rfl rfl (.sl (.id (.id .nil)))).trans (nr (i := 7) 4 63 5 rfl rfl rfl rfl)).trans (su0 h0 [0, 1, 2, 3, 4] _ _ (by decide) ⟨rfl, rfl, rfl, rfl, rfl, rfl, trivial⟩ ⟨oe rfl rfl, oe rfl rfl, oe rfl rfl, oe rfl rfl, oe rfl rfl, rfl⟩)) fun k hk => ?_
  have hG : ((vs.take k).filter fun x => decide (x.1 < fr)).length ≤ k := Nat.le_trans (List.length_filter_le _ _) (by rw [List.length_take]; omega)
  have hL : ((vs.take k).filter fun x => !decide (x.1 < fr)).length ≤ k := Nat.le_trans (List.length_filter_le _ _) (by rw [List.length_take]; omega)
  refine sq ?_; refine sq ?_; refine rl ?_; refine o1 ?_; refine o1 ?_; refine ld ?_; refine o1 ?_; refine o1 ?_; refine nl ?_; refine cdp rfl (fun h1 => ?_) (fun h1 => ?_)
  ·
    refine sk ?_; refine sq ?_; refine bl ?_; refine sq ?_; refine rl ?_; refine o1 ?_; refine ld ?_; (iterate 3 refine o1 ?_); refine ldf ([.v (.int .i64 (nthV vs (k)).1)]) (vin_y false (by omega)) ?_
    refine o1 ?_; refine o1 ?_; refine nl ?_; refine cdp rfl (fun h2 => ?_) (fun h2 => ?_)
    ·
      refine rl ?_; refine o1 ?_; refine o1 ?_; refine ld ?_; refine o1 ?_; refine o1 ?_; refine ldf (vtr false (nthV vs (k))) (vin_at false (by omega)) ?_
      refine bs 5 ?_; refine w_app (j := 6) ttok rfl rfl rfl rfl (.sl rfl (by rw [List.length_map, vflat_len])) (.sl rfl rfl rfl) rfl rfl rfl (by omega) (by omega) ?_
      refine o1 ?_; refine nl ?_; refine rl ?_; refine o1 ?_; refine o1 ?_; refine WL.cast (t := 20) (u' := .int .i64 ((k + 1 : Nat) : Int)) rfl (cint (by omega)) ?_
      refine o1 ?_; refine nl ?_; have e9 := decide_eq_true h2
      have hg9 : ((vs.take (k + 1)).filter fun x => decide (x.1 < fr)) = ((vs.take k).filter fun x => decide (x.1 < fr)) ++ [nthV vs k] := by rw [take_v (by omega), List.filter_append]; simp [e9]
      have hl9 : ((vs.take (k + 1)).filter fun x => !decide (x.1 < fr)) = ((vs.take k).filter fun x => !decide (x.1 < fr)) := by rw [take_v (by omega), List.filter_append]; simp [e9]
      exact ⟨k + 1, by omega, by omega, by rw [hg9, hl9]; exact su0 h0 [0, 1, 2, 3, 6] _ _ (by decide) ⟨rfl, rfl, rfl, rfl, congrArg (fun n => some (FV.one (.sl 6 0 n))) (show (((vs.take k).filter fun x => decide (x.1 < fr)) ++ [nthV vs k]).length = ((vs.take k).filter fun x => decide (x.1 < fr)).length + 1 by simp), rfl, trivial⟩ ⟨oe rfl rfl, oe rfl rfl, oe rfl rfl, oet rfl, oet (congrArg (fun l => some (⟨63, 5, l⟩ : Ob)) (show (((vs.take k).filter fun x => decide (x.1 < fr)).flatMap (vtr false)).map AV.t ++ (vtr false (nthV vs k)).map .t = ((((vs.take k).filter fun x => decide (x.1 < fr)) ++ [nthV vs k]).flatMap (vtr false)).map .t by simp [List.flatMap_append])), rfl⟩⟩
    ·
      refine rd [0, 1, 2] (fun i => [10].contains i) mixed ?_
      refine dv 0 ?_; refine dld 1 ?_; refine dv 2 ?_; refine dld 3 ?_; refine dv 4 ?_; refine dv 5 ?_; refine dlr 6 (vtr false (nthV vs (k))) (vin_at false (by omega)) ?_
      refine d_bs (key := 5) 7 (by kernel_rfl) rfl rfl ttok rfl ⟨rfl, rfl, rfl, trivial⟩ ?_
      refine d_appK (j := 6) 8 rfl ttok rfl rfl rfl (.sl rfl (by rw [List.length_map, vflat_len])) (.sl rfl rfl rfl) rfl rfl (by omega) (by omega) rfl ⟨rfl, rfl, rfl, trivial⟩ rfl (by kernel_rfl) rfl ?_
      refine dv 9 ?_; refine dst 10 ?_; refine dz0 ?_; refine rl ?_; refine o1 ?_; refine o1 ?_; refine WL.cast (t := 20) (u' := .int .i64 ((k + 1 : Nat) : Int)) rfl (cint (by omega)) ?_
      refine o1 ?_; refine nl ?_; have e9 := decide_eq_false h2
      have hg9 : ((vs.take (k + 1)).filter fun x => decide (x.1 < fr)) = ((vs.take k).filter fun x => decide (x.1 < fr)) := by rw [take_v (by omega), List.filter_append]; simp [e9]
      have hl9 : ((vs.take (k + 1)).filter fun x => !decide (x.1 < fr)) = ((vs.take k).filter fun x => !decide (x.1 < fr)) ++ [nthV vs k] := by rw [take_v (by omega), List.filter_append]; simp [e9]
      exact ⟨k + 1, by omega, by omega, by rw [hg9, hl9]; exact su0 h0 [0, 1, 2, 6, 4] _ _ (by decide) ⟨rfl, rfl, rfl, rfl, rfl, rfl, trivial⟩ ⟨oe rfl rfl, oe rfl rfl, oe rfl (congrArg (fun n => some (⟨29, 0, [.sl 6 0 n, tv (.int .i64 last), tv (.bool was)]⟩ : Ob)) (show ((vs.take k).filter fun x => !decide (x.1 < fr)).length + 1 = (((vs.take k).filter fun x => !decide (x.1 < fr)) ++ [nthV vs k]).length by simp)), oet (congrArg (fun l => some (⟨63, 5, l⟩ : Ob)) (show (((vs.take k).filter fun x => !decide (x.1 < fr)).flatMap (vtr false)).map AV.t ++ (vtr false (nthV vs k)).map .t = ((((vs.take k).filter fun x => !decide (x.1 < fr)) ++ [nthV vs k]).flatMap (vtr false)).map .t by simp [List.flatMap_append])), oet rfl, rfl⟩⟩
  ·
    refine ex ?_; refine sq ?_; refine rl ?_; refine ld ?_; have hkk : vs.take k = vs := List.take_of_length_le (by omega)
    have hG9 : ((vs.take k).filter fun x => decide (x.1 < fr)) = vs.filter fun x => decide (x.1 < fr) := by rw [hkk]
    have hL9 : ((vs.take k).filter fun x => !decide (x.1 < fr)) = vs.filter fun x => !decide (x.1 < fr) := by rw [hkk]
    refine WL.sub (fzg (i := 47) (k := 3) (t := 63) (z := 5) (n := (((vs.take k).filter fun x => !decide (x.1 < fr))).length) (l := (((vs.take k).filter fun x => !decide (x.1 < fr))).flatMap (vtr false)) rfl rfl rfl (vflat_len false (((vs.take k).filter fun x => !decide (x.1 < fr)))) (.agg (.cons .sl (.cons .id (.cons .id .nil))))) ?_
    refine WL.sub (fzg (i := 7) (k := 4) (t := 63) (z := 5) (n := (((vs.take k).filter fun x => decide (x.1 < fr))).length) (l := (((vs.take k).filter fun x => decide (x.1 < fr))).flatMap (vtr false)) rfl rfl rfl (vflat_len false (((vs.take k).filter fun x => decide (x.1 < fr)))) (.one .sl)) ?_
    refine o1 ?_; refine st ?_; refine o1 ?_; refine nl ?_; refine rt ?_
    exact en (.inl rfl) rfl (pkt (.cons (.agg (.cons (.id rfl) (.cons (.id rfl) (.cons (.id rfl) .nil)))) (.cons (.one (.id rfl)) .nil))) (by decide) (fun h => by cases h) (by rw [← hG9, ← hL9]; rfl)
end Go.Proofs.YtogaallfhifngaaGreat

/- Walks of the third road: tallageref25. Printed by a program. -/
namespace Go.Proofs.YtogaallfhifngaaGreat
open Go Go.RowKit
set_option maxRecDepth 100000 in
theorem c_Put25 {vs : List (Int × Rat)} {last y : Int} {was : Bool} {a : Fr4} {q : Rat} (ha : Qn a q) (hl : vs.length ≤ 1073741823) : Spec false Tryz.prog 34 [] [.agg (([sV 63 false vs, .v (.int .i64 last), .v (.bool was)] : List Tr).map .t), .one (tv (.int .i64 y)), qF a] (Ret (.tup [.agg (([sV 63 false (putL (putE (rightQ a.s a.x a.t a.y) q y last was) q y vs), .v (.int .i64 (putY (putE (rightQ a.s a.x a.t a.y) q y last was) y last)), .v (.bool (putP (putE (rightQ a.s a.x a.t a.y) q y last was) was))] : List Tr).map .t), .one (tv (.int .i64 (putE (rightQ a.s a.x a.t a.y) q y last was)))])) := by
  refine fn0 Tryz.func34 rfl Tryz.ntmps34 rfl ttok rfl fun N w c0 h0 => ?_
  refine sq ?_; refine rl ?_; refine bx 0 ?_; refine bx 1 ?_; refine al 2 ?_; refine o1 ?_; refine nl ?_; refine sq ?_; refine sq ?_; refine rl ?_; refine ld ?_
  refine ca (c_Right4 ha) ok60 ⟨a1g rfl, rfl⟩ (.one (tv (.bool (rightQ a.s a.x a.t a.y)))) ?_; refine WL.splitb (t := 10) rfl (fun h1 => ?_) (fun h1 => ?_)
  ·
    refine o1 ?_; refine o1 ?_; refine ld ?_; refine ca (c_Sign4 ha) ok48 ⟨a1g rfl, rfl⟩ (.one (tv (.int .i64 q.num.sign))) ?_; refine o1 ?_; refine o1 ?_; refine nl ?_
    refine cdp rfl (fun h2 => ?_) (fun h2 => ?_)
    ·
      refine sq ?_; refine rl ?_; refine ld ?_; refine st ?_; refine o1 ?_; refine nl ?_; refine rt ?_
      have hpe : putE (rightQ a.s a.x a.t a.y) q y last was = 2 := by unfold putE; rw [h1, decide_eq_true h2]; rfl
      refine en (.inl rfl) rfl (pkt (.cons (.agg (.cons (.id rfl) (.cons (.id rfl) (.cons (.id rfl) .nil)))) (.cons (pkv _) .nil))) (by decide) (fun h => by cases h) ?_
      rw [hpe]; rfl
    ·
      refine sk ?_; refine sq ?_; refine sq ?_; refine rl ?_; refine o1 ?_; refine ld ?_; refine o1 ?_; refine WL.splitb (t := 20) rfl (fun h3 => ?_) (fun h3 => ?_)
      ·
        refine o1 ?_; refine o1 ?_; refine ld ?_; refine o1 ?_; refine o1 ?_; refine nl ?_; refine cdp rfl (fun h4 => ?_) (fun h4 => ?_)
        ·
          refine sq ?_; refine rl ?_; refine ld ?_; refine st ?_; refine o1 ?_; refine nl ?_; refine rt ?_
          have hpe : putE (rightQ a.s a.x a.t a.y) q y last was = 4 := by unfold putE; rw [h1, decide_eq_false h2, h3, decide_eq_true h4]; rfl
          refine en (.inl rfl) rfl (pkt (.cons (.agg (.cons (.id rfl) (.cons (.id rfl) (.cons (.id rfl) .nil)))) (.cons (pkv _) .nil))) (by decide) (fun h => by cases h) ?_
          rw [hpe]; rfl
        ·
          refine sk ?_; refine sq ?_; refine rl ?_; refine o1 ?_; refine o1 ?_; refine al 3 ?_; refine st ?_; refine nl ?_; refine sq ?_; refine rl ?_; refine o1 ?_; refine ld ?_; refine o1 ?_
          refine ld ?_; refine w_app (j := 4) ttok rfl rfl rfl rfl .nil .fz (rd_v _) (lone_v _) rfl (by omega) (by omega) ?_
          refine o1 ?_; refine st ?_; refine nl ?_; refine sq ?_; refine sq ?_; refine rl ?_; refine ld ?_; refine ca (c_Sign4 ha) ok48 ⟨a1g rfl, rfl⟩ (.one (tv (.int .i64 q.num.sign))) ?_
          refine o1 ?_; refine nl ?_; refine cdp rfl (fun h5 => ?_) (fun h5 => ?_)
          ·
            obtain rfl := (ha.right h1).symm
            refine rl ?_; refine o1 ?_; refine ld ?_; refine o1 ?_; refine ld ?_; refine o1 ?_; refine bs 5 ?_
            refine w_app (j := 6) ttok rfl rfl rfl rfl (.sl rfl (by rw [List.nil_append, List.length_map, vflat_len, Nat.zero_add])) (.sl rfl rfl rfl) rfl rfl rfl (by omega) (by omega) ?_
            refine o1 ?_; refine st ?_; refine nl ?_; refine sq ?_; refine rl ?_; refine ld ?_
            refine WL.sub (fzg (i := 46) (k := 6) (t := 63) (z := 5) (n := 0 + vs.length + 1) (l := (vs ++ [(y, q)]).flatMap (vtr false)) rfl rfl (congrArg (fun l => some (⟨63, 5, l⟩ : Ob)) (show ([] ++ (vs.flatMap (vtr false)).map AV.t) ++ (vtr false (y, q)).map .t = ((vs ++ [(y, q)]).flatMap (vtr false)).map .t by simp)) (by rw [vflat_len]; simp) (.agg (.cons .sl (.cons .id (.cons .id .nil))))) ?_
            refine st ?_; refine o1 ?_; refine nl ?_; refine rt ?_
            have hpe : putE (rightQ (Fr4.of q).s (Fr4.of q).x (Fr4.of q).t (Fr4.of q).y) q y last was = 0 := by unfold putE; rw [h1, decide_eq_false h2, h3, decide_eq_false h4]; rfl
            refine en (.inl rfl) rfl (pkt (.cons (.agg (.cons (.id rfl) (.cons (.id rfl) (.cons (.id rfl) .nil)))) (.cons (pkv _) .nil))) (by decide) (fun h => by cases h) ?_
            rw [hpe]; have hpl : putL 0 q y vs = (vs ++ [(y, q)]) := by unfold putL; rw [decide_eq_true h5]; rfl
            have hpn : 0 + vs.length + 1 = (vs ++ [(y, q)]).length := by simp
            rw [hpl, hpn]; rfl
          ·
            refine sk ?_; refine sq ?_; refine rl ?_; refine ld ?_
            refine WL.sub (fzg (i := 46) (k := 4) (t := 63) (z := 5) (n := 0 + vs.length) (l := vs.flatMap (vtr false)) rfl rfl (congrArg (fun l => some (⟨63, 5, l⟩ : Ob)) (show [] ++ (vs.flatMap (vtr false)).map AV.t = (vs.flatMap (vtr false)).map .t by simp)) (by rw [vflat_len]; simp) (.agg (.cons .sl (.cons .id (.cons .id .nil))))) ?_
            refine st ?_; refine o1 ?_; refine nl ?_; refine rt ?_; have hpe : putE (rightQ a.s a.x a.t a.y) q y last was = 0 := by unfold putE; rw [h1, decide_eq_false h2, h3, decide_eq_false h4]; rfl
            refine en (.inl rfl) rfl (pkt (.cons (.agg (.cons (.id rfl) (.cons (.id rfl) (.cons (.id rfl) .nil)))) (.cons (pkv _) .nil))) (by decide) (fun h => by cases h) ?_
            rw [hpe]; have hpl : putL 0 q y vs = vs := by unfold putL; rw [decide_eq_false h5]; rfl
            have hpn : 0 + vs.length = vs.length := by simp
            rw [hpl, hpn]; rfl
      ·
        (iterate 4 refine no_ ?_); refine o1 ?_; refine nl ?_; refine cdf rfl ?_; refine sk ?_; refine sq ?_; refine rl ?_; refine o1 ?_; refine o1 ?_; refine al 3 ?_; refine st ?_; refine nl ?_
        refine sq ?_; refine rl ?_; refine o1 ?_; refine ld ?_; refine o1 ?_; refine ld ?_; refine w_app (j := 4) ttok rfl rfl rfl rfl .nil .fz (rd_v _) (lone_v _) rfl (by omega) (by omega) ?_
        refine o1 ?_; refine st ?_; refine nl ?_; refine sq ?_; refine sq ?_; refine rl ?_; refine ld ?_; refine ca (c_Sign4 ha) ok48 ⟨a1g rfl, rfl⟩ (.one (tv (.int .i64 q.num.sign))) ?_; refine o1 ?_
        refine nl ?_; refine cdp rfl (fun h6 => ?_) (fun h6 => ?_)
        ·
          obtain rfl := (ha.right h1).symm
          refine rl ?_; refine o1 ?_; refine ld ?_; refine o1 ?_; refine ld ?_; refine o1 ?_; refine bs 5 ?_
          refine w_app (j := 6) ttok rfl rfl rfl rfl (.sl rfl (by rw [List.nil_append, List.length_map, vflat_len, Nat.zero_add])) (.sl rfl rfl rfl) rfl rfl rfl (by omega) (by omega) ?_
          refine o1 ?_; refine st ?_; refine nl ?_; refine sq ?_; refine rl ?_; refine ld ?_
          refine WL.sub (fzg (i := 46) (k := 6) (t := 63) (z := 5) (n := 0 + vs.length + 1) (l := (vs ++ [(y, q)]).flatMap (vtr false)) rfl rfl (congrArg (fun l => some (⟨63, 5, l⟩ : Ob)) (show ([] ++ (vs.flatMap (vtr false)).map AV.t) ++ (vtr false (y, q)).map .t = ((vs ++ [(y, q)]).flatMap (vtr false)).map .t by simp)) (by rw [vflat_len]; simp) (.agg (.cons .sl (.cons .id (.cons .id .nil))))) ?_
          refine st ?_; refine o1 ?_; refine nl ?_; refine rt ?_
          have hpe : putE (rightQ (Fr4.of q).s (Fr4.of q).x (Fr4.of q).t (Fr4.of q).y) q y last was = 0 := by unfold putE; rw [h1, decide_eq_false h2, h3]; rfl
          refine en (.inl rfl) rfl (pkt (.cons (.agg (.cons (.id rfl) (.cons (.id rfl) (.cons (.id rfl) .nil)))) (.cons (pkv _) .nil))) (by decide) (fun h => by cases h) ?_
          rw [hpe]; have hpl : putL 0 q y vs = (vs ++ [(y, q)]) := by unfold putL; rw [decide_eq_true h6]; rfl
          have hpn : 0 + vs.length + 1 = (vs ++ [(y, q)]).length := by simp
          rw [hpl, hpn]; rfl
        ·
          refine sk ?_; refine sq ?_; refine rl ?_; refine ld ?_
          refine WL.sub (fzg (i := 46) (k := 4) (t := 63) (z := 5) (n := 0 + vs.length) (l := vs.flatMap (vtr false)) rfl rfl (congrArg (fun l => some (⟨63, 5, l⟩ : Ob)) (show [] ++ (vs.flatMap (vtr false)).map AV.t = (vs.flatMap (vtr false)).map .t by simp)) (by rw [vflat_len]; simp) (.agg (.cons .sl (.cons .id (.cons .id .nil))))) ?_
          refine st ?_; refine o1 ?_; refine nl ?_; refine rt ?_; have hpe : putE (rightQ a.s a.x a.t a.y) q y last was = 0 := by unfold putE; rw [h1, decide_eq_false h2, h3]; rfl
          refine en (.inl rfl) rfl (pkt (.cons (.agg (.cons (.id rfl) (.cons (.id rfl) (.cons (.id rfl) .nil)))) (.cons (pkv _) .nil))) (by decide) (fun h => by cases h) ?_
          rw [hpe]; have hpl : putL 0 q y vs = vs := by unfold putL; rw [decide_eq_false h6]; rfl
          have hpn : 0 + vs.length = vs.length := by simp
          rw [hpl, hpn]; rfl
  ·
    refine o1 ?_; refine o1 ?_; (iterate 3 refine no_ ?_); refine o1 ?_; refine nl ?_; refine cdt rfl ?_; refine sq ?_; refine rl ?_; refine ld ?_; refine st ?_; refine o1 ?_; refine nl ?_
    refine rt ?_; have hpe : putE (rightQ a.s a.x a.t a.y) q y last was = 2 := by unfold putE; rw [h1]; rfl
    refine en (.inl rfl) rfl (pkt (.cons (.agg (.cons (.id rfl) (.cons (.id rfl) (.cons (.id rfl) .nil)))) (.cons (pkv _) .nil))) (by decide) (fun h => by cases h) ?_
    rw [hpe]; rfl
end Go.Proofs.YtogaallfhifngaaGreat

/- Walks of the third road: tallageref25. Printed by a program. -/
namespace Go.Proofs.YtogaallfhifngaaGreat
open Go Go.RowKit
theorem c_Min2 {m : Fr4} {v r : Rat} (hm : Qn m r) (hv : Sz 17179869184 v) (hr : Sz 17179869184 r) : Spec false Tryz.prog 59 [] [.one (.t (sQ false [Fr4.of v, m]))] (Ret (qF (.of (qmin v [r])))) := by
  have h := c_Min4 (xs := [Fr4.of v, m]) (by simp) (by
    intro x hx
    rcases List.mem_cons.1 hx with rfl | hx
    · exact ⟨(Qn.of hv).1, by rw [Fr4.q_of]; exact hv⟩
    · rw [List.mem_singleton] at hx
      subst hx
      exact ⟨hm.1, by rw [hm.2]; exact hr⟩) (by simp)
  have e : qmin0 ([Fr4.of v, m].map Fr4.q) = qmin v [r] := by
    show qmin (Fr4.of v).q [m.q] = _
    rw [Fr4.q_of, hm.2]
  rwa [e] at h
set_option maxRecDepth 100000 in
theorem c_Use25 {vs : List (Int × Rat)} {last fr : Int} {was : Bool} {a : Fr4} {p : Rat} (ha : Qn a p) (hl : vs.length ≤ 1073741823) (hw : wts (vs.map Prod.snd) + wt p + 2 * vs.length ≤ 17179869184) : Spec false Tryz.prog 31 [] [.agg (([sV 63 false vs, .v (.int .i64 last), .v (.bool was)] : List Tr).map .t), .one (tv (.int .i64 fr)), qF a] (Ret (.tup [.agg (([sV 63 false (refL fr vs p).1, .v (.int .i64 last), .v (.bool was)] : List Tr).map .t), .one (.t (sV 63 false (refL fr vs p).2.1))])) := by
  refine fn0 Tryz.func31 rfl Tryz.ntmps31 rfl ttok rfl fun N w c0 h0 => ?_
  refine sq ?_; refine rl ?_; refine bx 0 ?_; refine bx 1 ?_; refine al 2 ?_; refine o1 ?_; refine nl ?_; refine sq ?_; refine rl ?_; refine o1 ?_; refine ld ?_; refine o1 ?_; refine ld ?_
  refine o1 ?_; refine al 3 ?_; refine st ?_; refine nl ?_; refine sq ?_; refine rl ?_; refine o1 ?_; refine nl ?_; refine sq ?_; refine sq ?_; refine rl ?_; refine o1 ?_; refine nl ?_; refine bl ?_
  refine lp (γ := Nat × Fr4) (fun s => frL [(1, .one (tv (.int .i64 fr))), (3, .one (.pt 0 0)), (5, .one (.pt 1 0)), (6, .one (.pt 2 0)), (8, .one (.pt 3 0)), (9, .one (.sl 5 0 (refL fr (vs.take s.1) p).2.1.length)), (10, .one (tv (.int .i64 ((s.1 : Nat) : Int))))]) (fun s => [(⟨29, 0, [.t (sV 63 false vs), tv (.int .i64 last), tv (.bool was)]⟩ : Ob), ⟨45, 0, (s.2.tr false).map .t⟩, ⟨29, 0, [tv (.slice none 0 0), tv (.int .i64 0), tv (.bool false)]⟩, ⟨29, 0, [.sl 4 0 (refL fr (vs.take s.1) p).1.length, tv (.int .i64 last), tv (.bool was)]⟩, ⟨63, 5, (((refL fr (vs.take s.1) p).1).flatMap (vtr false)).map .t⟩, ⟨63, 5, (((refL fr (vs.take s.1) p).2.1).flatMap (vtr false)).map .t⟩].map some) (fun s => s.1 ≤ vs.length ∧ Qn s.2 (refL fr (vs.take s.1) p).2.2 ∧ wt (refL fr (vs.take s.1) p).2.2 ≤ wts ((vs.take s.1).map Prod.snd) + wt p + 2 * s.1 ∧ (refL fr (vs.take s.1) p).1.length ≤ s.1 ∧ (refL fr (vs.take s.1) p).2.1.length ≤ s.1) (fun s => vs.length - s.1) (0, a) ⟨Nat.zero_le _, ha, by simp [refL, wts], Nat.le_refl _, Nat.le_refl _⟩ (((nro (j := 3) (key := 4) (e := 63) (z := 5) rfl rfl rfl (.sl (.id (.id .nil)))).trans (nr (i := 9) 5 63 5 rfl rfl rfl rfl)).trans (su0 h0 [0, 1, 2, 3, 4, 5] _ _ (by decide) ⟨rfl, rfl, rfl, rfl, rfl, rfl, rfl, trivial⟩ ⟨oe rfl rfl, oet rfl, oe rfl rfl, oe rfl rfl, oet rfl, oet rfl, rfl⟩)) ?_
  rintro ⟨k, m⟩ ⟨hk, hm, hb, hl1, hl2⟩; dsimp only at hk hm hb hl1 hl2 ⊢; refine sq ?_; refine sq ?_; refine rl ?_; refine o1 ?_; refine o1 ?_; refine ld ?_; refine o1 ?_; refine o1 ?_; refine nl ?_
  refine cdp rfl (fun h1 => ?_) (fun h1 => ?_)
  ·
    refine sk ?_; refine sq ?_; refine bl ?_; refine sq ?_; have hvw : wt (nthV vs (k)).2 ≤ wts (vs.map Prod.snd) := wts_mem (List.mem_map.2 ⟨_, nthV_mem (by omega), rfl⟩)
    have hwk : wts ((vs.take (k + 1)).map Prod.snd) = wts ((vs.take k).map Prod.snd) + wt (nthV vs (k)).2 := by rw [take_v (by omega), List.map_append, wts_append]; simp [wts]
    have hwl : wts ((vs.take (k + 1)).map Prod.snd) ≤ wts (vs.map Prod.snd) := wts_sub ((List.take_sublist _ _).map _)
    have hszv : Sz 17179869184 (nthV vs (k)).2 := sz_iff.2 (by have h9 : wt (nthV vs (k)).2 = szq (nthV vs (k)).2 + 1 := rfl; omega)
    have hszr : Sz 17179869184 (refL fr (vs.take k) p).2.2 := sz_iff.2 (by have h9 : wt (refL fr (vs.take k) p).2.2 = szq (refL fr (vs.take k) p).2.2 + 1 := rfl; omega)
    have hszn : Sz 17179869184 (qmin (nthV vs (k)).2 [(refL fr (vs.take k) p).2.2]) := qmin_sz hszv (fun q hq => by rw [List.mem_singleton] at hq; rw [hq]; exact hszr)
    have hsz0 : Sz 17179869184 ((0 : Int) : Rat) := (int_sz (z := 0) (by omega) (by omega)).mono (by omega)
    have hszl : Sz 68719476736 ((nthV vs (k)).2 - (qmin (nthV vs (k)).2 [(refL fr (vs.take k) p).2.2])) := (sub_sz hszv hszn).mono (by omega)
    have hszk : Sz 68719476736 ((nthV vs (k)).2 - ((0 : Int) : Rat)) := (sub_sz hszv hsz0).mono (by omega)
    have hszm : Sz 68719476736 ((refL fr (vs.take k) p).2.2 - (qmin (nthV vs (k)).2 [(refL fr (vs.take k) p).2.2])) := (sub_sz hszr hszn).mono (by omega)
    refine rl ?_; refine o1 ?_; refine ld ?_; refine o1 ?_; refine o1 ?_; refine ldf (vtr false (nthV vs (k))) (vin_at false (by omega)) ?_
    refine al 6 ?_; refine st ?_; refine nl ?_; refine sq ?_; refine rl ?_; refine ca (c_Whole4 (n := 0) (by omega) (by omega)) ok12 ⟨a1 rfl, rfl⟩ (qF (.of ((0 : Int) : Rat))) ?_
    refine al 7 ?_; refine st ?_; refine nl ?_; refine sq ?_; refine sq ?_; refine rl ?_; refine o1 ?_; refine ld ?_; (iterate 3 refine o1 ?_)
    refine WL.split (t := 36) rfl (fun h2 => ?_) (fun h2 => ?_)
    ·
      refine ld ?_; refine ca (c_Sign4 hm) ok48 ⟨a1g rfl, rfl⟩ (.one (tv (.int .i64 (refL fr (vs.take k) p).2.2.num.sign))) ?_; refine o1 ?_; refine o1 ?_; refine nl ?_
      refine cdp rfl (fun h3 => ?_) (fun h3 => ?_)
      ·
        refine sq ?_; refine rl ?_; refine o1 ?_; refine ld ?_; refine ld ?_; refine bs 8 ?_
        refine WL.sub (fzg (i := 44) (k := 8) (t := 45) (z := 4) (n := 2) (l := ([Fr4.of (nthV vs (k)).2, m]).flatMap (Fr4.tr false)) rfl rfl rfl rfl (.one .sl)) ?_
        refine ca (c_Min2 hm hszv hszr) ok59 ⟨a1 rfl, rfl⟩ (qF (.of (qmin (nthV vs (k)).2 [(refL fr (vs.take k) p).2.2]))) ?_; refine st ?_; refine nl ?_; refine sq ?_; refine rl ?_; refine o1 ?_
        refine o1 ?_; refine ld ?_; refine ld ?_; refine o1 ?_; refine bs 9 ?_
        refine w_app (j := 10) ttok rfl rfl rfl rfl (.sl rfl (by rw [List.length_map, vflat_len])) (.sl rfl rfl rfl) rfl rfl rfl (by omega) (by omega) ?_
        refine o1 ?_; refine nl ?_; refine rl ?_; refine ld ?_; refine ld ?_
        refine ca (c_Sub4 hm (Qn.of (p := (qmin (nthV vs (k)).2 [(refL fr (vs.take k) p).2.2])) hszn) hszr hszn) ok49 ⟨a1g rfl, a1g rfl, rfl⟩ (qF (.of ((refL fr (vs.take k) p).2.2 - (qmin (nthV vs (k)).2 [(refL fr (vs.take k) p).2.2])))) ?_
        refine st ?_; refine nl ?_; refine sq ?_; refine rl ?_; refine o1 ?_; refine ld ?_; refine ld ?_
        refine ca (c_Sub4 (Qn.of (p := (nthV vs (k)).2) hszv) (Qn.of (p := (qmin (nthV vs (k)).2 [(refL fr (vs.take k) p).2.2])) hszn) hszv hszn) ok49 ⟨a1g rfl, a1g rfl, rfl⟩ (qF (.of ((nthV vs (k)).2 - (qmin (nthV vs (k)).2 [(refL fr (vs.take k) p).2.2])))) ?_
        refine al 11 ?_; refine st ?_; refine nl ?_; refine sq ?_; refine rl ?_; refine ld ?_
        refine ca (c_Sign4 (Qn.of (p := ((nthV vs (k)).2 - (qmin (nthV vs (k)).2 [(refL fr (vs.take k) p).2.2]))) hszl)) ok48 ⟨a1g rfl, rfl⟩ (.one (tv (.int .i64 ((nthV vs (k)).2 - (qmin (nthV vs (k)).2 [(refL fr (vs.take k) p).2.2])).num.sign))) ?_
        refine o1 ?_; refine nl ?_; refine cdp rfl (fun h4 => ?_) (fun h4 => ?_)
        ·
          refine rl ?_; refine o1 ?_; refine ld ?_; refine o1 ?_; refine ld ?_; refine ld ?_; refine o1 ?_; refine bs 12 ?_
          refine w_app (j := 13) ttok rfl rfl rfl rfl (.sl rfl (by rw [List.length_map, vflat_len])) (.sl rfl rfl rfl) rfl rfl rfl (by omega) (by omega) ?_
          refine o1 ?_; refine st ?_; refine nl ?_; refine rl ?_; refine o1 ?_; refine o1 ?_; refine WL.cast (t := 25) (u' := .int .i64 ((k + 1 : Nat) : Int)) rfl (cint (by omega)) ?_
          refine o1 ?_; refine nl ?_; have hst := (refL_snoc (fr := fr) p (by omega : k < vs.length)).trans (refS_yes (s := (refL fr (vs.take k) p)) (x := nthV vs k) ⟨h2, h3⟩)
          rw [if_pos h4] at hst; refine ⟨(k + 1, Fr4.of ((refL fr (vs.take k) p).2.2 - (qmin (nthV vs (k)).2 [(refL fr (vs.take k) p).2.2]))), by dsimp only; omega, ?_, ?_⟩
          · dsimp only
            rw [hst]
            exact ⟨by omega, Qn.of hszm, by dsimp only; have h9 := wt_min2 (nthV vs (k)).2 (refL fr (vs.take k) p).2.2; omega, by dsimp only; rw [List.length_append, List.length_singleton]; omega, by dsimp only; rw [List.length_append, List.length_singleton]; omega⟩
          · dsimp only
            rw [hst]; dsimp only
            exact su0 h0 [0, 1, 2, 3, 13, 10] _ _ (by decide) ⟨rfl, rfl, rfl, rfl, rfl, congrArg (fun n => some (FV.one (.sl 10 0 n))) (show ((refL fr (vs.take k) p).2.1 ++ [((nthV vs k).1, (qmin (nthV vs (k)).2 [(refL fr (vs.take k) p).2.2]))]).length = (refL fr (vs.take k) p).2.1.length + 1 by simp), rfl, trivial⟩ ⟨oe rfl rfl, oet rfl, oe rfl rfl, oe rfl (congrArg (fun n => some (⟨29, 0, [.sl 13 0 n, tv (.int .i64 last), tv (.bool was)]⟩ : Ob)) (show (refL fr (vs.take k) p).1.length + 1 = ((refL fr (vs.take k) p).1 ++ [((nthV vs k).1, (nthV vs (k)).2 - (qmin (nthV vs (k)).2 [(refL fr (vs.take k) p).2.2]))]).length by simp)), oet (congrArg (fun l => some (⟨63, 5, l⟩ : Ob)) (show ((refL fr (vs.take k) p).1.flatMap (vtr false)).map AV.t ++ (vtr false ((nthV vs k).1, (nthV vs (k)).2 - (qmin (nthV vs (k)).2 [(refL fr (vs.take k) p).2.2]))).map .t = (((refL fr (vs.take k) p).1 ++ [((nthV vs k).1, (nthV vs (k)).2 - (qmin (nthV vs (k)).2 [(refL fr (vs.take k) p).2.2]))]).flatMap (vtr false)).map .t by simp [List.flatMap_append])), oet (congrArg (fun l => some (⟨63, 5, l⟩ : Ob)) (show ((refL fr (vs.take k) p).2.1.flatMap (vtr false)).map AV.t ++ (vtr false ((nthV vs k).1, (qmin (nthV vs (k)).2 [(refL fr (vs.take k) p).2.2]))).map .t = (((refL fr (vs.take k) p).2.1 ++ [((nthV vs k).1, (qmin (nthV vs (k)).2 [(refL fr (vs.take k) p).2.2]))]).flatMap (vtr false)).map .t by simp [List.flatMap_append])), rfl⟩
        ·
          refine sk ?_; refine rl ?_; refine o1 ?_; refine o1 ?_; refine WL.cast (t := 25) (u' := .int .i64 ((k + 1 : Nat) : Int)) rfl (cint (by omega)) ?_
          refine o1 ?_; refine nl ?_; have hst := (refL_snoc (fr := fr) p (by omega : k < vs.length)).trans (refS_yes (s := (refL fr (vs.take k) p)) (x := nthV vs k) ⟨h2, h3⟩)
          rw [if_neg h4] at hst; refine ⟨(k + 1, Fr4.of ((refL fr (vs.take k) p).2.2 - (qmin (nthV vs (k)).2 [(refL fr (vs.take k) p).2.2]))), by dsimp only; omega, ?_, ?_⟩
          · dsimp only
            rw [hst]
            exact ⟨by omega, Qn.of hszm, by dsimp only; have h9 := wt_min2 (nthV vs (k)).2 (refL fr (vs.take k) p).2.2; omega, by dsimp only; omega, by dsimp only; rw [List.length_append, List.length_singleton]; omega⟩
          · dsimp only
            rw [hst]; dsimp only
            exact su0 h0 [0, 1, 2, 3, 4, 10] _ _ (by decide) ⟨rfl, rfl, rfl, rfl, rfl, congrArg (fun n => some (FV.one (.sl 10 0 n))) (show ((refL fr (vs.take k) p).2.1 ++ [((nthV vs k).1, (qmin (nthV vs (k)).2 [(refL fr (vs.take k) p).2.2]))]).length = (refL fr (vs.take k) p).2.1.length + 1 by simp), rfl, trivial⟩ ⟨oe rfl rfl, oet rfl, oe rfl rfl, oe rfl rfl, oet rfl, oet (congrArg (fun l => some (⟨63, 5, l⟩ : Ob)) (show ((refL fr (vs.take k) p).2.1.flatMap (vtr false)).map AV.t ++ (vtr false ((nthV vs k).1, (qmin (nthV vs (k)).2 [(refL fr (vs.take k) p).2.2]))).map .t = (((refL fr (vs.take k) p).2.1 ++ [((nthV vs k).1, (qmin (nthV vs (k)).2 [(refL fr (vs.take k) p).2.2]))]).flatMap (vtr false)).map .t by simp [List.flatMap_append])), rfl⟩
      ·
        refine sk ?_; refine sq ?_; refine rl ?_; refine o1 ?_; refine ld ?_; refine ld ?_
        refine ca (c_Sub4 (Qn.of (p := (nthV vs (k)).2) hszv) (Qn.of (p := ((0 : Int) : Rat)) hsz0) hszv hsz0) ok49 ⟨a1g rfl, a1g rfl, rfl⟩ (qF (.of ((nthV vs (k)).2 - ((0 : Int) : Rat)))) ?_
        refine al 8 ?_; refine st ?_; refine nl ?_; refine sq ?_; refine rl ?_; refine ld ?_
        refine ca (c_Sign4 (Qn.of (p := ((nthV vs (k)).2 - ((0 : Int) : Rat))) hszk)) ok48 ⟨a1g rfl, rfl⟩ (.one (tv (.int .i64 ((nthV vs (k)).2 - ((0 : Int) : Rat)).num.sign))) ?_; refine o1 ?_
        refine nl ?_; refine cdp rfl (fun h5 => ?_) (fun h5 => ?_)
        ·
          refine rl ?_; refine o1 ?_; refine ld ?_; refine o1 ?_; refine ld ?_; refine ld ?_; refine o1 ?_; refine bs 9 ?_
          refine w_app (j := 10) ttok rfl rfl rfl rfl (.sl rfl (by rw [List.length_map, vflat_len])) (.sl rfl rfl rfl) rfl rfl rfl (by omega) (by omega) ?_
          refine o1 ?_; refine st ?_; refine nl ?_; refine rl ?_; refine o1 ?_; refine o1 ?_; refine WL.cast (t := 25) (u' := .int .i64 ((k + 1 : Nat) : Int)) rfl (cint (by omega)) ?_
          refine o1 ?_; refine nl ?_; have hst := (refL_snoc (fr := fr) p (by omega : k < vs.length)).trans (refS_no (s := (refL fr (vs.take k) p)) (x := nthV vs k) (fun hc => h3 hc.2))
          rw [if_pos h5] at hst; refine ⟨(k + 1, m), by dsimp only; omega, ?_, ?_⟩
          · dsimp only
            rw [hst]; exact ⟨by omega, hm, by dsimp only; omega, by dsimp only; rw [List.length_append, List.length_singleton]; omega, by dsimp only; omega⟩
          · dsimp only
            rw [hst]; dsimp only
            exact su0 h0 [0, 1, 2, 3, 10, 5] _ _ (by decide) ⟨rfl, rfl, rfl, rfl, rfl, rfl, rfl, trivial⟩ ⟨oe rfl rfl, oet rfl, oe rfl rfl, oe rfl (congrArg (fun n => some (⟨29, 0, [.sl 10 0 n, tv (.int .i64 last), tv (.bool was)]⟩ : Ob)) (show (refL fr (vs.take k) p).1.length + 1 = ((refL fr (vs.take k) p).1 ++ [((nthV vs k).1, (nthV vs (k)).2 - ((0 : Int) : Rat))]).length by simp)), oet (congrArg (fun l => some (⟨63, 5, l⟩ : Ob)) (show ((refL fr (vs.take k) p).1.flatMap (vtr false)).map AV.t ++ (vtr false ((nthV vs k).1, (nthV vs (k)).2 - ((0 : Int) : Rat))).map .t = (((refL fr (vs.take k) p).1 ++ [((nthV vs k).1, (nthV vs (k)).2 - ((0 : Int) : Rat))]).flatMap (vtr false)).map .t by simp [List.flatMap_append])), oet rfl, rfl⟩
        ·
          refine sk ?_; refine rl ?_; refine o1 ?_; refine o1 ?_; refine WL.cast (t := 25) (u' := .int .i64 ((k + 1 : Nat) : Int)) rfl (cint (by omega)) ?_
          refine o1 ?_; refine nl ?_; have hst := (refL_snoc (fr := fr) p (by omega : k < vs.length)).trans (refS_no (s := (refL fr (vs.take k) p)) (x := nthV vs k) (fun hc => h3 hc.2))
          rw [if_neg h5] at hst; refine ⟨(k + 1, m), by dsimp only; omega, ?_, ?_⟩
          · dsimp only
            rw [hst]; exact ⟨by omega, hm, by dsimp only; omega, by dsimp only; omega, by dsimp only; omega⟩
          · dsimp only
            rw [hst]; dsimp only; exact su0 h0 [0, 1, 2, 3, 4, 5] _ _ (by decide) ⟨rfl, rfl, rfl, rfl, rfl, rfl, rfl, trivial⟩ ⟨oe rfl rfl, oet rfl, oe rfl rfl, oe rfl rfl, oet rfl, oet rfl, rfl⟩
    ·
      (iterate 3 refine no_ ?_); refine o1 ?_; refine nl ?_; refine cdf rfl ?_; refine sk ?_; refine sq ?_; refine rl ?_; refine o1 ?_; refine ld ?_; refine ld ?_
      refine ca (c_Sub4 (Qn.of (p := (nthV vs (k)).2) hszv) (Qn.of (p := ((0 : Int) : Rat)) hsz0) hszv hsz0) ok49 ⟨a1g rfl, a1g rfl, rfl⟩ (qF (.of ((nthV vs (k)).2 - ((0 : Int) : Rat)))) ?_
      refine al 8 ?_; refine st ?_; refine nl ?_; refine sq ?_; refine rl ?_; refine ld ?_
      refine ca (c_Sign4 (Qn.of (p := ((nthV vs (k)).2 - ((0 : Int) : Rat))) hszk)) ok48 ⟨a1g rfl, rfl⟩ (.one (tv (.int .i64 ((nthV vs (k)).2 - ((0 : Int) : Rat)).num.sign))) ?_; refine o1 ?_
      refine nl ?_; refine cdp rfl (fun h6 => ?_) (fun h6 => ?_)
      ·
        refine rl ?_; refine o1 ?_; refine ld ?_; refine o1 ?_; refine ld ?_; refine ld ?_; refine o1 ?_; refine bs 9 ?_
        refine w_app (j := 10) ttok rfl rfl rfl rfl (.sl rfl (by rw [List.length_map, vflat_len])) (.sl rfl rfl rfl) rfl rfl rfl (by omega) (by omega) ?_
        refine o1 ?_; refine st ?_; refine nl ?_; refine rl ?_; refine o1 ?_; refine o1 ?_; refine WL.cast (t := 25) (u' := .int .i64 ((k + 1 : Nat) : Int)) rfl (cint (by omega)) ?_
        refine o1 ?_; refine nl ?_; have hst := (refL_snoc (fr := fr) p (by omega : k < vs.length)).trans (refS_no (s := (refL fr (vs.take k) p)) (x := nthV vs k) (fun hc => h2 hc.1))
        rw [if_pos h6] at hst; refine ⟨(k + 1, m), by dsimp only; omega, ?_, ?_⟩
        · dsimp only
          rw [hst]; exact ⟨by omega, hm, by dsimp only; omega, by dsimp only; rw [List.length_append, List.length_singleton]; omega, by dsimp only; omega⟩
        · dsimp only
          rw [hst]; dsimp only
          exact su0 h0 [0, 1, 2, 3, 10, 5] _ _ (by decide) ⟨rfl, rfl, rfl, rfl, rfl, rfl, rfl, trivial⟩ ⟨oe rfl rfl, oet rfl, oe rfl rfl, oe rfl (congrArg (fun n => some (⟨29, 0, [.sl 10 0 n, tv (.int .i64 last), tv (.bool was)]⟩ : Ob)) (show (refL fr (vs.take k) p).1.length + 1 = ((refL fr (vs.take k) p).1 ++ [((nthV vs k).1, (nthV vs (k)).2 - ((0 : Int) : Rat))]).length by simp)), oet (congrArg (fun l => some (⟨63, 5, l⟩ : Ob)) (show ((refL fr (vs.take k) p).1.flatMap (vtr false)).map AV.t ++ (vtr false ((nthV vs k).1, (nthV vs (k)).2 - ((0 : Int) : Rat))).map .t = (((refL fr (vs.take k) p).1 ++ [((nthV vs k).1, (nthV vs (k)).2 - ((0 : Int) : Rat))]).flatMap (vtr false)).map .t by simp [List.flatMap_append])), oet rfl, rfl⟩
      ·
        refine sk ?_; refine rl ?_; refine o1 ?_; refine o1 ?_; refine WL.cast (t := 25) (u' := .int .i64 ((k + 1 : Nat) : Int)) rfl (cint (by omega)) ?_
        refine o1 ?_; refine nl ?_; have hst := (refL_snoc (fr := fr) p (by omega : k < vs.length)).trans (refS_no (s := (refL fr (vs.take k) p)) (x := nthV vs k) (fun hc => h2 hc.1))
        rw [if_neg h6] at hst; refine ⟨(k + 1, m), by dsimp only; omega, ?_, ?_⟩
        · dsimp only
          rw [hst]; exact ⟨by omega, hm, by dsimp only; omega, by dsimp only; omega, by dsimp only; omega⟩
        · dsimp only
          rw [hst]; dsimp only; exact su0 h0 [0, 1, 2, 3, 4, 5] _ _ (by decide) ⟨rfl, rfl, rfl, rfl, rfl, rfl, rfl, trivial⟩ ⟨oe rfl rfl, oet rfl, oe rfl rfl, oe rfl rfl, oet rfl, oet rfl, rfl⟩
  ·
    refine ex ?_; refine sq ?_; refine rl ?_; refine ld ?_; have hkk : vs.take k = vs := List.take_of_length_le (by omega)
    have hG9 : (refL fr (vs.take k) p).2.1 = (refL fr vs p).2.1 := by rw [hkk]
    have hL9 : (refL fr (vs.take k) p).1 = (refL fr vs p).1 := by rw [hkk]
    refine WL.sub (fzg (i := 72) (k := 4) (t := 63) (z := 5) (n := ((refL fr (vs.take k) p).1).length) (l := ((refL fr (vs.take k) p).1).flatMap (vtr false)) rfl rfl rfl (vflat_len false ((refL fr (vs.take k) p).1)) (.agg (.cons .sl (.cons .id (.cons .id .nil))))) ?_
    refine WL.sub (fzg (i := 9) (k := 5) (t := 63) (z := 5) (n := ((refL fr (vs.take k) p).2.1).length) (l := ((refL fr (vs.take k) p).2.1).flatMap (vtr false)) rfl rfl rfl (vflat_len false ((refL fr (vs.take k) p).2.1)) (.one .sl)) ?_
    refine o1 ?_; refine st ?_; refine o1 ?_; refine nl ?_; refine rt ?_
    exact en (.inl rfl) rfl (pkt (.cons (.agg (.cons (.id rfl) (.cons (.id rfl) (.cons (.id rfl) .nil)))) (.cons (.one (.id rfl)) .nil))) (by decide) (fun h => by cases h) (by rw [← hG9, ← hL9]; rfl)
end Go.Proofs.YtogaallfhifngaaGreat

/- Walks of the third road: filings. Printed by a program. -/
namespace Go.Proofs.YtogaallfhifngaaGreat
open Go Go.RowKit
set_option maxRecDepth 100000 in
theorem c_limbs {xs : List Nat} (hx : xs.length ≤ 1099511627776) : Spec true Tryz.prog 39 [] [.one (.t (sU false xs))] (Ret (.one (.t (sU true xs)))) := by
  refine fn0 Tryz.func39 rfl Tryz.ntmps39 rfl ttok rfl fun N w c0 h0 => ?_
  refine sq ?_; refine rl ?_; refine o1 ?_; refine nl ?_; refine sq ?_; refine rl ?_; refine o1 ?_; refine nl ?_; refine sq ?_; refine rl ?_; refine o1 ?_; refine o1 ?_
  refine w_app (j := 0) ttok rfl rfl rfl rfl .nil .fz (rd_u32 _) (lone_u32 _) rfl (by omega) (by omega) ?_
  refine o1 ?_; refine nl ?_; refine rt ?_
  exact en (.inl rfl) rfl (pk1 (.one (.sl rfl rfl (by rw [Nat.zero_add, Nat.mul_one, List.nil_append, List.take_of_length_le (by simp [u32T_len])]) (by simp [u32T_len])))) (by decide) (fun _ => .inl ⟨rfl, nofr_u32 xs⟩) (by simp [Ret, sU])
set_option maxRecDepth 100000 in
theorem c_row {xs ys : List Nat} (hx : xs.length ≤ 1099511627776) (hy : ys.length ≤ 1099511627776) : Spec true Tryz.prog 61 [] [.one (.t (sU false xs)), .one (.t (sU false ys))] (Ret (.one (tv (.bool (decide (xs = ys)))))) := by
  refine fn0 Tryz.func61 rfl Tryz.ntmps61 rfl ttok rfl fun N w c0 h0 => ?_
  refine sq ?_; refine rl ?_; refine o1 ?_; refine nl ?_; refine sq ?_; refine sq ?_; refine rl ?_; (iterate 5 refine o1 ?_); refine nl ?_; refine cdp rfl (fun h1 => ?_) (fun h1 => ?_)
  ·
    refine sq ?_; refine rl ?_; refine o1 ?_; refine nl ?_; refine rt ?_; refine en (.inl rfl) rfl (pk1 (pkv _)) (by decide) (fun _ => trivial) (congrArg (fun b => FV.one (tv (.bool b))) ?_)
    exact (decide_eq_false (fun h => h1 (by rw [h]))).symm
  ·
    refine sk ?_; refine sq ?_; refine sq ?_; refine rl ?_; refine o1 ?_; refine nl ?_; refine bl ?_
    refine lp (γ := Nat) (fun k => frL [(0, .one (.t (sU false xs))), (1, .one (.t (sU false ys))), (5, .one (tv (.int .i64 ((k : Nat) : Int))))]) (fun k => [].map some) (fun k => k ≤ xs.length ∧ xs.take k = ys.take k) (fun k => xs.length - k) 0 (⟨Nat.zero_le _, rfl⟩) (su0 h0 [] _ _ (by decide) ⟨rfl, rfl, rfl, trivial⟩ rfl) fun k hk => ?_
    refine sq ?_; refine sq ?_; refine rl ?_; (iterate 4 refine o1 ?_); refine nl ?_; refine cdp rfl (fun h2 => ?_) (fun h2 => ?_)
    ·
      refine sk ?_; refine sq ?_; refine bl ?_; refine sq ?_; refine rd [] (fun i => [].contains i) mixed ?_
      refine dv 0 ?_; refine dv 1 ?_; refine dv 2 ?_; refine dlr 3 ([.v (.int .u32 ((nth xs (k) : Nat) : Int))]) (u32_at xs (k := k) (by omega)) ?_
      refine dv 4 ?_; refine dv 5 ?_; refine dv 6 ?_; refine dlr 7 ([.v (.int .u32 ((nth ys (k) : Nat) : Int))]) (u32_at ys (k := k) (by omega)) ?_
      refine dv 8 ?_; refine dz0 ?_; refine cdp rfl (fun h3 => ?_) (fun h3 => ?_)
      ·
        refine sq ?_; refine rl ?_; refine o1 ?_; refine nl ?_; refine rt ?_; refine en (.inl rfl) rfl (pk1 (pkv _)) (by decide) (fun _ => trivial) (congrArg (fun b => FV.one (tv (.bool b))) ?_)
        exact (decide_eq_false (fun h => h3 (by rw [h]))).symm
      ·
        refine sk ?_; refine rl ?_; (iterate 3 refine o1 ?_); refine nl ?_
        exact ⟨k + 1, by omega, ⟨by omega, row_step hk.2 (by omega) (by omega) (by omega)⟩, su0 h0 [] _ _ (by decide) ⟨rfl, rfl, rfl, trivial⟩ rfl⟩
    ·
      refine ex ?_; refine sq ?_; refine rl ?_; refine o1 ?_; refine nl ?_; refine rt ?_
      refine en (.inl rfl) rfl (pk1 (pkv _)) (by decide) (fun _ => trivial) (congrArg (fun b => FV.one (tv (.bool b))) ?_)
      exact (decide_eq_true (by rw [← List.take_of_length_le (i := k) (l := xs) (by omega), hk.2, List.take_of_length_le (by omega)])).symm
set_option maxRecDepth 100000 in
theorem c_RefRat {a : Fr4} (ha : a.len 1099511627776) : Spec true Tryz.prog 14 [] [qF a] (Ret (rO a)) := by
  refine fn0 Tryz.func14 rfl Tryz.ntmps14 rfl ttok rfl fun N w c0 h0 => ?_
  refine sq ?_; refine rl ?_; refine bx 0 ?_; refine al 1 ?_; refine nl ?_; refine sq ?_; refine rd [0, 1] (fun i => [17].contains i) mixed ?_
  refine dv 0 ?_; refine dv 1 ?_; refine dld 2 ?_; refine dv 3 ?_; refine dv 4 ?_; refine dld 5 ?_; refine dv 8 ?_; refine dv 9 ?_; refine dld 10 ?_; refine dv 11 ?_; refine dv 12 ?_; refine dld 13 ?_
  refine dck 2 6 rfl (c_limbs ha.1) ok39 ⟨a1 rfl, rfl⟩ ?_; refine df 7 ?_; refine dck 3 14 rfl (c_limbs ha.2) ok39 ⟨a1 rfl, rfl⟩ ?_; refine df 15 ?_; refine df 16 ?_; refine dst 17 ?_; refine dz0 ?_
  refine rt ?_
  exact en (.inl rfl) rfl (pk1 (.agg (.cons (.id rfl) (.cons (.sl (trs := u32T a.x) rfl rfl (tk_u32 _) (ln_u32 _)) (.cons (.id rfl) (.cons (.sl (trs := u32T a.y) rfl rfl (tk_u32 _) (ln_u32 _)) .nil)))))) (by decide) (fun _ => nofr_r a) rfl
set_option maxRecDepth 100000 in
theorem c_OfRat {a : Fr4} (ha : a.len 1099511627776) : Spec true Tryz.prog 35 [] [qF a] (Ret (rO a)) := by
  refine fn0 Tryz.func35 rfl Tryz.ntmps35 rfl ttok rfl fun N w c0 h0 => ?_
  refine sq ?_; refine rl ?_; refine bx 0 ?_; refine al 1 ?_; refine nl ?_; refine sq ?_; refine rd [0, 1] (fun i => [17].contains i) mixed ?_
  refine dv 0 ?_; refine dv 1 ?_; refine dld 2 ?_; refine dv 3 ?_; refine dv 4 ?_; refine dld 5 ?_; refine dv 8 ?_; refine dv 9 ?_; refine dld 10 ?_; refine dv 11 ?_; refine dv 12 ?_; refine dld 13 ?_
  refine dck 2 6 rfl (c_limbs ha.1) ok39 ⟨a1 rfl, rfl⟩ ?_; refine df 7 ?_; refine dck 3 14 rfl (c_limbs ha.2) ok39 ⟨a1 rfl, rfl⟩ ?_; refine df 15 ?_; refine df 16 ?_; refine dst 17 ?_; refine dz0 ?_
  refine rt ?_
  exact en (.inl rfl) rfl (pk1 (.agg (.cons (.id rfl) (.cons (.sl (trs := u32T a.x) rfl rfl (tk_u32 _) (ln_u32 _)) (.cons (.id rfl) (.cons (.sl (trs := u32T a.y) rfl rfl (tk_u32 _) (ln_u32 _)) .nil)))))) (by decide) (fun _ => nofr_r a) rfl
set_option maxRecDepth 100000 in
theorem c_IsRat {a b : Fr4} (ha : a.len 1099511627776) (hb : b.len 1099511627776) : Spec true Tryz.prog 36 [] [qF a, qF b] (Ret (.one (tv (.bool (decide (a = b)))))) := by
  refine fn0 Tryz.func36 rfl Tryz.ntmps36 rfl ttok rfl fun N w c0 h0 => ?_
  refine sq ?_; refine rl ?_; refine bx 0 ?_; refine bx 1 ?_; refine o1 ?_; refine nl ?_; refine sq ?_; refine rl ?_; refine o1 ?_; refine o1 ?_; refine ld ?_; refine o1 ?_; refine o1 ?_; refine ld ?_
  refine o1 ?_; refine o1 ?_; refine WL.splitb (t := 12) rfl (fun h1 => ?_) (fun h1 => ?_)
  ·
    refine o1 ?_; refine o1 ?_; refine ld ?_; refine o1 ?_; refine o1 ?_; refine ld ?_; (iterate 3 refine o1 ?_); refine WL.splitb (t := 21) rfl (fun h2 => ?_) (fun h2 => ?_)
    ·
      refine o1 ?_; refine o1 ?_; refine ld ?_; refine o1 ?_; refine o1 ?_; refine ld ?_; refine ca (c_row ha.1 hb.1) ok61 ⟨a1 rfl, a1 rfl, rfl⟩ (.one (tv (.bool (decide (a.x = b.x))))) ?_
      refine o1 ?_; refine o1 ?_; refine WL.split (t := 30) rfl (fun h3 => ?_) (fun h3 => ?_)
      ·
        refine o1 ?_; refine o1 ?_; refine ld ?_; refine o1 ?_; refine o1 ?_; refine ld ?_; refine ca (c_row ha.2 hb.2) ok61 ⟨a1 rfl, a1 rfl, rfl⟩ (.one (tv (.bool (decide (a.y = b.y))))) ?_
        refine o1 ?_; refine o1 ?_; refine nl ?_; refine rt ?_; exact en (.inl rfl) rfl (pk1 (pkv _)) (by decide) (fun _ => trivial) (congrArg (fun b => FV.one (tv (.bool b))) (by simp_all [fr4_eq]))
      ·
        (iterate 7 refine no_ ?_); refine o1 ?_; refine o1 ?_; refine nl ?_; refine rt ?_
        exact en (.inl rfl) rfl (pk1 (pkv _)) (by decide) (fun _ => trivial) (congrArg (fun b => FV.one (tv (.bool b))) (by simp_all [fr4_eq]))
    ·
      (iterate 7 refine no_ ?_); refine o1 ?_; refine o1 ?_; (iterate 7 refine no_ ?_); refine o1 ?_; refine o1 ?_; refine nl ?_; refine rt ?_
      exact en (.inl rfl) rfl (pk1 (pkv _)) (by decide) (fun _ => trivial) (congrArg (fun b => FV.one (tv (.bool b))) (by simp_all [fr4_eq]))
  ·
    (iterate 7 refine no_ ?_); refine o1 ?_; refine o1 ?_; (iterate 7 refine no_ ?_); refine o1 ?_; refine o1 ?_; (iterate 7 refine no_ ?_); refine o1 ?_; refine o1 ?_; refine nl ?_; refine rt ?_
    exact en (.inl rfl) rfl (pk1 (pkv _)) (by decide) (fun _ => trivial) (congrArg (fun b => FV.one (tv (.bool b))) (by simp_all [fr4_eq]))
end Go.Proofs.YtogaallfhifngaaGreat

/- Filings: Pick, By; the law of loss: short, few, same, spoil. Printed by a program. -/
namespace Go.Proofs.YtogaallfhifngaaGreat
open Go Go.RowKit
set_option maxRecDepth 100000 in
theorem f_Pick {i n : Int} (hn : 0 < n) (hn2 : n ≤ 1000000) : Spec true Tryz.prog 13 [] [.one (tv (.int .i64 i)), .one (tv (.int .i64 n))] (Ret (.one (tv (.int .i64 ((i.tmod n + n).tmod n))))) := by
  refine fn0 Tryz.func13 rfl Tryz.ntmps13 rfl ttok rfl fun N w c0 h0 => ?_
  have hp := pick_in (i := i) hn
  refine sq ?_; refine rl ?_; refine o1 ?_; refine nl ?_; refine sq ?_; refine sq ?_; refine rl ?_; refine o1 ?_; refine o1 ?_; refine nl ?_; refine cdp rfl (fun h1 => ?_) (fun h1 => ?_)
  ·
    exact absurd h1 (by omega)
  ·
    refine sk ?_; refine sq ?_; refine rl ?_; refine o1 ?_; refine o1 ?_; refine o1 ?_ (hC := (by omega))
    (iterate 3 refine o1 ?_); refine o1 ?_ (hC := (by omega))
    refine o1 ?_; refine nl ?_; refine rt ?_; exact en (.inl rfl) rfl (pk1 (pkv _)) (by decide) (fun _ => trivial) rfl
set_option maxRecDepth 100000 in
theorem f_By {n d : Int} (h1 : -9223372036854775808 ≤ n) (h2 : n ≤ 9223372036854775807) (h3 : -9223372036854775808 ≤ d) (h4 : d ≤ 9223372036854775807) : Spec true Tryz.prog 26 [] [.one (tv (.int .i64 n)), .one (tv (.int .i64 d))] (Ret (qO (Rat.divInt n d))) := by
  refine fn0 Tryz.func26 rfl Tryz.ntmps26 rfl ttok rfl fun N w c0 h0 => ?_
  have hs := by_sz h1 h2 h3 h4
  have hl : (Fr4.of (Rat.divInt n d)).len 1099511627776 := ⟨Nat.le_trans hs.1 (by omega), Nat.le_trans hs.2 (by omega)⟩
  refine sq ?_; refine rl ?_; refine al 0 ?_; refine nl ?_; refine sq ?_; refine rl ?_; refine o1 ?_; refine o1 ?_
  refine ca (c_Of4 h1 h2 h3 h4) ok55 ⟨a1 rfl, a1 rfl, rfl⟩ (.tup [qF (.of (Rat.divInt n d)), .one (tv (.int .i64 (if d = 0 then 20 else 0)))]) ?_; (iterate 3 refine o1 ?_); refine al 1 ?_; refine st ?_
  refine o1 ?_; refine nl ?_; refine sq ?_; refine rl ?_; refine ld ?_; refine cak 2 (c_OfRat (a := .of (Rat.divInt n d)) hl) ok35 ⟨a1g rfl, rfl⟩ ?_; refine st ?_; refine nl ?_; refine rt ?_
  exact en (.inl rfl) rfl (pk1 (.agg (.cons (.id rfl) (.cons (.sl (trs := u32T (dg 4294967296 (Rat.divInt n d).num.natAbs)) rfl rfl (tk_u32 _) (ln_u32 _)) (.cons (.id rfl) (.cons (.sl (trs := u32T (dg 4294967296 (Rat.divInt n d).den)) rfl rfl (tk_u32 _) (ln_u32 _)) .nil)))))) (by decide) (fun _ => nofr_q _) rfl
set_option maxRecDepth 100000 in
theorem l_short {a : Fr4} : Spec true Tryz.prog 23 [] [qF a] (Ret (.one (tv (.bool (shortB a))))) := by
  refine fn0 Tryz.func23 rfl Tryz.ntmps23 rfl ttok rfl fun N w c0 h0 => ?_
  refine sq ?_; refine rl ?_; refine bx 0 ?_; refine o1 ?_; refine nl ?_; refine sq ?_; refine rl ?_; refine o1 ?_; refine o1 ?_; refine ld ?_; (iterate 3 refine o1 ?_)
  refine WL.split (t := 8) rfl (fun h1 => ?_) (fun h1 => ?_)
  ·
    refine o1 ?_; refine o1 ?_; refine ld ?_; (iterate 4 refine o1 ?_); refine nl ?_; refine rt ?_
    exact en (.inl rfl) rfl (pk1 (pkv _)) (by decide) (fun _ => trivial) (congrArg (fun z => FV.one (tv (.bool z))) (by unfold shortB; rw [decide_eq_true h1]; rfl))
  ·
    (iterate 5 refine no_ ?_); refine o1 ?_; refine o1 ?_; refine nl ?_; refine rt ?_
    exact en (.inl rfl) rfl (pk1 (pkv _)) (by decide) (fun _ => trivial) (congrArg (fun z => FV.one (tv (.bool z))) (by unfold shortB; rw [decide_eq_false h1]; rfl))
set_option maxRecDepth 100000 in
theorem l_few {xs : List At} {top : Int} : Spec true Tryz.prog 7 [] [.one (.t (sAc 38 xs)), .one (tv (.int .i64 top))] (Ret (.one (tv (.bool (fewB xs top))))) := by
  refine fn0 Tryz.func7 rfl Tryz.ntmps7 rfl ttok rfl fun N w c0 h0 => ?_
  refine sq ?_; refine rl ?_; refine o1 ?_; refine nl ?_; refine sq ?_; refine sq ?_; refine rl ?_; refine o1 ?_; refine nl ?_; refine bl ?_
  refine lp (γ := Nat) (fun k => frL [(0, .one (.t (sAc 38 xs))), (1, .one (tv (.int .i64 top))), (5, .one (tv (.int .i64 ((k : Nat) : Int))))]) (fun k => [].map some) (fun k => k ≤ xs.length ∧ ∀ j, j < k → shortB (nthA xs j).2.2 = true) (fun k => xs.length - k) 0 (⟨Nat.zero_le _, fun j hj => absurd hj (Nat.not_lt_zero j)⟩) (su0 h0 [] _ _ (by decide) ⟨rfl, rfl, rfl, trivial⟩ rfl) fun k hk => ?_
  refine sq ?_; refine sq ?_; refine rl ?_; (iterate 5 refine o1 ?_); refine WL.split (t := 10) rfl (fun h1 => ?_) (fun h1 => ?_)
  ·
    (iterate 3 refine o1 ?_); refine nl ?_; refine cdp rfl (fun h2 => ?_) (fun h2 => ?_)
    ·
      refine sk ?_; refine sq ?_; refine bl ?_; refine sq ?_; refine rl ?_; (iterate 4 refine o1 ?_); refine ldf ((nthA xs (k)).2.2.tr false) (act_q (by omega)) ?_
      refine ca (l_short (a := (nthA xs (k)).2.2)) ok23 ⟨a1g rfl, rfl⟩ (.one (tv (.bool (shortB (nthA xs (k)).2.2)))) ?_; refine WL.splitb (t := 21) rfl (fun h3 => ?_) (fun h3 => ?_)
      ·
        refine o1 ?_; refine nl ?_; refine cdf rfl ?_; refine sk ?_; refine rl ?_; refine o1 ?_; refine o1 ?_; refine WL.cast (t := 15) (u' := .int .i64 ((k + 1 : Nat) : Int)) rfl (cint (by omega)) ?_
        refine o1 ?_; refine nl ?_
        exact ⟨k + 1, by omega, ⟨by omega, fun j hj => by rcases Nat.lt_succ_iff_lt_or_eq.1 hj with h9 | h9; exact hk.2 j h9; subst h9; exact h3⟩, su0 h0 [] _ _ (by decide) ⟨rfl, rfl, rfl, trivial⟩ rfl⟩
      ·
        refine o1 ?_; refine nl ?_; refine cdt rfl ?_; refine sq ?_; refine rl ?_; refine o1 ?_; refine nl ?_; refine rt ?_
        exact en (.inl rfl) rfl (pk1 (pkv _)) (by decide) (fun _ => trivial) (congrArg (fun z => FV.one (tv (.bool z))) (few_no (k := k) (by omega) (by omega) h3))
    ·
      refine ex ?_; refine sq ?_; refine rl ?_; (iterate 5 refine o1 ?_); refine nl ?_; refine rt ?_
      exact en (.inl rfl) rfl (pk1 (pkv _)) (by decide) (fun _ => trivial) (congrArg (fun z => FV.one (tv (.bool z))) (few_yes (k := k) hk.2 hk.1 (by omega)))
  ·
    refine no_ ?_; refine no_ ?_; refine o1 ?_; refine nl ?_; refine cdf rfl ?_; refine ex ?_; refine sq ?_; refine rl ?_; (iterate 5 refine o1 ?_); refine nl ?_; refine rt ?_
    exact en (.inl rfl) rfl (pk1 (pkv _)) (by decide) (fun _ => trivial) (congrArg (fun z => FV.one (tv (.bool z))) (few_yes (k := k) hk.2 hk.1 (by omega)))
set_option maxRecDepth 100000 in
theorem l_same {us ws : List (Int × Rat)} (hu : ∀ x ∈ us, Sz 68719476736 x.2) (hw : ∀ x ∈ ws, Sz 68719476736 x.2) (hlu9 : us.length ≤ 1073741823) (hlw9 : ws.length ≤ 1073741823) : Spec true Tryz.prog 29 [] [.one (.t (sV 57 false us)), .one (.t (sV 63 false ws))] (Ret (.one (tv (.bool (decide (us = ws)))))) := by
  refine fn0 Tryz.func29 rfl Tryz.ntmps29 rfl ttok rfl fun N w c0 h0 => ?_
  have hlu : ∀ x ∈ us, (Fr4.of x.2).len 1099511627776 := fun x hx => ⟨Nat.le_trans (hu x hx).1 (by omega), Nat.le_trans (hu x hx).2 (by omega)⟩
  have hlw : ∀ x ∈ ws, (Fr4.of x.2).len 1099511627776 := fun x hx => ⟨Nat.le_trans (hw x hx).1 (by omega), Nat.le_trans (hw x hx).2 (by omega)⟩
  refine sq ?_; refine rl ?_; refine o1 ?_; refine nl ?_; refine sq ?_; refine sq ?_; refine rl ?_; (iterate 5 refine o1 ?_); refine nl ?_; refine cdp rfl (fun h1 => ?_) (fun h1 => ?_)
  ·
    refine sq ?_; refine rl ?_; refine o1 ?_; refine nl ?_; refine rt ?_
    exact en (.inl rfl) rfl (pk1 (pkv _)) (by decide) (fun _ => trivial) (congrArg (fun z => FV.one (tv (.bool z))) ((decide_eq_false (fun h9 : us = ws => h1 (by rw [h9]))).symm))
  ·
    refine sk ?_; refine sq ?_; refine sq ?_; refine rl ?_; refine o1 ?_; refine nl ?_; refine bl ?_
    refine lp (γ := Nat) (fun k => frL [(0, .one (.t (sV 57 false us))), (1, .one (.t (sV 63 false ws))), (5, .one (tv (.int .i64 ((k : Nat) : Int))))]) (fun k => [].map some) (fun k => k ≤ us.length ∧ us.take k = ws.take k) (fun k => us.length - k) 0 (⟨Nat.zero_le _, rfl⟩) (su0 h0 [] _ _ (by decide) ⟨rfl, rfl, rfl, trivial⟩ rfl) fun k hk => ?_
    refine sq ?_; refine sq ?_; refine rl ?_; (iterate 4 refine o1 ?_); refine nl ?_; refine cdp rfl (fun h2 => ?_) (fun h2 => ?_)
    ·
      refine sk ?_; refine sq ?_; refine bl ?_; refine sq ?_; refine rd [] (fun i => [].contains i) mixed ?_
      refine dv 0 ?_; refine dv 1 ?_; refine dv 2 ?_; refine dv 3 ?_; refine dlr 4 ([.v (.int .i64 (nthV us (k)).1)]) (vin_y false (by omega)) ?_
      refine dv 5 ?_; refine dv 6 ?_; refine dv 7 ?_; refine dv 8 ?_; refine dlr 9 ([.v (.int .i64 (nthV ws (k)).1)]) (vin_y false (by omega)) ?_
      refine dv 10 ?_; refine dv 11 ?_; refine WD.split (t := 28) rfl rfl (fun h3 => ?_) (fun h3 => ?_)
      ·
        refine dno 12 ?_; refine dno 13 ?_; refine dno 14 ?_; refine dno 15 ?_; refine dno 16 ?_; refine dno 17 ?_; refine dno 18 ?_; refine dno 19 ?_; refine dno 20 ?_; refine dno 21 ?_
        refine dno 22 ?_; refine dno 23 ?_; refine dv 24 ?_; refine dz0 ?_; refine cdt rfl ?_; refine sq ?_; refine rl ?_; refine o1 ?_; refine nl ?_; refine rt ?_
        exact en (.inl rfl) rfl (pk1 (pkv _)) (by decide) (fun _ => trivial) (congrArg (fun z => FV.one (tv (.bool z))) ((decide_eq_false (fun h9 : us = ws => h3 (by rw [h9]))).symm))
      ·
        refine dv 12 ?_; refine dv 13 ?_; refine dv 14 ?_; refine dv 15 ?_; refine dlr 16 ((Fr4.of (nthV us (k)).2).tr false) (vin_q false (by omega)) ?_
        refine dv 17 ?_; refine dv 18 ?_; refine dv 19 ?_; refine dv 20 ?_; refine dlr 21 ((Fr4.of (nthV ws (k)).2).tr false) (vin_q false (by omega)) ?_
        refine dca 22 rfl (c_IsRat (a := .of (nthV us (k)).2) (b := .of (nthV ws (k)).2) (hlu _ (nthV_mem (by omega))) (hlw _ (nthV_mem (by omega)))) ok36 ⟨a1g rfl, a1g rfl, rfl⟩ (.one (tv (.bool (decide (Fr4.of (nthV us (k)).2 = Fr4.of (nthV ws (k)).2))))) ?_
        refine WD.split (t := 39) rfl rfl (fun h4 => ?_) (fun h4 => ?_)
        ·
          refine df 23 ?_; refine df 24 ?_; refine dz0 ?_; refine cdf rfl ?_; refine sk ?_; refine rl ?_; refine o1 ?_; refine o1 ?_
          refine WL.cast (t := 16) (u' := .int .i64 ((k + 1 : Nat) : Int)) rfl (cint (by omega)) ?_
          refine o1 ?_; refine nl ?_
          exact ⟨k + 1, by omega, ⟨by omega, same_stepV hk.2 (by omega) (by omega) (by have h9 := h3; omega) (of_inj.1 h4)⟩, su0 h0 [] _ _ (by decide) ⟨rfl, rfl, rfl, trivial⟩ rfl⟩
        ·
          refine df 23 ?_; refine df 24 ?_; refine dz0 ?_; refine cdt rfl ?_; refine sq ?_; refine rl ?_; refine o1 ?_; refine nl ?_; refine rt ?_
          exact en (.inl rfl) rfl (pk1 (pkv _)) (by decide) (fun _ => trivial) (congrArg (fun z => FV.one (tv (.bool z))) ((decide_eq_false (fun h9 : us = ws => h4 (by rw [h9]))).symm))
    ·
      refine ex ?_; refine sq ?_; refine rl ?_; refine o1 ?_; refine nl ?_; refine rt ?_
      exact en (.inl rfl) rfl (pk1 (pkv _)) (by decide) (fun _ => trivial) (congrArg (fun z => FV.one (tv (.bool z))) ((decide_eq_true (by rw [← List.take_of_length_le (i := k) (l := us) (by omega), hk.2, List.take_of_length_le (by omega)])).symm))
theorem ren_set {τ : List Nat} {k k2 : Nat} (h : τ[k]? = some k2) (l : List Tr) (p o n : Nat) : renL τ ((l.map AV.t).set p (.sl k o n)) = some ((l.map AV.t).set p (.sl k2 o n)) := by
  induction l generalizing p with
  | nil => simp [renL]
  | cons x l ih =>
    cases p with
    | zero => simp [renL, renA, h, ren_t]
    | succ p => simp [renL, renA, ih p]
set_option maxRecDepth 100000 in
theorem l_spoil {n : Nat} {trs0 : List Tr} (hS : Spo n trs0) (hn : n ≤ 1073741823) : Spec false Tryz.prog 32 [⟨57, 5, trs0.map .t⟩] [.one (.sl 0 0 n)] (fun l r => r = .tup [] ∧ ∃ trs : List Tr, l = [⟨57, 5, trs.map .t⟩]) := by
  refine fnL Tryz.func32 rfl Tryz.ntmps32 rfl ttok rfl fun N M w c0 h0 => ?_
  refine sq ?_; refine rl ?_; refine o1 ?_; refine nl ?_; refine bl ?_
  refine lp (γ := Nat × List Tr) (fun s => frL [(0, .one (.sl 0 0 n)), (2, .one (tv (.int .i64 ((s.1 : Nat) : Int))))]) (fun s => [({ t := 57, z := 5, l := (s.2).map .t } : Ob)].map some) (fun s => s.1 ≤ n ∧ Spo n s.2) (fun s => n - s.1) (0, trs0) ⟨Nat.zero_le _, hS⟩ (suL h0 [0] _ _ (by decide) rfl ⟨rfl, rfl, trivial⟩ ⟨oet rfl, rfl⟩) ?_
  rintro ⟨i, trs⟩ ⟨hi, hP⟩; dsimp only at hi hP ⊢; refine sq ?_; refine sq ?_; refine rl ?_; (iterate 4 refine o1 ?_); refine nl ?_; refine cdp rfl (fun h1 => ?_) (fun h1 => ?_)
  ·
    refine sk ?_; refine sq ?_; refine bl ?_; refine sq ?_; refine sq ?_; refine rl ?_; refine o1 ?_; refine nl ?_; refine bl ?_; obtain ⟨xs, hxl, hx⟩ := hP.2 i (by omega)
    refine WP.sub (opn (j := 0) (key := 1) (p := i * 5 + 2) (e := 104) (z := 1) (n := xs.length) (trs := u32T xs) rfl rfl rfl (by rw [List.getElem?_map, hx]; rfl) rfl) ?_
    refine lp (γ := Nat × List Nat) (fun s => frL [(0, .one (.sl 0 0 n)), (2, .one (tv (.int .i64 ((i : Nat) : Int)))), (3, .one (tv (.int .i64 ((s.1 : Nat) : Int))))]) (fun s => [({ t := 57, z := 5, l := ((trs.map AV.t).set (i * 5 + 2) (.sl 1 0 xs.length)) } : Ob), ⟨104, 1, (u32T s.2).map .t⟩].map some) (fun s => s.1 ≤ xs.length ∧ s.2.length = xs.length) (fun s => xs.length - s.1) (0, xs) ⟨Nat.zero_le _, rfl⟩ (suL h0 [0, 1] _ _ (by decide) rfl ⟨rfl, rfl, rfl, trivial⟩ ⟨⟨_, ren_set rfl _ _ _ _, rfl⟩, oet rfl, rfl⟩) ?_
    rintro ⟨k, zs⟩ ⟨hk, hzl⟩; dsimp only at hk hzl ⊢; refine sq ?_; refine sq ?_; refine rl ?_; (iterate 7 refine o1 ?_)
    refine ldo (o := 0 + i * 5 + 1 + 0 + 1) (l := ((trs.map AV.t).set (i * 5 + 2) (.sl 1 0 xs.length))) (v := .sl 1 0 xs.length) (by rw [show 0 + i * 5 + 1 + 0 + 1 = i * 5 + 2 by omega]; exact List.getElem?_set_self (by rw [List.length_map, hP.1]; omega)) ?_
    refine o1 ?_; refine o1 ?_; refine nl ?_; refine cdp rfl (fun h2 => ?_) (fun h2 => ?_)
    ·
      refine sk ?_; refine sq ?_; refine bl ?_; refine rl ?_; (iterate 6 refine o1 ?_)
      refine ldo (o := 0 + i * 5 + 1 + 0 + 1) (l := ((trs.map AV.t).set (i * 5 + 2) (.sl 1 0 xs.length))) (v := .sl 1 0 xs.length) (by rw [show 0 + i * 5 + 1 + 0 + 1 = i * 5 + 2 by omega]; exact List.getElem?_set_self (by rw [List.length_map, hP.1]; omega)) ?_
      refine o1 ?_; refine o1 ?_; refine sto (u32_put zs (k := k) (v := 77) (by omega)) (u32_le zs (by omega)) ?_
      refine nl ?_; refine rl ?_; refine o1 ?_; refine o1 ?_; refine WL.cast (t := 21) (u' := .int .i64 ((k + 1 : Nat) : Int)) rfl (cint (by omega)) ?_
      refine o1 ?_; refine nl ?_
      exact ⟨(k + 1, zs.set k 77), by dsimp only; omega, ⟨by dsimp only; omega, by dsimp only; rw [List.length_set]; exact hzl⟩, suL h0 [0, 1] _ _ (by decide) rfl ⟨rfl, rfl, rfl, trivial⟩ ⟨⟨_, ren_set rfl _ _ _ _, rfl⟩, oet rfl, rfl⟩⟩
    ·
      refine ex ?_
      refine WP.sub (cls (j := 0) (k := 1) (p := i * 5 + 2) (n := xs.length) (trs := u32T zs) (l' := (trs.set (i * 5 + 2) (sU true zs)).map .t) rfl rfl rfl rfl (List.getElem?_set_self (by rw [List.length_map, hP.1]; omega)) (take_self _ _ (by rw [u32T_len, hzl, Nat.mul_one])) (by rw [u32T_len, hzl, Nat.mul_one]) (by rw [List.set_set, ← hzl, List.map_set]; rfl)) ?_
      refine rl ?_; (iterate 4 refine o1 ?_)
      refine sto (o := 0 + i * 5 + 0) (l := (trs.set (i * 5 + 2) (sU true zs)).map .t) (l' := ((trs.set (i * 5 + 2) (sU true zs)).set (i * 5) (.v (.int .i64 (-77)))).map .t) (us := [tv (.int .i64 (-77))]) (by rw [putA_one (by rw [List.length_map, List.length_set, hP.1]; omega), show 0 + i * 5 + 0 = i * 5 by omega]; simp only [List.map_set]; rfl) (by rw [List.length_map, List.length_set, hP.1]; simp; omega) ?_
      refine nl ?_; refine rl ?_; refine o1 ?_; refine o1 ?_; refine WL.cast (t := 9) (u' := .int .i64 ((i + 1 : Nat) : Int)) rfl (cint (by omega)) ?_
      refine o1 ?_; refine nl ?_
      exact ⟨(i + 1, (trs.set (i * 5 + 2) (sU true zs)).set (i * 5) (.v (.int .i64 (-77)))), by dsimp only; omega, ⟨by dsimp only; omega, hP.step (by omega) zs (by omega) _⟩, suL h0 [0] _ _ (by decide) rfl ⟨rfl, rfl, trivial⟩ ⟨oet rfl, rfl⟩⟩
  ·
    refine ex ?_
    exact enL (lent' := [⟨57, 5, trs.map .t⟩]) (.inr rfl) rfl pk0 (by decide) (fun _ h => by cases h) ⟨⟨rfl, rfl⟩, trivial⟩ ⟨rfl, trivial⟩ ⟨refC_t _, trivial⟩ (fun h => by cases h) ⟨rfl, trs, rfl⟩
end Go.Proofs.YtogaallfhifngaaGreat

/- The law of loss: is, does. Printed by a program. -/
namespace Go.Proofs.YtogaallfhifngaaGreat
open Go Go.RowKit
theorem l_same_eq {us ws : List (Int × Rat)} (h : us = ws) (hu : ∀ x ∈ us, Sz 68719476736 x.2) (hl : us.length ≤ 1073741823) : Spec true Tryz.prog 29 [] [.one (.t (sV 57 false us)), .one (.t (sV 63 false ws))] (Ret (.one (tv (.bool true)))) := by
  have h9 := l_same hu (h ▸ hu) hl (h ▸ hl)
  rwa [decide_eq_true h] at h9
theorem f_IsRat_eq {q : Rat} (hq : Sz 68719476736 q) : Spec true Tryz.prog 36 [] [qF (.of q), qF (.of q)] (Ret (.one (tv (.bool true)))) := by
  have hl : (Fr4.of q).len 1099511627776 := ⟨Nat.le_trans hq.1 (by omega), Nat.le_trans hq.2 (by omega)⟩
  have h9 := c_IsRat hl hl
  rwa [decide_eq_true rfl] at h9
theorem qsum_sz {vs : List (Int × Rat)} {B : Nat} (h : ∀ x ∈ vs, Sz B x.2) : Sz (2 + vs.length * (B + 1)) (qsum (vs.map Prod.snd)) := by
  have key : ∀ k, k ≤ vs.length → Sz (2 + k * (B + 1)) (qsum ((vs.take k).map Prod.snd)) := by
    intro k
    induction k with
    | zero => intro _; exact (int_sz (z := 0) (by omega) (by omega)).mono (by omega)
    | succ k ih =>
      intro hk
      rw [take_v (by omega), List.map_append]
      have h1 : qsum ((vs.take k).map Prod.snd ++ [nthV vs k].map Prod.snd) = qsum ((vs.take k).map Prod.snd) + (nthV vs k).2 := qsum_snoc _ _
      rw [h1]
      exact (add_sz (ih (by omega)) (h _ (nthV_mem (by omega)))).mono (by rw [show (k + 1) * (B + 1) = k * (B + 1) + (B + 1) from Nat.succ_mul k (B + 1)]; omega)
  have := key vs.length (Nat.le_refl _)
  rwa [List.take_of_length_le (Nat.le_refl _)] at this
set_option maxRecDepth 100000 in
theorem l_is {vs : List (Int × Rat)} {rest : List Tr} {n B : Nat} {last : Int} {was : Bool} (hok : StOk vs n B) (hn : n ≤ 1000) (hB : B ≤ 1000000) : Spec true Tryz.prog 11 [] [.one (.ef (sV 57 false vs :: rest) 0), .agg (([sV 63 false vs, .v (.int .i64 last), .v (.bool was)] : List Tr).map .t)] (Ret (.one (tv (.bool true)))) := by
  refine fn0 Tryz.func11 rfl Tryz.ntmps11 rfl ttok rfl fun N w c0 h0 => ?_
  have hl1 := hok.len
  have hl : vs.length ≤ 1073741823 := by omega
  have hz : ∀ x ∈ vs, Sz 68719476736 x.2 := hok.sz (by omega)
  have hzB : ∀ x ∈ vs, Sz B x.2 := hok.sz (Nat.le_refl _)
  have hmul : vs.length * (B + 1) ≤ 1000 * 1000001 := Nat.mul_le_mul (by omega) (by omega)
  have hB1 : 2 + vs.length * (B + 1) ≤ 68719476736 := by omega
  have hB2 : 2 + vs.length * (B + 1) ≤ 17179869184 := by omega
  have hsum : Sz 68719476736 (qsum (vs.map Prod.snd)) := (qsum_sz hzB).mono (by omega)
  refine sq ?_; refine rl ?_; refine bx 0 ?_; refine o1 ?_; refine nl ?_; refine sq ?_; refine rl ?_; refine o1 ?_; refine cak 1 (p_Rows hz hl) ok16 ⟨a1o rfl .ef, rfl⟩ ?_; refine o1 ?_; refine nl ?_
  refine sq ?_; refine rd [0] (fun i => [20].contains i) mixed ?_
  refine dv 0 ?_; refine dv 1 ?_; refine dld 2 ?_
  refine dca 3 rfl (l_same_eq (us := vs) rfl hz hl) ok29 ⟨a1o rfl (.sr (trs := vs.flatMap (vtr true)) rfl rfl (take_self _ _ rfl) (vflat_len true _) (rd_vo true _)), a1 rfl, rfl⟩ (.one (tv (.bool true))) ?_
  refine df 4 ?_; refine dv 5 ?_; refine dv 7 ?_; refine dld 8 ?_; refine dca 6 rfl (p_Balance (vs := vs) (B := B) hB1 hzB hl) ok28 ⟨a1o rfl .ef, rfl⟩ (qF (.of (qsum (vs.map Prod.snd)))) ?_
  refine dca 9 rfl (c_Total25 (vs := vs) (B := B) hB2 hzB (by omega)) ok37 ⟨a1 rfl, rfl⟩ (qF (.of (qsum (vs.map Prod.snd)))) ?_
  refine dca 10 rfl (f_IsRat_eq hsum) ok36 ⟨a1g rfl, a1g rfl, rfl⟩ (.one (tv (.bool true))) ?_; refine df 11 ?_; refine df 12 ?_; refine dv 13 ?_; refine dv 15 ?_; refine dld 16 ?_
  refine dca 14 rfl (p_Total (vs := vs) (B := B) hB1 hzB hl) ok17 ⟨a1o rfl (.sr (trs := vs.flatMap (vtr true)) rfl rfl (take_self _ _ rfl) (vflat_len true _) (rd_vo true _)), rfl⟩ (qF (.of (qsum (vs.map Prod.snd)))) ?_
  refine dca 17 rfl (c_Total25 (vs := vs) (B := B) hB2 hzB (by omega)) ok37 ⟨a1 rfl, rfl⟩ (qF (.of (qsum (vs.map Prod.snd)))) ?_
  refine dca 18 rfl (f_IsRat_eq hsum) ok36 ⟨a1g rfl, a1g rfl, rfl⟩ (.one (tv (.bool true))) ?_; refine df 19 ?_
  refine d_v 20 (by kernel_rfl) rfl rfl ttok rfl (by trivial) ?_ (fun h => by first | rfl | cases h)
  refine dz0 ?_; refine sq ?_; refine rl ?_; refine o1 ?_; refine clx 2 [1] (l_spoil (n := vs.length) (Spo.vo hz) hl) ok32 ⟨oet rfl, rfl⟩ ⟨rfl, rfl⟩ ?_; rintro _ _ ⟨rfl, trs9, rfl⟩
  refine ⟨_, _, [some ⟨57, 5, trs9.map .t⟩], rfl, ⟨oet rfl, rfl⟩, ?_⟩; refine nl ?_; refine sq ?_; refine rd [0] (fun i => [8].contains i) mixed ?_
  refine dv 0 ?_; refine dv 1 ?_; refine dv 2 ?_; refine dv 4 ?_; refine dld 5 ?_; refine dck 2 3 rfl (p_Rows hz hl) ok16 ⟨a1o rfl .ef, rfl⟩ ?_
  refine dca 6 rfl (l_same_eq (us := vs) rfl hz hl) ok29 ⟨a1o rfl (.sr (trs := vs.flatMap (vtr true)) rfl rfl (take_self _ _ rfl) (vflat_len true _) (rd_vo true _)), a1 rfl, rfl⟩ (.one (tv (.bool true))) ?_
  refine df 7 ?_; refine d_v 8 (by kernel_rfl) rfl rfl ttok rfl (by trivial) ?_ (fun h => by first | rfl | cases h)
  refine dz0 ?_; refine rt ?_; exact en (.inl rfl) rfl (pk1 (pkv _)) (by decide) (fun _ => trivial) rfl
/-- what a call leaves: a ledger, and the reference's, alike -/
def DoesR (n B : Nat) (l : List Lt) (r : FV) : Prop := ∃ (vs : List (Int × Rat)) (last : Int) (put : Bool), StOk vs (n + 1) (B + 7 + 2 * n) ∧ l = [⟨76, 0, [.t (sR 57 vs), tv (.int .i64 last), tv (.bool put)]⟩] ∧ r = .tup [.agg (([sV 63 false vs, .v (.int .i64 last), .v (.bool put)] : List Tr).map .t), .one (tv (.bool true))]
theorem huz {vs : List (Int × Rat)} {n B : Nat} {fr : Int} {p : Rat} (hok : StOk vs n B) (hB : B + wt p + 2 * n ≤ 68719476736) : ∀ x ∈ (useL fr vs p).2.1, Sz 68719476736 x.2 := by
  have key : ∀ (xs : List (Int × Rat)) (s : List (Int × Rat) × List (Int × Rat) × Rat) (L : Nat), (∀ x ∈ s.2.1, Sz L x.2) → wt s.2.2 + wts (xs.map Prod.snd) + 2 * xs.length ≤ L → ∀ x ∈ (xs.foldl (useS fr) s).2.1, Sz L x.2 := by
    intro xs
    induction xs with
    | nil => intro s L h _; exact h
    | cons x xs ih =>
      intro s L h hL
      have e : wts ((x :: xs).map Prod.snd) = wt x.2 + wts (xs.map Prod.snd) := by simp [wts]
      rw [e, List.length_cons] at hL
      rw [List.foldl_cons]
      by_cases hc : fr ≤ x.1 ∧ 0 < s.2.2.num.sign
      · have h1 := useS_yes (s := s) (y := x.1) (q := x.2) hc.1 hc.2
        have h2 := wt_min2 x.2 s.2.2
        have h3 := wt_min1 x.2 s.2.2
        rw [show useS fr s x = useS fr s (x.1, x.2) from rfl, h1]
        refine ih _ _ (fun z hz => ?_) (by dsimp only; omega)
        rcases List.mem_append.1 hz with hz | hz
        · exact h z hz
        · rw [List.mem_singleton] at hz
          subst hz
          exact sz_iff.2 (by have h9 : wt (qmin x.2 [s.2.2]) = szq (qmin x.2 [s.2.2]) + 1 := rfl; dsimp only; omega)
      · rw [useS_no hc]
        exact ih _ _ h (by dsimp only; omega)
  have h1 := hok.size
  have h2 := hok.len
  exact key vs ([], [], p) _ (fun x hx => by cases hx) (by dsimp only; omega)
theorem hul {vs : List (Int × Rat)} {n B : Nat} {fr : Int} {p : Rat} (hok : StOk vs n B) (hn : n ≤ 1000) : (useL fr vs p).2.1.length ≤ 1073741823 := by
  have key : ∀ (xs : List (Int × Rat)) (s : List (Int × Rat) × List (Int × Rat) × Rat), (xs.foldl (useS fr) s).2.1.length ≤ s.2.1.length + xs.length := by
    intro xs
    induction xs with
    | nil => intro s; simp
    | cons x xs ih =>
      intro s
      rw [List.foldl_cons]
      refine Nat.le_trans (ih _) ?_
      by_cases hc : fr ≤ x.1 ∧ 0 < s.2.2.num.sign
      · rw [show useS fr s x = useS fr s (x.1, x.2) from rfl, useS_yes (s := s) (y := x.1) (q := x.2) hc.1 hc.2]
        dsimp only
        simp only [List.length_append, List.length_cons, List.length_nil]
        omega
      · rw [useS_no hc]
        dsimp only
        simp only [List.length_cons]
        omega
  have := key vs ([], [], p)
  have := hok.len
  unfold useL
  simp at *
  omega
set_option maxRecDepth 100000 in
theorem l_does {vs : List (Int × Rat)} {n B : Nat} {last : Int} {put : Bool} {a : At} {p : Rat} (hok : StOk vs n B) (hn : n ≤ 1000) (hB : B ≤ 1000000) (ha : Qn a.2.2 p) (hx6 : a.2.2.x.length ≤ 6) (hy6 : a.2.2.y.length ≤ 6) : Spec false Tryz.prog 10 [⟨76, 0, [.t (sR 57 vs), tv (.int .i64 last), tv (.bool put)]⟩] [.one (.pt 0 0), .agg (([sV 63 false vs, .v (.int .i64 last), .v (.bool put)] : List Tr).map .t), .agg ((atr a).map .t)] (DoesR n B) := by
  refine fnL Tryz.func10 rfl Tryz.ntmps10 rfl ttok rfl fun N M w c0 h0 => ?_
  have hl1 := hok.len
  have hl : vs.length ≤ 1073741823 := by omega
  have hz : ∀ x ∈ vs, Sz 68719476736 x.2 := hok.sz (by omega)
  have hsz1 := hok.size
  have hwp := wt6 ha hx6 hy6
  have hwB : B + wt p + 2 * n ≤ 68719476736 := by omega
  have hlen : a.2.2.len 1099511627776 := ⟨by omega, by omega⟩
  refine sq ?_; refine rl ?_; refine bx 1 ?_; refine bx 2 ?_; refine al 3 ?_; refine o1 ?_; refine nl ?_; refine sq ?_; refine rl ?_; refine o1 ?_; refine ld ?_
  refine ca (c_RefRat hlen) ok14 ⟨a1g rfl, rfl⟩ (qF a.2.2) ?_; refine al 4 ?_; refine st ?_; refine nl ?_; refine sq ?_; refine sq ?_; refine rl ?_; refine o1 ?_; refine ld ?_
  refine ca (f_Pick (i := a.1) (n := 4) (by omega) (by omega)) ok13 ⟨a1 rfl, a1 rfl, rfl⟩ (.one (tv (.int .i64 ((a.1.tmod 4 + 4).tmod 4)))) ?_
  refine nl ?_; refine bl ?_; refine sq ?_; refine rl ?_; refine o1 ?_; refine o1 ?_; refine nl ?_; refine cdp rfl (fun h1 => ?_) (fun h1 => ?_)
  ·
    refine sq ?_; refine rl ?_; refine ld ?_; refine o1 ?_; refine ld ?_; refine ld ?_
    refine ca (c_Use25 ha (by omega) (by omega)) ok31 ⟨a1g rfl, a1 rfl, a1g rfl, rfl⟩ (.tup [.agg (([sV 63 false (refL a.2.1 vs p).1, .v (.int .i64 last), .v (.bool put)] : List Tr).map .t), .one (.t (sV 63 false (refL a.2.1 vs p).2.1))]) ?_
    (iterate 3 refine o1 ?_); refine al 5 ?_; refine st ?_; refine o1 ?_; refine nl ?_; refine sq ?_; refine rl ?_; refine o1 ?_; refine o1 ?_; refine ld ?_; refine o1 ?_; refine ld ?_
    refine cl 6 [0] (p_Use (fr := a.2.1) ha hl (by omega) (hok.zU hwB)) ok15 ⟨oe rfl rfl, rfl⟩ ⟨rfl, rfl, rfl, rfl⟩ (ok := [some ⟨76, 0, [.t (sR 57 (keepV zeroQ (useL a.2.1 vs p).1)), tv (.int .i64 last), tv (.bool put)]⟩]) ⟨oe rfl rfl, rfl⟩ ?_
    refine o1 ?_; refine nl ?_; refine sq ?_; refine rl ?_; refine o1 ?_; refine o1 ?_
    refine ca (l_same_eq (us := (useL a.2.1 vs p).2.1) (ws := (refL a.2.1 vs p).2.1) (congrArg Prod.fst (useL_refL hok.pos).2).symm (huz hok hwB) (hul hok hn)) ok29 ⟨a1o rfl (.sr (trs := (useL a.2.1 vs p).2.1.flatMap (vtr true)) rfl rfl (take_self _ _ rfl) (vflat_len true _) (rd_vo true _)), a1 rfl, rfl⟩ (.one (tv (.bool true))) ?_
    refine o1 ?_; refine nl ?_; refine sq ?_; refine rl ?_; refine o1 ?_
    refine clx 7 [6] (l_spoil (n := (useL a.2.1 vs p).2.1.length) (Spo.vo (huz hok hwB)) (hul hok hn)) ok32 ⟨oet rfl, rfl⟩ ⟨rfl, rfl⟩ ?_; rintro _ _ ⟨rfl, trs9, rfl⟩
    refine ⟨_, _, [some ⟨57, 5, trs9.map .t⟩], rfl, ⟨oet rfl, rfl⟩, ?_⟩; refine nl ?_; refine sq ?_; refine rl ?_; refine ld ?_; refine o1 ?_; refine st ?_; refine o1 ?_; refine nl ?_; refine rt ?_
    exact enL (lent' := [⟨76, 0, [.t (sR 57 (keepV zeroQ (useL a.2.1 vs p).1)), tv (.int .i64 last), tv (.bool put)]⟩]) (.inl rfl) rfl (pkt (.cons (.agg (.cons (.id rfl) (.cons (.id rfl) (.cons (.id rfl) .nil)))) (.cons (pkv _) .nil))) (by decide) (fun _ h => by cases h) ⟨⟨rfl, rfl⟩, trivial⟩ ⟨rfl, trivial⟩ ⟨rfl, trivial⟩ (fun h => by cases h) ⟨(refL a.2.1 vs p).1, last, put, (hok.use (fr := a.2.1) (p := p)).mono (by omega) (by omega), by rw [(useL_refL hok.pos).1]; rfl, rfl⟩
  ·
    refine sq ?_; refine rl ?_; refine o1 ?_; refine o1 ?_; refine nl ?_; refine cdp rfl (fun h2 => ?_) (fun h2 => ?_)
    ·
      refine sq ?_; refine rl ?_; refine ld ?_; refine o1 ?_; refine ld ?_
      refine ca (c_Expire25 (fr := a.2.1) (by omega)) ok33 ⟨a1g rfl, a1 rfl, rfl⟩ (.tup [.agg (([sV 63 false (vs.filter fun x => !decide (x.1 < a.2.1)), .v (.int .i64 last), .v (.bool put)] : List Tr).map .t), .one (.t (sV 63 false (vs.filter fun x => decide (x.1 < a.2.1))))]) ?_
      (iterate 3 refine o1 ?_); refine al 5 ?_; refine st ?_; refine o1 ?_; refine nl ?_; refine sq ?_; refine rl ?_; refine o1 ?_; refine o1 ?_; refine ld ?_
      refine cl 6 [0] (p_Expire (b := a.2.1) hl hz) ok21 ⟨oe rfl rfl, rfl⟩ ⟨rfl, rfl, rfl⟩ (ok := [some ⟨76, 0, [.t (sR 57 (keepV (fun x : Int × Rat => decide (x.1 < a.2.1)) vs)), tv (.int .i64 last), tv (.bool put)]⟩]) ⟨oe rfl rfl, rfl⟩ ?_
      refine o1 ?_; refine nl ?_; refine sq ?_; refine rl ?_; refine o1 ?_; refine o1 ?_
      refine ca (l_same_eq (us := keepV (fun x : Int × Rat => !decide (x.1 < a.2.1)) vs) (ws := (vs.filter fun x => decide (x.1 < a.2.1))) (by simp [keepV]) (fun x hx => hz x (List.mem_filter.1 hx).1) (Nat.le_trans (List.length_filter_le _ _) (by omega))) ok29 ⟨a1o rfl (.sr (trs := (keepV (fun x : Int × Rat => !decide (x.1 < a.2.1)) vs).flatMap (vtr true)) rfl rfl (take_self _ _ rfl) (vflat_len true _) (rd_vo true _)), a1 rfl, rfl⟩ (.one (tv (.bool true))) ?_
      refine o1 ?_; refine nl ?_; refine sq ?_; refine rl ?_; refine o1 ?_
      refine clx 7 [6] (l_spoil (n := (keepV (fun x : Int × Rat => !decide (x.1 < a.2.1)) vs).length) (Spo.vo (fun x hx => hz x (List.mem_filter.1 hx).1)) (Nat.le_trans (List.length_filter_le _ _) (by omega))) ok32 ⟨oet rfl, rfl⟩ ⟨rfl, rfl⟩ ?_
      rintro _ _ ⟨rfl, trs9, rfl⟩; refine ⟨_, _, [some ⟨57, 5, trs9.map .t⟩], rfl, ⟨oet rfl, rfl⟩, ?_⟩; refine nl ?_; refine sq ?_; refine rl ?_; refine ld ?_; refine o1 ?_; refine st ?_; refine o1 ?_
      refine nl ?_; refine rt ?_
      exact enL (lent' := [⟨76, 0, [.t (sR 57 (keepV (fun x : Int × Rat => decide (x.1 < a.2.1)) vs)), tv (.int .i64 last), tv (.bool put)]⟩]) (.inl rfl) rfl (pkt (.cons (.agg (.cons (.id rfl) (.cons (.id rfl) (.cons (.id rfl) .nil)))) (.cons (pkv _) .nil))) (by decide) (fun _ h => by cases h) ⟨⟨rfl, rfl⟩, trivial⟩ ⟨rfl, trivial⟩ ⟨rfl, trivial⟩ (fun h => by cases h) ⟨(vs.filter fun x => !decide (x.1 < a.2.1)), last, put, (hok.filter _).mono (by omega) (by omega), rfl, rfl⟩
    ·
      refine sk ?_; refine sq ?_; refine rl ?_; refine ld ?_; refine o1 ?_; refine ld ?_; refine ld ?_
      refine ca (c_Put25 (y := a.2.1) ha (by omega)) ok34 ⟨a1g rfl, a1 rfl, a1g rfl, rfl⟩ (.tup [.agg (([sV 63 false (putL (putE (rightQ a.2.2.s a.2.2.x a.2.2.t a.2.2.y) p a.2.1 last put) p a.2.1 vs), .v (.int .i64 (putY (putE (rightQ a.2.2.s a.2.2.x a.2.2.t a.2.2.y) p a.2.1 last put) a.2.1 last)), .v (.bool (putP (putE (rightQ a.2.2.s a.2.2.x a.2.2.t a.2.2.y) p a.2.1 last put) put))] : List Tr).map .t), .one (tv (.int .i64 (putE (rightQ a.2.2.s a.2.2.x a.2.2.t a.2.2.y) p a.2.1 last put)))]) ?_
      (iterate 3 refine o1 ?_); refine al 5 ?_; refine st ?_; refine o1 ?_; refine nl ?_; refine sq ?_; refine rl ?_; refine ld ?_; refine cak 6 (c_OfRat hlen) ok35 ⟨a1g rfl, rfl⟩ ?_; refine al 8 ?_
      refine st ?_; refine nl ?_; refine sq ?_; refine rl ?_; refine o1 ?_; refine o1 ?_; refine ld ?_; refine ld ?_
      refine cl 9 [0, 6, 7] (p_PutL (y := a.2.1) ha (by omega)) ok22 ⟨oe rfl rfl, oet rfl, oet rfl, rfl⟩ ⟨rfl, rfl, rfl, rfl⟩ (ok := [some ⟨76, 0, [.t (sR 57 (putL (putE (rightQ a.2.2.s a.2.2.x a.2.2.t a.2.2.y) p a.2.1 last put) p a.2.1 vs)), tv (.int .i64 (putY (putE (rightQ a.2.2.s a.2.2.x a.2.2.t a.2.2.y) p a.2.1 last put) a.2.1 last)), tv (.bool (putP (putE (rightQ a.2.2.s a.2.2.x a.2.2.t a.2.2.y) p a.2.1 last put) put))]⟩, some ⟨104, 1, (u32T a.2.2.x).map .t⟩, some ⟨104, 1, (u32T a.2.2.y).map .t⟩]) ⟨oe rfl rfl, oet rfl, oet rfl, rfl⟩ ?_
      refine o1 ?_; refine nl ?_; refine sq ?_; refine rl ?_; refine ld ?_; refine o1 ?_; refine bs 9 ?_
      refine WL.sub (cls (j := 9) (k := 6) (p := 2) (n := a.2.2.x.length) (trs := u32T a.2.2.x) rfl rfl rfl rfl rfl (tk_u32 _) (ln_u32 _) rfl) ?_
      refine WL.sub (cls (j := 9) (k := 7) (p := 4) (n := a.2.2.y.length) (trs := u32T a.2.2.y) rfl rfl rfl rfl rfl (tk_u32 _) (ln_u32 _) rfl) ?_
      refine clx 10 [9] (l_spoil (n := 1) (trs0 := [.v (.int .i64 0), .v (.bool a.2.2.s), sU true a.2.2.x, .v (.bool a.2.2.t), sU true a.2.2.y]) ⟨rfl, fun i hi => by obtain rfl : i = 0 := (by omega); exact ⟨a.2.2.x, by omega, rfl⟩⟩ (by omega)) ok32 ⟨oe rfl rfl, rfl⟩ ⟨rfl, rfl⟩ ?_
      rintro _ _ ⟨rfl, trs9, rfl⟩; refine ⟨_, _, [some ⟨57, 5, trs9.map .t⟩], rfl, ⟨oet rfl, rfl⟩, ?_⟩; refine nl ?_; refine sq ?_; refine rl ?_; refine ld ?_; (iterate 3 refine o1 ?_); refine st ?_
      refine o1 ?_; refine nl ?_; refine rt ?_
      exact enL (lent' := [⟨76, 0, [.t (sR 57 (putL (putE (rightQ a.2.2.s a.2.2.x a.2.2.t a.2.2.y) p a.2.1 last put) p a.2.1 vs)), tv (.int .i64 (putY (putE (rightQ a.2.2.s a.2.2.x a.2.2.t a.2.2.y) p a.2.1 last put) a.2.1 last)), tv (.bool (putP (putE (rightQ a.2.2.s a.2.2.x a.2.2.t a.2.2.y) p a.2.1 last put) put))]⟩]) (.inl rfl) rfl (pkt (.cons (.agg (.cons (.id rfl) (.cons (.id rfl) (.cons (.id rfl) .nil)))) (.cons (pkv _) .nil))) (by decide) (fun _ h => by cases h) ⟨⟨rfl, rfl⟩, trivial⟩ ⟨rfl, trivial⟩ ⟨rfl, trivial⟩ (fun h => by cases h) ⟨(putL (putE (rightQ a.2.2.s a.2.2.x a.2.2.t a.2.2.y) p a.2.1 last put) p a.2.1 vs), (putY (putE (rightQ a.2.2.s a.2.2.x a.2.2.t a.2.2.y) p a.2.1 last put) a.2.1 last), (putP (putE (rightQ a.2.2.s a.2.2.x a.2.2.t a.2.2.y) p a.2.1 last put) put), (hok.put _ _ _).mono (by omega) (by omega), rfl, by rw [decide_eq_true rfl]; rfl⟩
end Go.Proofs.YtogaallfhifngaaGreat

