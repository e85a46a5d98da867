/- Part 12 of a proof: A5 to B12. -/
import Derived.Test.YtogaallfhifngaaGreatM11
import Derived.Test.YtogaallfhifngaaGreatM8
import Derived.Test.YtogaallfhifngaaGreatM7
import Derived.Test.YtogaallfhifngaaGreatM9
import Derived.Test.YtogaallfhifngaaGreatM10
set_option linter.unusedVariables false
set_option linter.unusedSimpArgs false
/- Walks of the third road: tallageref04. Printed by a program. -/
namespace Go.Proofs.YtogaallfhifngaaGreat
open Go Go.RowKit
set_option maxRecDepth 100000 in
theorem c_same4 {a b : Zi} {k k' : Int} (ha : Zn a k) (hb : Zn b k') : Spec true Tryz.prog 79 [] [gF a, gF b] (Ret (.one (tv (.bool (decide (k = k')))))) := by
  refine fn0 Tryz.func79 rfl Tryz.ntmps79 rfl ttok rfl fun N w c0 h0 => ?_
  refine sq ?_; refine rl ?_; refine bx 0 ?_; refine bx 1 ?_; refine o1 ?_; refine nl ?_; refine sq ?_; refine rl ?_; refine ld ?_; refine ld ?_
  refine ca (c_Cmp3 ha hb) ok95 ⟨a1g rfl, a1g rfl, rfl⟩ (.one (tv (.int .i64 ((k) - (k')).sign))) ?_; refine o1 ?_; refine o1 ?_; refine nl ?_; refine rt ?_
  exact en (.inl rfl) rfl (pk1 (pkv _)) (by decide) (fun _ => trivial) (congrArg (fun z => FV.one (tv (.bool z))) (sign_dec _ _))
set_option maxRecDepth 100000 in
theorem c_Right4 {a : Fr4} {p : Rat} (ha : Qn a p) : Spec true Tryz.prog 60 [] [qF a] (Ret (.one (tv (.bool (rightQ a.s a.x a.t a.y))))) := by
  refine fn0 Tryz.func60 rfl Tryz.ntmps60 rfl ttok rfl fun N w c0 h0 => ?_
  have hzl := (zn_n ha).len
  have hzd := (zn_d ha).len
  refine sq ?_; refine rl ?_; refine bx 0 ?_; refine o1 ?_; refine nl ?_; refine sq ?_; refine rl ?_; refine o1 ?_; refine ld ?_
  refine ca (c_Right3 (zn_n ha)) ok78 ⟨a1g rfl, rfl⟩ (.one (tv (.bool (rightI a.s a.x)))) ?_; refine o1 ?_; refine WL.splitb (t := 6) rfl (fun h1 => ?_) (fun h1 => ?_)
  ·
    refine o1 ?_; refine ld ?_; refine ca (c_Right3 (zn_d ha)) ok78 ⟨a1g rfl, rfl⟩ (.one (tv (.bool (rightI a.t a.y)))) ?_; refine o1 ?_; refine o1 ?_
    refine WL.splitb (t := 11) rfl (fun h2 => ?_) (fun h2 => ?_)
    ·
      refine o1 ?_; refine ld ?_; refine ca (c_Sign3 (zn_d ha)) ok70 ⟨a1g rfl, rfl⟩ (.one (tv (.int .i64 ((zin a.t a.y)).sign))) ?_; (iterate 3 refine o1 ?_)
      refine WL.split (t := 17) rfl (fun h3 => ?_) (fun h3 => ?_)
      ·
        refine o1 ?_; refine ld ?_; refine o1 ?_; refine ld ?_; have s3 : 0 < zin a.t a.y := Int.sign_pos_iff.1 h3
        have hn4 := gcd_len (k := (zin a.s a.x)) (k' := (zin a.t a.y)) (by omega)
        refine ca (c_Gcd3 (zn_n ha) (zn_d ha)) ok80 ⟨a1g rfl, a1g rfl, rfl⟩ (kF (((Int.gcd (zin a.s a.x) (zin a.t a.y) : Nat) : Int))) ?_; have hn5 := of_len (n := (1 : Int)) (by omega) (by omega)
        refine ca (c_Of3 (n := (1 : Int)) (by omega) (by omega)) ok38 ⟨a1 rfl, rfl⟩ (kF ((1 : Int))) ?_
        refine ca (c_same4 (Zn.of (k := ((Int.gcd (zin a.s a.x) (zin a.t a.y) : Nat) : Int)) (by omega)) (Zn.of (k := (1 : Int)) (by omega))) ok79 ⟨a1g rfl, a1g rfl, rfl⟩ (.one (tv (.bool (decide ((((Int.gcd (zin a.s a.x) (zin a.t a.y) : Nat) : Int)) = ((1 : Int))))))) ?_
        refine o1 ?_; refine o1 ?_; refine nl ?_; refine rt ?_
        exact en (.inl rfl) rfl (pk1 (pkv _)) (by decide) (fun _ => trivial) (congrArg (fun z => FV.one (tv (.bool z))) (by simp [rightQ, h1, h2, s3, gcd_dec]))
      ·
        (iterate 7 refine no_ ?_); refine o1 ?_; refine o1 ?_; refine nl ?_; refine rt ?_; have s3 : ¬ (0 < zin a.t a.y) := fun h => h3 (Int.sign_pos_iff.2 h)
        exact en (.inl rfl) rfl (pk1 (pkv _)) (by decide) (fun _ => trivial) (congrArg (fun z => FV.one (tv (.bool z))) (by simp [rightQ, h1, h2, s3, gcd_dec]))
    ·
      (iterate 4 refine no_ ?_); refine o1 ?_; refine o1 ?_; (iterate 7 refine no_ ?_); refine o1 ?_; refine o1 ?_; refine nl ?_; refine rt ?_
      exact en (.inl rfl) rfl (pk1 (pkv _)) (by decide) (fun _ => trivial) (congrArg (fun z => FV.one (tv (.bool z))) (by simp [rightQ, h1, h2]))
  ·
    (iterate 3 refine no_ ?_); refine o1 ?_; refine o1 ?_; (iterate 4 refine no_ ?_); refine o1 ?_; refine o1 ?_; (iterate 7 refine no_ ?_); refine o1 ?_; refine o1 ?_; refine nl ?_; refine rt ?_
    exact en (.inl rfl) rfl (pk1 (pkv _)) (by decide) (fun _ => trivial) (congrArg (fun z => FV.one (tv (.bool z))) (by simp [rightQ, h1]))
set_option maxRecDepth 100000 in
theorem c_Zero4 : Spec false Tryz.prog 72 [] [] (Ret (qF (.of 0))) := by
  refine fn0 Tryz.func72 rfl Tryz.ntmps72 rfl ttok rfl fun N w c0 h0 => ?_
  refine sq ?_; refine rl ?_; refine al 0 ?_; refine nl ?_; refine sq ?_; refine rl ?_; have hn1 := of_len (n := (0 : Int)) (by omega) (by omega)
  refine ca (c_Of3 (n := (0 : Int)) (by omega) (by omega)) ok38 ⟨a1 rfl, rfl⟩ (kF ((0 : Int))) ?_
  have hn2 := of_len (n := (1 : Int)) (by omega) (by omega)
  refine ca (c_Of3 (n := (1 : Int)) (by omega) (by omega)) ok38 ⟨a1 rfl, rfl⟩ (kF ((1 : Int))) ?_
  refine o1 ?_; refine st ?_; refine nl ?_; refine rt ?_
  exact en (.inl rfl) rfl (pk1 (.agg (.cons (.id rfl) (.cons (.id rfl) (.cons (.id rfl) (.cons (.id rfl) .nil)))))) (by decide) (fun h => by cases h) (qF_make (q := 0) rfl rfl)
set_option maxRecDepth 100000 in
theorem c_Whole4 {n : Int} (h1 : -9223372036854775808 ≤ n) (h2 : n ≤ 9223372036854775807) : Spec false Tryz.prog 12 [] [.one (tv (.int .i64 n))] (Ret (qF (.of (n : Rat)))) := by
  refine fn0 Tryz.func12 rfl Tryz.ntmps12 rfl ttok rfl fun N w c0 h0 => ?_
  refine sq ?_; refine rl ?_; refine al 0 ?_; refine nl ?_; refine sq ?_; refine rl ?_; refine o1 ?_; have hn1 := of_len (n := n) (by omega) (by omega)
  refine ca (c_Of3 (n := n) (by omega) (by omega)) ok38 ⟨a1 rfl, rfl⟩ (kF (n)) ?_
  have hn2 := of_len (n := (1 : Int)) (by omega) (by omega)
  refine ca (c_Of3 (n := (1 : Int)) (by omega) (by omega)) ok38 ⟨a1 rfl, rfl⟩ (kF ((1 : Int))) ?_
  refine o1 ?_; refine st ?_; refine nl ?_; refine rt ?_
  exact en (.inl rfl) rfl (pk1 (.agg (.cons (.id rfl) (.cons (.id rfl) (.cons (.id rfl) (.cons (.id rfl) .nil)))))) (by decide) (fun h => by cases h) (qF_make (q := (n : Rat)) (Rat.num_intCast n) (by rw [Rat.den_intCast]; rfl))
set_option maxRecDepth 100000 in
theorem c_Plain4 {a : Fr4} {p : Rat} (ha : Qn a p) : Spec false Tryz.prog 50 [] [qF a] (Ret (qF (.of p))) := by
  refine fn0 Tryz.func50 rfl Tryz.ntmps50 rfl ttok rfl fun N w c0 h0 => ?_
  refine sq ?_; refine rl ?_; refine bx 0 ?_; refine al 1 ?_; refine nl ?_; refine sq ?_; refine sq ?_; refine rl ?_; refine ld ?_
  refine ca (c_Right4 ha) ok60 ⟨a1g rfl, rfl⟩ (.one (tv (.bool (rightQ a.s a.x a.t a.y)))) ?_; refine WL.splitb (t := 4) rfl (fun h1 => ?_) (fun h1 => ?_)
  ·
    refine o1 ?_; refine nl ?_; refine cdf rfl ?_; refine sk ?_; refine sq ?_; refine rl ?_; refine ld ?_; refine st ?_; refine nl ?_; refine rt ?_
    exact en (.inl rfl) rfl (pk1 (.agg (.cons (.id rfl) (.cons (.id rfl) (.cons (.id rfl) (.cons (.id rfl) .nil)))))) (by decide) (fun h => by cases h) (by rw [ha.right h1]; rfl)
  ·
    refine o1 ?_; refine nl ?_; refine cdt rfl ?_; refine sq ?_; refine rl ?_; refine ca (c_Zero4) ok72 rfl (qF (.of 0)) ?_; refine st ?_; refine nl ?_; refine rt ?_
    exact en (.inl rfl) rfl (pk1 (.agg (.cons (.id rfl) (.cons (.id rfl) (.cons (.id rfl) (.cons (.id rfl) .nil)))))) (by decide) (fun h => by cases h) (by rw [ha.wrong h1]; rfl)
theorem c_DivModn {a b : Zi} {k k' : Int} (ha : Zn a k) (hb : Zn b k') (h0 : k' ≠ 0) : Spec false Tryz.prog 98 [] [gF a, gF b] (Ret (.tup [kF (k.fdiv k'), kF (k.fmod k'), .one (tv (.int .i64 0))])) := by
  have h := c_DivMod3 ha hb
  rwa [if_neg h0, if_neg h0, if_neg h0] at h
set_option maxRecDepth 100000 in
theorem c_New4 {a b : Zi} {k k' : Int} (ha : Zn a k) (hb : Zn b k') : Spec false Tryz.prog 75 [] [gF a, gF b] (Ret (.tup [qF (.of (Rat.divInt k k')), .one (tv (.int .i64 (if k' = 0 then 20 else 0)))])) := by
  refine fn0 Tryz.func75 rfl Tryz.ntmps75 rfl ttok rfl fun N w c0 h0 => ?_
  have hkl := ha.len
  have hkl' := hb.len
  refine sq ?_; refine rl ?_; refine bx 0 ?_; refine bx 1 ?_; refine al 2 ?_; refine o1 ?_; refine nl ?_; refine sq ?_; refine sq ?_; refine rl ?_; refine ld ?_
  refine ca (c_Sign3 hb) ok70 ⟨a1g rfl, rfl⟩ (.one (tv (.int .i64 (k').sign))) ?_; refine o1 ?_; refine nl ?_; refine cdp rfl (fun h1 => ?_) (fun h1 => ?_)
  ·
    refine sq ?_; refine rl ?_; refine ca (c_Zero4) ok72 rfl (qF (.of 0)) ?_; refine st ?_; refine o1 ?_; refine nl ?_; refine rt ?_; have hk0 : k' = 0 := Int.sign_eq_zero_iff_zero.1 h1
    have hd0 : Rat.divInt k k' = 0 := by rw [hk0]; simp
    exact en (.inl rfl) rfl (pkt (.cons (.agg (.cons (.id rfl) (.cons (.id rfl) (.cons (.id rfl) (.cons (.id rfl) .nil))))) (.cons (pkv _) .nil))) (by decide) (fun h => by cases h) (by rw [if_pos hk0, hd0]; rfl)
  ·
    refine sk ?_; refine sq ?_; refine sq ?_; have hk0 : k' ≠ 0 := fun h9 => h1 (by rw [h9]; rfl)
    refine rl ?_; refine ld ?_; refine ca (c_Sign3 hb) ok70 ⟨a1g rfl, rfl⟩ (.one (tv (.int .i64 (k').sign))) ?_; refine o1 ?_; refine nl ?_; refine cdp rfl (fun h2 => ?_) (fun h2 => ?_)
    ·
      refine sq ?_; refine rl ?_; refine ld ?_; have hn3 := negz_len (k)
      refine ca (c_Neg3 ha) ok96 ⟨a1g rfl, rfl⟩ (kF (-k)) ?_; refine st ?_; refine nl ?_; refine rl ?_; refine ld ?_; have hn4 := negz_len (k')
      refine ca (c_Neg3 hb) ok96 ⟨a1g rfl, rfl⟩ (kF (-k')) ?_; refine st ?_; refine nl ?_; refine sq ?_; have hkn : k' < 0 := Int.sign_neg_iff.1 h2
      refine rl ?_; refine ld ?_; refine ld ?_; have hn5 := gcd_len (k := -k) (k' := -k') (by omega)
      refine ca (c_Gcd3 (Zn.of (k := -k) (by omega)) (Zn.of (k := -k') (by omega))) ok80 ⟨a1g rfl, a1g rfl, rfl⟩ (kF (((Int.gcd (-k) (-k') : Nat) : Int))) ?_
      refine al 3 ?_; refine st ?_; refine nl ?_; refine sq ?_; refine rl ?_; refine ld ?_; refine ld ?_
      refine ca (c_DivModn (Zn.of (k := -k) (by omega)) (Zn.of (k := ((Int.gcd (-k) (-k') : Nat) : Int)) (by omega)) (gcd_nz (by omega))) ok98 ⟨a1g rfl, a1g rfl, rfl⟩ (.tup [kF ((-k).fdiv ((Int.gcd (-k) (-k') : Nat) : Int)), kF ((-k).fmod ((Int.gcd (-k) (-k') : Nat) : Int)), .one (tv (.int .i64 0))]) ?_
      (iterate 4 refine o1 ?_); refine al 4 ?_; refine al 5 ?_; refine st ?_; refine st ?_; refine o1 ?_; refine nl ?_; refine sq ?_; refine rl ?_; refine ld ?_; refine ld ?_
      refine ca (c_DivModn (Zn.of (k := -k') (by omega)) (Zn.of (k := ((Int.gcd (-k) (-k') : Nat) : Int)) (by omega)) (gcd_nz (by omega))) ok98 ⟨a1g rfl, a1g rfl, rfl⟩ (.tup [kF ((-k').fdiv ((Int.gcd (-k) (-k') : Nat) : Int)), kF ((-k').fmod ((Int.gcd (-k) (-k') : Nat) : Int)), .one (tv (.int .i64 0))]) ?_
      (iterate 4 refine o1 ?_); refine al 6 ?_; refine al 7 ?_; refine st ?_; refine st ?_; refine o1 ?_; refine nl ?_; refine sq ?_; refine rl ?_; refine ld ?_; refine ld ?_; refine o1 ?_
      refine st ?_; refine o1 ?_; refine nl ?_; refine rt ?_; obtain ⟨hp9, hn9⟩ := new_laws (a := k) hk0
      obtain ⟨e1, e2⟩ := hn9 hkn
      exact en (.inl rfl) rfl (pkt (.cons (.agg (.cons (.id rfl) (.cons (.id rfl) (.cons (.id rfl) (.cons (.id rfl) .nil))))) (.cons (pkv _) .nil))) (by decide) (fun h => by cases h) (by rw [if_neg hk0]; exact congrArg (fun f => FV.tup [f, .one (tv (.int .i64 0))]) (qF_make e1 e2))
    ·
      refine sk ?_; refine sq ?_; have hkp : 0 < k' := by have h9 := mt Int.sign_neg_iff.2 h2; omega
      refine rl ?_; refine ld ?_; refine ld ?_; have hn6 := gcd_len (k := k) (k' := k') (by omega)
      refine ca (c_Gcd3 ha hb) ok80 ⟨a1g rfl, a1g rfl, rfl⟩ (kF (((Int.gcd k k' : Nat) : Int))) ?_; refine al 3 ?_; refine st ?_; refine nl ?_; refine sq ?_; refine rl ?_; refine ld ?_; refine ld ?_
      refine ca (c_DivModn ha (Zn.of (k := ((Int.gcd k k' : Nat) : Int)) (by omega)) (gcd_nz (by omega))) ok98 ⟨a1g rfl, a1g rfl, rfl⟩ (.tup [kF ((k).fdiv ((Int.gcd k k' : Nat) : Int)), kF ((k).fmod ((Int.gcd k k' : Nat) : Int)), .one (tv (.int .i64 0))]) ?_
      (iterate 4 refine o1 ?_); refine al 4 ?_; refine al 5 ?_; refine st ?_; refine st ?_; refine o1 ?_; refine nl ?_; refine sq ?_; refine rl ?_; refine ld ?_; refine ld ?_
      refine ca (c_DivModn hb (Zn.of (k := ((Int.gcd k k' : Nat) : Int)) (by omega)) (gcd_nz (by omega))) ok98 ⟨a1g rfl, a1g rfl, rfl⟩ (.tup [kF ((k').fdiv ((Int.gcd k k' : Nat) : Int)), kF ((k').fmod ((Int.gcd k k' : Nat) : Int)), .one (tv (.int .i64 0))]) ?_
      (iterate 4 refine o1 ?_); refine al 6 ?_; refine al 7 ?_; refine st ?_; refine st ?_; refine o1 ?_; refine nl ?_; refine sq ?_; refine rl ?_; refine ld ?_; refine ld ?_; refine o1 ?_
      refine st ?_; refine o1 ?_; refine nl ?_; refine rt ?_; obtain ⟨hp9, hn9⟩ := new_laws (a := k) hk0
      obtain ⟨e1, e2⟩ := hp9 hkp
      exact en (.inl rfl) rfl (pkt (.cons (.agg (.cons (.id rfl) (.cons (.id rfl) (.cons (.id rfl) (.cons (.id rfl) .nil))))) (.cons (pkv _) .nil))) (by decide) (fun h => by cases h) (by rw [if_neg hk0]; exact congrArg (fun f => FV.tup [f, .one (tv (.int .i64 0))]) (qF_make e1 e2))
set_option maxRecDepth 100000 in
theorem c_Of4 {n d : Int} (h1 : -9223372036854775808 ≤ n) (h2 : n ≤ 9223372036854775807) (h3 : -9223372036854775808 ≤ d) (h4 : d ≤ 9223372036854775807) : Spec false Tryz.prog 55 [] [.one (tv (.int .i64 n)), .one (tv (.int .i64 d))] (Ret (.tup [qF (.of (Rat.divInt n d)), .one (tv (.int .i64 (if d = 0 then 20 else 0)))])) := by
  refine fn0 Tryz.func55 rfl Tryz.ntmps55 rfl ttok rfl fun N w c0 h0 => ?_
  refine sq ?_; refine rl ?_; refine al 0 ?_; refine o1 ?_; refine nl ?_; refine sq ?_; refine rl ?_; refine o1 ?_; have hn1 := of_len (n := n) (by omega) (by omega)
  refine ca (c_Of3 (n := n) (by omega) (by omega)) ok38 ⟨a1 rfl, rfl⟩ (kF (n)) ?_
  refine o1 ?_; have hn2 := of_len (n := d) (by omega) (by omega)
  refine ca (c_Of3 (n := d) (by omega) (by omega)) ok38 ⟨a1 rfl, rfl⟩ (kF (d)) ?_
  refine ca (c_New4 (Zn.of (k := n) (by omega)) (Zn.of (k := d) (by omega))) ok75 ⟨a1g rfl, a1g rfl, rfl⟩ (.tup [qF (.of (Rat.divInt (n) (d))), .one (tv (.int .i64 (if (d) = 0 then 20 else 0)))]) ?_
  refine o1 ?_; refine o1 ?_; refine st ?_; refine o1 ?_; refine nl ?_; refine rt ?_
  exact en (.inl rfl) rfl (pkt (.cons (.agg (.cons (.id rfl) (.cons (.id rfl) (.cons (.id rfl) (.cons (.id rfl) .nil))))) (.cons (pkv _) .nil))) (by decide) (fun h => by cases h) rfl
set_option maxRecDepth 100000 in
theorem c_Neg4 {a : Fr4} {p : Rat} (ha : Qn a p) : Spec false Tryz.prog 71 [] [qF a] (Ret (qF (.of (-p)))) := by
  refine fn0 Tryz.func71 rfl Tryz.ntmps71 rfl ttok rfl fun N w c0 h0 => ?_
  refine sq ?_; refine rl ?_; refine bx 0 ?_; refine al 1 ?_; refine nl ?_; refine sq ?_; refine rl ?_; refine ld ?_; refine ca (c_Plain4 ha) ok50 ⟨a1g rfl, rfl⟩ (qF (.of p)) ?_; refine st ?_
  refine nl ?_; refine sq ?_; refine rd [0, 1] (fun i => [6].contains i) mixed ?_
  refine dv 0 ?_; refine dld 1 ?_; refine dv 3 ?_; refine dld 4 ?_; refine dca 2 rfl (c_Neg3 (zn_num ha.sz)) ok96 ⟨a1g rfl, rfl⟩ (kF (-p.num)) ?_; refine df 5 ?_; refine dst 6 ?_; refine dz0 ?_
  refine rt ?_
  exact en (.inl rfl) rfl (pk1 (.agg (.cons (.id rfl) (.cons (.id rfl) (.cons (.id rfl) (.cons (.id rfl) .nil)))))) (by decide) (fun h => by cases h) (by unfold qF Fr4.of; rw [Rat.neg_num, Rat.neg_den]; rfl)
set_option maxRecDepth 100000 in
theorem c_Add4 {a b : Fr4} {p q : Rat} (ha : Qn a p) (hb : Qn b q) (hs : Sz 17179869184 p) (hs' : Sz 17179869184 q) : Spec false Tryz.prog 62 [] [qF a, qF b] (Ret (qF (.of (p + q)))) := by
  refine fn0 Tryz.func62 rfl Tryz.ntmps62 rfl ttok rfl fun N w c0 h0 => ?_
  have hs1 := hs.1
  have hs2 : (dg 4294967296 ((p.den : Int)).natAbs).length ≤ 17179869184 := hs.2
  have hs3 := hs'.1
  have hs4 : (dg 4294967296 ((q.den : Int)).natAbs).length ≤ 17179869184 := hs'.2
  refine sq ?_; refine rl ?_; refine bx 0 ?_; refine bx 1 ?_; refine al 2 ?_; refine nl ?_; refine sq ?_; refine rl ?_; refine ld ?_; refine ca (c_Plain4 ha) ok50 ⟨a1g rfl, rfl⟩ (qF (.of p)) ?_
  refine st ?_; refine nl ?_; refine sq ?_; refine rl ?_; refine ld ?_; refine ca (c_Plain4 hb) ok50 ⟨a1g rfl, rfl⟩ (qF (.of q)) ?_; refine st ?_; refine nl ?_
  refine md (γ := Unit) (fun _ => frL [(4, .one (.pt 0 0)), (5, .one (.pt 1 0))]) (fun _ => ([⟨45, 0, [tv (.bool false), tv (.slice none 0 0), tv (.bool false), tv (.slice none 0 0)]⟩, ⟨45, 0, ((Fr4.of (Rat.divInt (p.num * (q.den : Int) + q.num * (p.den : Int)) ((p.den : Int) * (q.den : Int)))).tr false).map .t⟩] : List Ob).map some) (fun _ => True) ?_ fun _ _ => ?_
  ·
    refine rd [0, 1, 2] (fun i => [22].contains i) mixed ?_
    refine dv 0 ?_; refine dld 1 ?_; refine dv 2 ?_; refine dld 3 ?_; refine dv 5 ?_; refine dld 6 ?_; refine dv 7 ?_; refine dld 8 ?_; refine dv 11 ?_; refine dld 12 ?_; refine dv 13 ?_
    refine dld 14 ?_; refine WO.two (i := 4) (j := 20) (by kernel_rfl) ?_ ?_
    ·
      have hn1 := mulz_len (p.num) ((q.den : Int))
      refine oca 4 rfl (c_Mul3 (zn_num hs) (zn_den hs')) ok82 ⟨a1g rfl, a1g rfl, rfl⟩ (kF (p.num * (q.den : Int))) ?_; refine WO.two (i := 9) (j := 20) (by kernel_rfl) ?_ ?_
      ·
        have hn2 := mulz_len (q.num) ((p.den : Int))
        refine oca 9 rfl (c_Mul3 (zn_num hs') (zn_den hs)) ok82 ⟨a1g rfl, a1g rfl, rfl⟩ (kF (q.num * (p.den : Int))) ?_; refine WO.two (i := 10) (j := 20) (by kernel_rfl) ?_ ?_
        ·
          have hn3 := addz_len (p.num * (q.den : Int)) (q.num * (p.den : Int))
          refine oca 10 rfl (c_Add3 (Zn.of (k := p.num * (q.den : Int)) (by omega)) (Zn.of (k := q.num * (p.den : Int)) (by omega))) ok81 ⟨a1g rfl, a1g rfl, rfl⟩ (kF (p.num * (q.den : Int) + q.num * (p.den : Int))) ?_
          refine WO.two (i := 15) (j := 20) (by kernel_rfl) ?_ ?_
          ·
            have hn4 := mulz_len ((p.den : Int)) ((q.den : Int))
            refine oca 15 rfl (c_Mul3 (zn_den hs) (zn_den hs')) ok82 ⟨a1g rfl, a1g rfl, rfl⟩ (kF ((p.den : Int) * (q.den : Int))) ?_; refine WO.two (i := 16) (j := 20) (by kernel_rfl) ?_ ?_
            ·
              refine oca 16 rfl (c_New4 (Zn.of (k := p.num * (q.den : Int) + q.num * (p.den : Int)) (by omega)) (Zn.of (k := (p.den : Int) * (q.den : Int)) (by omega))) ok75 ⟨a1g rfl, a1g rfl, rfl⟩ (.tup [qF (.of (Rat.divInt (p.num * (q.den : Int) + q.num * (p.den : Int)) ((p.den : Int) * (q.den : Int)))), .one (tv (.int .i64 (if ((p.den : Int) * (q.den : Int)) = 0 then 20 else 0)))]) ?_
              refine df 17 ?_; refine df 18 ?_; refine df 19 ?_; refine d_al (key := 3) 20 (by kernel_rfl) rfl rfl ttok rfl ⟨rfl, rfl, rfl, trivial⟩ ?_
              refine d_stn 21 (by kernel_rfl) rfl rfl ttok rfl rfl rfl rfl ⟨rfl, rfl, rfl, trivial⟩ ?_
              refine d_v 22 (by kernel_rfl) rfl rfl ttok rfl (by trivial) ?_ (fun h => by first | rfl | cases h)
              refine dz0 ?_; exact ⟨(), trivial, su0 h0 [2, 3] _ _ (by decide) ⟨rfl, rfl, trivial⟩ ⟨oe rfl rfl, oe rfl rfl, rfl⟩⟩
            ·
              refine o_al (key := 3) 20 rfl rfl ttok rfl ⟨rfl, rfl, rfl, trivial⟩ ?_
              refine dca 16 rfl (c_New4 (Zn.of (k := p.num * (q.den : Int) + q.num * (p.den : Int)) (by omega)) (Zn.of (k := (p.den : Int) * (q.den : Int)) (by omega))) ok75 ⟨a1g rfl, a1g rfl, rfl⟩ (.tup [qF (.of (Rat.divInt (p.num * (q.den : Int) + q.num * (p.den : Int)) ((p.den : Int) * (q.den : Int)))), .one (tv (.int .i64 (if ((p.den : Int) * (q.den : Int)) = 0 then 20 else 0)))]) ?_
              refine df 17 ?_; refine df 18 ?_; refine df 19 ?_; refine d_stn 21 (by kernel_rfl) rfl rfl ttok rfl rfl rfl rfl ⟨rfl, rfl, rfl, trivial⟩ ?_
              refine d_v 22 (by kernel_rfl) rfl rfl ttok rfl (by trivial) ?_ (fun h => by first | rfl | cases h)
              refine dz0 ?_; exact ⟨(), trivial, su0 h0 [2, 3] _ _ (by decide) ⟨rfl, rfl, trivial⟩ ⟨oe rfl rfl, oe rfl rfl, rfl⟩⟩
          ·
            refine o_al (key := 3) 20 rfl rfl ttok rfl ⟨rfl, rfl, rfl, trivial⟩ ?_; have hn5 := mulz_len ((p.den : Int)) ((q.den : Int))
            refine dca 15 rfl (c_Mul3 (zn_den hs) (zn_den hs')) ok82 ⟨a1g rfl, a1g rfl, rfl⟩ (kF ((p.den : Int) * (q.den : Int))) ?_
            refine dca 16 rfl (c_New4 (Zn.of (k := p.num * (q.den : Int) + q.num * (p.den : Int)) (by omega)) (Zn.of (k := (p.den : Int) * (q.den : Int)) (by omega))) ok75 ⟨a1g rfl, a1g rfl, rfl⟩ (.tup [qF (.of (Rat.divInt (p.num * (q.den : Int) + q.num * (p.den : Int)) ((p.den : Int) * (q.den : Int)))), .one (tv (.int .i64 (if ((p.den : Int) * (q.den : Int)) = 0 then 20 else 0)))]) ?_
            refine df 17 ?_; refine df 18 ?_; refine df 19 ?_; refine d_stn 21 (by kernel_rfl) rfl rfl ttok rfl rfl rfl rfl ⟨rfl, rfl, rfl, trivial⟩ ?_
            refine d_v 22 (by kernel_rfl) rfl rfl ttok rfl (by trivial) ?_ (fun h => by first | rfl | cases h)
            refine dz0 ?_; exact ⟨(), trivial, su0 h0 [2, 3] _ _ (by decide) ⟨rfl, rfl, trivial⟩ ⟨oe rfl rfl, oe rfl rfl, rfl⟩⟩
        ·
          refine o_al (key := 3) 20 rfl rfl ttok rfl ⟨rfl, rfl, rfl, trivial⟩ ?_; have hn6 := addz_len (p.num * (q.den : Int)) (q.num * (p.den : Int))
          refine dca 10 rfl (c_Add3 (Zn.of (k := p.num * (q.den : Int)) (by omega)) (Zn.of (k := q.num * (p.den : Int)) (by omega))) ok81 ⟨a1g rfl, a1g rfl, rfl⟩ (kF (p.num * (q.den : Int) + q.num * (p.den : Int))) ?_
          have hn7 := mulz_len ((p.den : Int)) ((q.den : Int))
          refine dca 15 rfl (c_Mul3 (zn_den hs) (zn_den hs')) ok82 ⟨a1g rfl, a1g rfl, rfl⟩ (kF ((p.den : Int) * (q.den : Int))) ?_
          refine dca 16 rfl (c_New4 (Zn.of (k := p.num * (q.den : Int) + q.num * (p.den : Int)) (by omega)) (Zn.of (k := (p.den : Int) * (q.den : Int)) (by omega))) ok75 ⟨a1g rfl, a1g rfl, rfl⟩ (.tup [qF (.of (Rat.divInt (p.num * (q.den : Int) + q.num * (p.den : Int)) ((p.den : Int) * (q.den : Int)))), .one (tv (.int .i64 (if ((p.den : Int) * (q.den : Int)) = 0 then 20 else 0)))]) ?_
          refine df 17 ?_; refine df 18 ?_; refine df 19 ?_; refine d_stn 21 (by kernel_rfl) rfl rfl ttok rfl rfl rfl rfl ⟨rfl, rfl, rfl, trivial⟩ ?_
          refine d_v 22 (by kernel_rfl) rfl rfl ttok rfl (by trivial) ?_ (fun h => by first | rfl | cases h)
          refine dz0 ?_; exact ⟨(), trivial, su0 h0 [2, 3] _ _ (by decide) ⟨rfl, rfl, trivial⟩ ⟨oe rfl rfl, oe rfl rfl, rfl⟩⟩
      ·
        refine o_al (key := 3) 20 rfl rfl ttok rfl ⟨rfl, rfl, rfl, trivial⟩ ?_; have hn8 := mulz_len (q.num) ((p.den : Int))
        refine dca 9 rfl (c_Mul3 (zn_num hs') (zn_den hs)) ok82 ⟨a1g rfl, a1g rfl, rfl⟩ (kF (q.num * (p.den : Int))) ?_; have hn9 := addz_len (p.num * (q.den : Int)) (q.num * (p.den : Int))
        refine dca 10 rfl (c_Add3 (Zn.of (k := p.num * (q.den : Int)) (by omega)) (Zn.of (k := q.num * (p.den : Int)) (by omega))) ok81 ⟨a1g rfl, a1g rfl, rfl⟩ (kF (p.num * (q.den : Int) + q.num * (p.den : Int))) ?_
        have hn10 := mulz_len ((p.den : Int)) ((q.den : Int))
        refine dca 15 rfl (c_Mul3 (zn_den hs) (zn_den hs')) ok82 ⟨a1g rfl, a1g rfl, rfl⟩ (kF ((p.den : Int) * (q.den : Int))) ?_
        refine dca 16 rfl (c_New4 (Zn.of (k := p.num * (q.den : Int) + q.num * (p.den : Int)) (by omega)) (Zn.of (k := (p.den : Int) * (q.den : Int)) (by omega))) ok75 ⟨a1g rfl, a1g rfl, rfl⟩ (.tup [qF (.of (Rat.divInt (p.num * (q.den : Int) + q.num * (p.den : Int)) ((p.den : Int) * (q.den : Int)))), .one (tv (.int .i64 (if ((p.den : Int) * (q.den : Int)) = 0 then 20 else 0)))]) ?_
        refine df 17 ?_; refine df 18 ?_; refine df 19 ?_; refine d_stn 21 (by kernel_rfl) rfl rfl ttok rfl rfl rfl rfl ⟨rfl, rfl, rfl, trivial⟩ ?_
        refine d_v 22 (by kernel_rfl) rfl rfl ttok rfl (by trivial) ?_ (fun h => by first | rfl | cases h)
        refine dz0 ?_; exact ⟨(), trivial, su0 h0 [2, 3] _ _ (by decide) ⟨rfl, rfl, trivial⟩ ⟨oe rfl rfl, oe rfl rfl, rfl⟩⟩
    ·
      refine o_al (key := 3) 20 rfl rfl ttok rfl ⟨rfl, rfl, rfl, trivial⟩ ?_; have hn11 := mulz_len (p.num) ((q.den : Int))
      refine dca 4 rfl (c_Mul3 (zn_num hs) (zn_den hs')) ok82 ⟨a1g rfl, a1g rfl, rfl⟩ (kF (p.num * (q.den : Int))) ?_; have hn12 := mulz_len (q.num) ((p.den : Int))
      refine dca 9 rfl (c_Mul3 (zn_num hs') (zn_den hs)) ok82 ⟨a1g rfl, a1g rfl, rfl⟩ (kF (q.num * (p.den : Int))) ?_; have hn13 := addz_len (p.num * (q.den : Int)) (q.num * (p.den : Int))
      refine dca 10 rfl (c_Add3 (Zn.of (k := p.num * (q.den : Int)) (by omega)) (Zn.of (k := q.num * (p.den : Int)) (by omega))) ok81 ⟨a1g rfl, a1g rfl, rfl⟩ (kF (p.num * (q.den : Int) + q.num * (p.den : Int))) ?_
      have hn14 := mulz_len ((p.den : Int)) ((q.den : Int))
      refine dca 15 rfl (c_Mul3 (zn_den hs) (zn_den hs')) ok82 ⟨a1g rfl, a1g rfl, rfl⟩ (kF ((p.den : Int) * (q.den : Int))) ?_
      refine dca 16 rfl (c_New4 (Zn.of (k := p.num * (q.den : Int) + q.num * (p.den : Int)) (by omega)) (Zn.of (k := (p.den : Int) * (q.den : Int)) (by omega))) ok75 ⟨a1g rfl, a1g rfl, rfl⟩ (.tup [qF (.of (Rat.divInt (p.num * (q.den : Int) + q.num * (p.den : Int)) ((p.den : Int) * (q.den : Int)))), .one (tv (.int .i64 (if ((p.den : Int) * (q.den : Int)) = 0 then 20 else 0)))]) ?_
      refine df 17 ?_; refine df 18 ?_; refine df 19 ?_; refine d_stn 21 (by kernel_rfl) rfl rfl ttok rfl rfl rfl rfl ⟨rfl, rfl, rfl, trivial⟩ ?_
      refine d_v 22 (by kernel_rfl) rfl rfl ttok rfl (by trivial) ?_ (fun h => by first | rfl | cases h)
      refine dz0 ?_; exact ⟨(), trivial, su0 h0 [2, 3] _ _ (by decide) ⟨rfl, rfl, trivial⟩ ⟨oe rfl rfl, oe rfl rfl, rfl⟩⟩
  refine sq ?_; refine rl ?_; refine ld ?_; refine st ?_; refine nl ?_; refine rt ?_
  exact en (.inl rfl) rfl (pk1 (.agg (.cons (.id rfl) (.cons (.id rfl) (.cons (.id rfl) (.cons (.id rfl) .nil)))))) (by decide) (fun h => by cases h) (by rw [← add_other]; rfl)
set_option maxRecDepth 100000 in
theorem c_Sub4 {a b : Fr4} {p q : Rat} (ha : Qn a p) (hb : Qn b q) (hs : Sz 17179869184 p) (hs' : Sz 17179869184 q) : Spec false Tryz.prog 49 [] [qF a, qF b] (Ret (qF (.of (p - q)))) := by
  refine fn0 Tryz.func49 rfl Tryz.ntmps49 rfl ttok rfl fun N w c0 h0 => ?_
  refine sq ?_; refine rl ?_; refine bx 0 ?_; refine bx 1 ?_; refine al 2 ?_; refine nl ?_; refine sq ?_; refine rd [0, 1, 2] (fun i => [4].contains i) mixed ?_
  refine dld 0 ?_; refine dld 1 ?_; refine dca 2 rfl (c_Neg4 hb) ok71 ⟨a1g rfl, rfl⟩ (qF (.of (-q))) ?_
  refine dca 3 rfl (c_Add4 ha (Qn.of (p := (-q)) (neg_sz hs')) hs (neg_sz hs')) ok62 ⟨a1g rfl, a1g rfl, rfl⟩ (qF (.of (p + (-q)))) ?_; refine dst 4 ?_; refine dz0 ?_; refine rt ?_
  exact en (.inl rfl) rfl (pk1 (.agg (.cons (.id rfl) (.cons (.id rfl) (.cons (.id rfl) (.cons (.id rfl) .nil)))))) (by decide) (fun h => by cases h) (by rw [Rat.sub_eq_add_neg]; rfl)
set_option maxRecDepth 100000 in
theorem c_Sign4 {a : Fr4} {p : Rat} (ha : Qn a p) : Spec true Tryz.prog 48 [] [qF a] (Ret (.one (tv (.int .i64 p.num.sign)))) := by
  refine fn0 Tryz.func48 rfl Tryz.ntmps48 rfl ttok rfl fun N w c0 h0 => ?_
  refine sq ?_; refine rl ?_; refine bx 0 ?_; refine o1 ?_; refine nl ?_; refine sq ?_; refine rl ?_; refine ld ?_; refine ca (c_Plain4 ha) ok50 ⟨a1g rfl, rfl⟩ (qF (.of p)) ?_; refine o1 ?_
  refine ca (c_Sign3 (zn_num ha.sz)) ok70 ⟨a1g rfl, rfl⟩ (.one (tv (.int .i64 (p.num).sign))) ?_; refine o1 ?_; refine nl ?_; refine rt ?_
  exact en (.inl rfl) rfl (pk1 (pkv _)) (by decide) (fun _ => trivial) rfl
set_option maxRecDepth 100000 in
theorem c_Cmp4 {a b : Fr4} {p q : Rat} (ha : Qn a p) (hb : Qn b q) (hs : Sz 17179869184 p) (hs' : Sz 17179869184 q) : Spec true Tryz.prog 19 [] [qF a, qF b] (Ret (.one (tv (.int .i64 (p - q).num.sign)))) := by
  refine fn0 Tryz.func19 rfl Tryz.ntmps19 rfl ttok rfl fun N w c0 h0 => ?_
  refine sq ?_; refine rl ?_; refine bx 0 ?_; refine bx 1 ?_; refine o1 ?_; refine nl ?_; refine sq ?_; refine rl ?_; refine ld ?_; refine ld ?_
  refine ca (c_Sub4 ha hb hs hs') ok49 ⟨a1g rfl, a1g rfl, rfl⟩ (qF (.of (p - q))) ?_
  refine ca (c_Sign4 (Qn.of (p := (p - q)) (sub_sz hs hs'))) ok48 ⟨a1g rfl, rfl⟩ (.one (tv (.int .i64 (p - q).num.sign))) ?_; refine o1 ?_; refine nl ?_; refine rt ?_
  exact en (.inl rfl) rfl (pk1 (pkv _)) (by decide) (fun _ => trivial) rfl
end Go.Proofs.YtogaallfhifngaaGreat

/- Walks of the third road: least and greatest fractions; tallageref25. Printed by a program. -/
namespace Go.Proofs.YtogaallfhifngaaGreat
open Go Go.RowKit
set_option maxRecDepth 100000 in
theorem c_Max4 {xs : List Fr4} (hne : 0 < xs.length) (hx : ∀ x ∈ xs, x.ok ∧ Sz 17179869184 x.q) (hl : xs.length ≤ 1099511627776) : Spec false Tryz.prog 20 [] [.one (.t (sQ false xs))] (Ret (qF (.of (qmax0 (xs.map Fr4.q))))) := by
  refine fn0 Tryz.func20 rfl Tryz.ntmps20 rfl ttok rfl fun N w c0 h0 => ?_
  refine sq ?_; refine rl ?_; refine al 0 ?_; refine nl ?_; refine sq ?_; refine rl ?_; refine o1 ?_; refine o1 ?_; refine ldf ((nthF xs (0)).tr false) (rat_at xs (k := 0) (by omega)) ?_
  refine ca (c_Plain4 ⟨(hx _ (nthF_mem (by omega))).1, rfl⟩) ok50 ⟨a1g rfl, rfl⟩ (qF (.of (nthF xs (0)).q)) ?_
  refine al 1 ?_; refine st ?_; refine nl ?_; refine sq ?_; refine sq ?_; refine rl ?_; refine o1 ?_; refine nl ?_; refine bl ?_
  refine lp (γ := Nat) (fun k => frL [(0, .one (.t (sQ false xs))), (2, .one (.pt 0 0)), (3, .one (.pt 1 0)), (4, .one (tv (.int .i64 ((k : Nat) : Int))))]) (fun k => [(⟨45, 0, [tv (.bool false), tv (.slice none 0 0), tv (.bool false), tv (.slice none 0 0)]⟩ : Ob), ⟨45, 0, ((Fr4.of (qmax0 ((xs.take k).map Fr4.q))).tr false).map .t⟩].map some) (fun k => 1 ≤ k ∧ k ≤ xs.length ∧ Sz 17179869184 (qmax0 ((xs.take k).map Fr4.q))) (fun k => xs.length - k) 1 ⟨Nat.le_refl _, hne, by rw [qmax0_one hne]; exact (hx _ (nthF_mem hne)).2⟩ (su0 h0 [0, 1] _ _ (by decide) ⟨rfl, rfl, rfl, rfl, trivial⟩ ⟨oe rfl rfl, oet (congrArg (fun q => some (⟨45, 0, ((Fr4.of q).tr false).map .t⟩ : Ob)) (qmax0_one hne).symm), rfl⟩) fun k hk => ?_
  refine sq ?_; refine sq ?_; refine rl ?_; (iterate 4 refine o1 ?_); refine nl ?_; refine cdp rfl (fun h1 => ?_) (fun h1 => ?_)
  ·
    refine sk ?_; refine sq ?_; refine bl ?_; refine sq ?_; refine rd [0, 1] (fun i => [].contains i) mixed ?_
    refine dv 0 ?_; refine dv 1 ?_; refine dv 2 ?_; refine dlr 3 ((nthF xs (k)).tr false) (rat_at xs (k := k) (by omega)) ?_
    refine dld 4 ?_
    refine dca 5 rfl (c_Cmp4 ⟨(hx _ (nthF_mem (by omega))).1, rfl⟩ (Qn.of (p := (qmax0 ((xs.take k).map Fr4.q))) hk.2.2) (hx _ (nthF_mem (by omega))).2 hk.2.2) ok19 ⟨a1g rfl, a1g rfl, rfl⟩ (.one (tv (.int .i64 ((nthF xs (k)).q - (qmax0 ((xs.take k).map Fr4.q))).num.sign))) ?_
    refine df 6 ?_; refine dz0 ?_; refine cdp rfl (fun h2 => ?_) (fun h2 => ?_)
    ·
      refine rl ?_; (iterate 3 refine o1 ?_); refine ldf ((nthF xs (k)).tr false) (rat_at xs (k := k) (by omega)) ?_
      refine ca (c_Plain4 ⟨(hx _ (nthF_mem (by omega))).1, rfl⟩) ok50 ⟨a1g rfl, rfl⟩ (qF (.of (nthF xs (k)).q)) ?_
      refine st ?_; refine nl ?_; refine rl ?_; refine o1 ?_; refine o1 ?_; refine WL.cast (t := 14) (u' := .int .i64 ((k + 1 : Nat) : Int)) rfl (cint (by omega)) ?_
      refine o1 ?_; refine nl ?_; have hst : (qmax0 ((xs.take (k + 1)).map Fr4.q)) = (nthF xs k).q := (qmax0_step hk.1 (by omega)).trans (if_pos ((gt_sgn _ _).1 h2))
      exact ⟨k + 1, by omega, ⟨by omega, by omega, by rw [hst]; exact (hx _ (nthF_mem (by omega))).2⟩, su0 h0 [0, 1] _ _ (by decide) ⟨rfl, rfl, rfl, rfl, trivial⟩ ⟨oe rfl rfl, oet (congrArg (fun q => some (⟨45, 0, ((Fr4.of q).tr false).map .t⟩ : Ob)) hst.symm), rfl⟩⟩
    ·
      refine sk ?_; refine rl ?_; refine o1 ?_; refine o1 ?_; refine WL.cast (t := 14) (u' := .int .i64 ((k + 1 : Nat) : Int)) rfl (cint (by omega)) ?_
      refine o1 ?_; refine nl ?_; have hst : (qmax0 ((xs.take (k + 1)).map Fr4.q)) = (qmax0 ((xs.take k).map Fr4.q)) := (qmax0_step hk.1 (by omega)).trans (if_neg fun h8 => h2 ((gt_sgn _ _).2 h8))
      exact ⟨k + 1, by omega, ⟨by omega, by omega, by rw [hst]; exact hk.2.2⟩, su0 h0 [0, 1] _ _ (by decide) ⟨rfl, rfl, rfl, rfl, trivial⟩ ⟨oe rfl rfl, oet (congrArg (fun q => some (⟨45, 0, ((Fr4.of q).tr false).map .t⟩ : Ob)) hst.symm), rfl⟩⟩
  ·
    refine ex ?_; refine sq ?_; refine rl ?_; refine ld ?_; refine st ?_; refine nl ?_; refine rt ?_
    exact en (.inl rfl) rfl (pk1 (.agg (.cons (.id rfl) (.cons (.id rfl) (.cons (.id rfl) (.cons (.id rfl) .nil)))))) (by decide) (fun h => by cases h) (by rw [List.take_of_length_le (by omega)]; rfl)
end Go.Proofs.YtogaallfhifngaaGreat

/- Walks of the third road: tallageref25. Printed by a program. -/
namespace Go.Proofs.YtogaallfhifngaaGreat
open Go Go.RowKit
end Go.Proofs.YtogaallfhifngaaGreat

/- Walks of the third road: tallageref25. Printed by a program. -/
namespace Go.Proofs.YtogaallfhifngaaGreat
open Go Go.RowKit
end Go.Proofs.YtogaallfhifngaaGreat

/- Walks of the third road: filings. Printed by a program. -/
namespace Go.Proofs.YtogaallfhifngaaGreat
open Go Go.RowKit
set_option maxRecDepth 100000 in
theorem c_limbs {xs : List Nat} (hx : xs.length ≤ 1099511627776) : Spec true Tryz.prog 39 [] [.one (.t (sU false xs))] (Ret (.one (.t (sU true xs)))) := by
  refine fn0 Tryz.func39 rfl Tryz.ntmps39 rfl ttok rfl fun N w c0 h0 => ?_
  refine sq ?_; refine rl ?_; refine o1 ?_; refine nl ?_; refine sq ?_; refine rl ?_; refine o1 ?_; refine nl ?_; refine sq ?_; refine rl ?_; refine o1 ?_; refine o1 ?_
  refine w_app (j := 0) ttok rfl rfl rfl rfl .nil .fz (rd_u32 _) (lone_u32 _) rfl (by omega) (by omega) ?_
  refine o1 ?_; refine nl ?_; refine rt ?_
  exact en (.inl rfl) rfl (pk1 (.one (.sl rfl rfl (by rw [Nat.zero_add, Nat.mul_one, List.nil_append, List.take_of_length_le (by simp [u32T_len])]) (by simp [u32T_len])))) (by decide) (fun _ => .inl ⟨rfl, nofr_u32 xs⟩) (by simp [Ret, sU])
set_option maxRecDepth 100000 in
theorem c_row {xs ys : List Nat} (hx : xs.length ≤ 1099511627776) (hy : ys.length ≤ 1099511627776) : Spec true Tryz.prog 61 [] [.one (.t (sU false xs)), .one (.t (sU false ys))] (Ret (.one (tv (.bool (decide (xs = ys)))))) := by
  refine fn0 Tryz.func61 rfl Tryz.ntmps61 rfl ttok rfl fun N w c0 h0 => ?_
  refine sq ?_; refine rl ?_; refine o1 ?_; refine nl ?_; refine sq ?_; refine sq ?_; refine rl ?_; (iterate 5 refine o1 ?_); refine nl ?_; refine cdp rfl (fun h1 => ?_) (fun h1 => ?_)
  ·
    refine sq ?_; refine rl ?_; refine o1 ?_; refine nl ?_; refine rt ?_; refine en (.inl rfl) rfl (pk1 (pkv _)) (by decide) (fun _ => trivial) (congrArg (fun b => FV.one (tv (.bool b))) ?_)
    exact (decide_eq_false (fun h => h1 (by rw [h]))).symm
  ·
    refine sk ?_; refine sq ?_; refine sq ?_; refine rl ?_; refine o1 ?_; refine nl ?_; refine bl ?_
    refine lp (γ := Nat) (fun k => frL [(0, .one (.t (sU false xs))), (1, .one (.t (sU false ys))), (5, .one (tv (.int .i64 ((k : Nat) : Int))))]) (fun k => [].map some) (fun k => k ≤ xs.length ∧ xs.take k = ys.take k) (fun k => xs.length - k) 0 (⟨Nat.zero_le _, rfl⟩) (su0 h0 [] _ _ (by decide) ⟨rfl, rfl, rfl, trivial⟩ rfl) fun k hk => ?_
    refine sq ?_; refine sq ?_; refine rl ?_; (iterate 4 refine o1 ?_); refine nl ?_; refine cdp rfl (fun h2 => ?_) (fun h2 => ?_)
    ·
      refine sk ?_; refine sq ?_; refine bl ?_; refine sq ?_; refine rd [] (fun i => [].contains i) mixed ?_
      refine dv 0 ?_; refine dv 1 ?_; refine dv 2 ?_; refine dlr 3 ([.v (.int .u32 ((nth xs (k) : Nat) : Int))]) (u32_at xs (k := k) (by omega)) ?_
      refine dv 4 ?_; refine dv 5 ?_; refine dv 6 ?_; refine dlr 7 ([.v (.int .u32 ((nth ys (k) : Nat) : Int))]) (u32_at ys (k := k) (by omega)) ?_
      refine dv 8 ?_; refine dz0 ?_; refine cdp rfl (fun h3 => ?_) (fun h3 => ?_)
      ·
        refine sq ?_; refine rl ?_; refine o1 ?_; refine nl ?_; refine rt ?_; refine en (.inl rfl) rfl (pk1 (pkv _)) (by decide) (fun _ => trivial) (congrArg (fun b => FV.one (tv (.bool b))) ?_)
        exact (decide_eq_false (fun h => h3 (by rw [h]))).symm
      ·
        refine sk ?_; refine rl ?_; (iterate 3 refine o1 ?_); refine nl ?_
        exact ⟨k + 1, by omega, ⟨by omega, row_step hk.2 (by omega) (by omega) (by omega)⟩, su0 h0 [] _ _ (by decide) ⟨rfl, rfl, rfl, trivial⟩ rfl⟩
    ·
      refine ex ?_; refine sq ?_; refine rl ?_; refine o1 ?_; refine nl ?_; refine rt ?_
      refine en (.inl rfl) rfl (pk1 (pkv _)) (by decide) (fun _ => trivial) (congrArg (fun b => FV.one (tv (.bool b))) ?_)
      exact (decide_eq_true (by rw [← List.take_of_length_le (i := k) (l := xs) (by omega), hk.2, List.take_of_length_le (by omega)])).symm
set_option maxRecDepth 100000 in
theorem c_RefRat {a : Fr4} (ha : a.len 1099511627776) : Spec true Tryz.prog 14 [] [qF a] (Ret (rO a)) := by
  refine fn0 Tryz.func14 rfl Tryz.ntmps14 rfl ttok rfl fun N w c0 h0 => ?_
  refine sq ?_; refine rl ?_; refine bx 0 ?_; refine al 1 ?_; refine nl ?_; refine sq ?_; refine rd [0, 1] (fun i => [17].contains i) mixed ?_
  refine dv 0 ?_; refine dv 1 ?_; refine dld 2 ?_; refine dv 3 ?_; refine dv 4 ?_; refine dld 5 ?_; refine dv 8 ?_; refine dv 9 ?_; refine dld 10 ?_; refine dv 11 ?_; refine dv 12 ?_; refine dld 13 ?_
  refine dck 2 6 rfl (c_limbs ha.1) ok39 ⟨a1 rfl, rfl⟩ ?_; refine df 7 ?_; refine dck 3 14 rfl (c_limbs ha.2) ok39 ⟨a1 rfl, rfl⟩ ?_; refine df 15 ?_; refine df 16 ?_; refine dst 17 ?_; refine dz0 ?_
  refine rt ?_
  exact en (.inl rfl) rfl (pk1 (.agg (.cons (.id rfl) (.cons (.sl (trs := u32T a.x) rfl rfl (tk_u32 _) (ln_u32 _)) (.cons (.id rfl) (.cons (.sl (trs := u32T a.y) rfl rfl (tk_u32 _) (ln_u32 _)) .nil)))))) (by decide) (fun _ => nofr_r a) rfl
set_option maxRecDepth 100000 in
theorem c_OfRat {a : Fr4} (ha : a.len 1099511627776) : Spec true Tryz.prog 35 [] [qF a] (Ret (rO a)) := by
  refine fn0 Tryz.func35 rfl Tryz.ntmps35 rfl ttok rfl fun N w c0 h0 => ?_
  refine sq ?_; refine rl ?_; refine bx 0 ?_; refine al 1 ?_; refine nl ?_; refine sq ?_; refine rd [0, 1] (fun i => [17].contains i) mixed ?_
  refine dv 0 ?_; refine dv 1 ?_; refine dld 2 ?_; refine dv 3 ?_; refine dv 4 ?_; refine dld 5 ?_; refine dv 8 ?_; refine dv 9 ?_; refine dld 10 ?_; refine dv 11 ?_; refine dv 12 ?_; refine dld 13 ?_
  refine dck 2 6 rfl (c_limbs ha.1) ok39 ⟨a1 rfl, rfl⟩ ?_; refine df 7 ?_; refine dck 3 14 rfl (c_limbs ha.2) ok39 ⟨a1 rfl, rfl⟩ ?_; refine df 15 ?_; refine df 16 ?_; refine dst 17 ?_; refine dz0 ?_
  refine rt ?_
  exact en (.inl rfl) rfl (pk1 (.agg (.cons (.id rfl) (.cons (.sl (trs := u32T a.x) rfl rfl (tk_u32 _) (ln_u32 _)) (.cons (.id rfl) (.cons (.sl (trs := u32T a.y) rfl rfl (tk_u32 _) (ln_u32 _)) .nil)))))) (by decide) (fun _ => nofr_r a) rfl
set_option maxRecDepth 100000 in
theorem c_IsRat {a b : Fr4} (ha : a.len 1099511627776) (hb : b.len 1099511627776) : Spec true Tryz.prog 36 [] [qF a, qF b] (Ret (.one (tv (.bool (decide (a = b)))))) := by
  refine fn0 Tryz.func36 rfl Tryz.ntmps36 rfl ttok rfl fun N w c0 h0 => ?_
  refine sq ?_; refine rl ?_; refine bx 0 ?_; refine bx 1 ?_; refine o1 ?_; refine nl ?_; refine sq ?_; refine rl ?_; refine o1 ?_; refine o1 ?_; refine ld ?_; refine o1 ?_; refine o1 ?_; refine ld ?_
  refine o1 ?_; refine o1 ?_; refine WL.splitb (t := 12) rfl (fun h1 => ?_) (fun h1 => ?_)
  ·
    refine o1 ?_; refine o1 ?_; refine ld ?_; refine o1 ?_; refine o1 ?_; refine ld ?_; (iterate 3 refine o1 ?_); refine WL.splitb (t := 21) rfl (fun h2 => ?_) (fun h2 => ?_)
    ·
      refine o1 ?_; refine o1 ?_; refine ld ?_; refine o1 ?_; refine o1 ?_; refine ld ?_; refine ca (c_row ha.1 hb.1) ok61 ⟨a1 rfl, a1 rfl, rfl⟩ (.one (tv (.bool (decide (a.x = b.x))))) ?_
      refine o1 ?_; refine o1 ?_; refine WL.split (t := 30) rfl (fun h3 => ?_) (fun h3 => ?_)
      ·
        refine o1 ?_; refine o1 ?_; refine ld ?_; refine o1 ?_; refine o1 ?_; refine ld ?_; refine ca (c_row ha.2 hb.2) ok61 ⟨a1 rfl, a1 rfl, rfl⟩ (.one (tv (.bool (decide (a.y = b.y))))) ?_
        refine o1 ?_; refine o1 ?_; refine nl ?_; refine rt ?_; exact en (.inl rfl) rfl (pk1 (pkv _)) (by decide) (fun _ => trivial) (congrArg (fun b => FV.one (tv (.bool b))) (by simp_all [fr4_eq]))
      ·
        (iterate 7 refine no_ ?_); refine o1 ?_; refine o1 ?_; refine nl ?_; refine rt ?_
        exact en (.inl rfl) rfl (pk1 (pkv _)) (by decide) (fun _ => trivial) (congrArg (fun b => FV.one (tv (.bool b))) (by simp_all [fr4_eq]))
    ·
      (iterate 7 refine no_ ?_); refine o1 ?_; refine o1 ?_; (iterate 7 refine no_ ?_); refine o1 ?_; refine o1 ?_; refine nl ?_; refine rt ?_
      exact en (.inl rfl) rfl (pk1 (pkv _)) (by decide) (fun _ => trivial) (congrArg (fun b => FV.one (tv (.bool b))) (by simp_all [fr4_eq]))
  ·
    (iterate 7 refine no_ ?_); refine o1 ?_; refine o1 ?_; (iterate 7 refine no_ ?_); refine o1 ?_; refine o1 ?_; (iterate 7 refine no_ ?_); refine o1 ?_; refine o1 ?_; refine nl ?_; refine rt ?_
    exact en (.inl rfl) rfl (pk1 (pkv _)) (by decide) (fun _ => trivial) (congrArg (fun b => FV.one (tv (.bool b))) (by simp_all [fr4_eq]))
end Go.Proofs.YtogaallfhifngaaGreat

/- Filings: Pick, By; the law of loss: short, few, same, spoil. Printed by a program. -/
namespace Go.Proofs.YtogaallfhifngaaGreat
open Go Go.RowKit
set_option maxRecDepth 100000 in
theorem f_Pick {i n : Int} (hn : 0 < n) (hn2 : n ≤ 1000000) : Spec true Tryz.prog 13 [] [.one (tv (.int .i64 i)), .one (tv (.int .i64 n))] (Ret (.one (tv (.int .i64 ((i.tmod n + n).tmod n))))) := by
  refine fn0 Tryz.func13 rfl Tryz.ntmps13 rfl ttok rfl fun N w c0 h0 => ?_
  have hp := pick_in (i := i) hn
  refine sq ?_; refine rl ?_; refine o1 ?_; refine nl ?_; refine sq ?_; refine sq ?_; refine rl ?_; refine o1 ?_; refine o1 ?_; refine nl ?_; refine cdp rfl (fun h1 => ?_) (fun h1 => ?_)
  ·
    exact absurd h1 (by omega)
  ·
    refine sk ?_; refine sq ?_; refine rl ?_; refine o1 ?_; refine o1 ?_; refine o1 ?_ (hC := (by omega))
    (iterate 3 refine o1 ?_); refine o1 ?_ (hC := (by omega))
    refine o1 ?_; refine nl ?_; refine rt ?_; exact en (.inl rfl) rfl (pk1 (pkv _)) (by decide) (fun _ => trivial) rfl
set_option maxRecDepth 100000 in
theorem f_By {n d : Int} (h1 : -9223372036854775808 ≤ n) (h2 : n ≤ 9223372036854775807) (h3 : -9223372036854775808 ≤ d) (h4 : d ≤ 9223372036854775807) : Spec true Tryz.prog 26 [] [.one (tv (.int .i64 n)), .one (tv (.int .i64 d))] (Ret (qO (Rat.divInt n d))) := by
  refine fn0 Tryz.func26 rfl Tryz.ntmps26 rfl ttok rfl fun N w c0 h0 => ?_
  have hs := by_sz h1 h2 h3 h4
  have hl : (Fr4.of (Rat.divInt n d)).len 1099511627776 := ⟨Nat.le_trans hs.1 (by omega), Nat.le_trans hs.2 (by omega)⟩
  refine sq ?_; refine rl ?_; refine al 0 ?_; refine nl ?_; refine sq ?_; refine rl ?_; refine o1 ?_; refine o1 ?_
  refine ca (c_Of4 h1 h2 h3 h4) ok55 ⟨a1 rfl, a1 rfl, rfl⟩ (.tup [qF (.of (Rat.divInt n d)), .one (tv (.int .i64 (if d = 0 then 20 else 0)))]) ?_; (iterate 3 refine o1 ?_); refine al 1 ?_; refine st ?_
  refine o1 ?_; refine nl ?_; refine sq ?_; refine rl ?_; refine ld ?_; refine cak 2 (c_OfRat (a := .of (Rat.divInt n d)) hl) ok35 ⟨a1g rfl, rfl⟩ ?_; refine st ?_; refine nl ?_; refine rt ?_
  exact en (.inl rfl) rfl (pk1 (.agg (.cons (.id rfl) (.cons (.sl (trs := u32T (dg 4294967296 (Rat.divInt n d).num.natAbs)) rfl rfl (tk_u32 _) (ln_u32 _)) (.cons (.id rfl) (.cons (.sl (trs := u32T (dg 4294967296 (Rat.divInt n d).den)) rfl rfl (tk_u32 _) (ln_u32 _)) .nil)))))) (by decide) (fun _ => nofr_q _) rfl
set_option maxRecDepth 100000 in
theorem l_short {a : Fr4} : Spec true Tryz.prog 23 [] [qF a] (Ret (.one (tv (.bool (shortB a))))) := by
  refine fn0 Tryz.func23 rfl Tryz.ntmps23 rfl ttok rfl fun N w c0 h0 => ?_
  refine sq ?_; refine rl ?_; refine bx 0 ?_; refine o1 ?_; refine nl ?_; refine sq ?_; refine rl ?_; refine o1 ?_; refine o1 ?_; refine ld ?_; (iterate 3 refine o1 ?_)
  refine WL.split (t := 8) rfl (fun h1 => ?_) (fun h1 => ?_)
  ·
    refine o1 ?_; refine o1 ?_; refine ld ?_; (iterate 4 refine o1 ?_); refine nl ?_; refine rt ?_
    exact en (.inl rfl) rfl (pk1 (pkv _)) (by decide) (fun _ => trivial) (congrArg (fun z => FV.one (tv (.bool z))) (by unfold shortB; rw [decide_eq_true h1]; rfl))
  ·
    (iterate 5 refine no_ ?_); refine o1 ?_; refine o1 ?_; refine nl ?_; refine rt ?_
    exact en (.inl rfl) rfl (pk1 (pkv _)) (by decide) (fun _ => trivial) (congrArg (fun z => FV.one (tv (.bool z))) (by unfold shortB; rw [decide_eq_false h1]; rfl))
set_option maxRecDepth 100000 in
theorem l_few {xs : List At} {top : Int} : Spec true Tryz.prog 7 [] [.one (.t (sAc 38 xs)), .one (tv (.int .i64 top))] (Ret (.one (tv (.bool (fewB xs top))))) := by
  refine fn0 Tryz.func7 rfl Tryz.ntmps7 rfl ttok rfl fun N w c0 h0 => ?_
  refine sq ?_; refine rl ?_; refine o1 ?_; refine nl ?_; refine sq ?_; refine sq ?_; refine rl ?_; refine o1 ?_; refine nl ?_; refine bl ?_
  refine lp (γ := Nat) (fun k => frL [(0, .one (.t (sAc 38 xs))), (1, .one (tv (.int .i64 top))), (5, .one (tv (.int .i64 ((k : Nat) : Int))))]) (fun k => [].map some) (fun k => k ≤ xs.length ∧ ∀ j, j < k → shortB (nthA xs j).2.2 = true) (fun k => xs.length - k) 0 (⟨Nat.zero_le _, fun j hj => absurd hj (Nat.not_lt_zero j)⟩) (su0 h0 [] _ _ (by decide) ⟨rfl, rfl, rfl, trivial⟩ rfl) fun k hk => ?_
  refine sq ?_; refine sq ?_; refine rl ?_; (iterate 5 refine o1 ?_); refine WL.split (t := 10) rfl (fun h1 => ?_) (fun h1 => ?_)
  ·
    (iterate 3 refine o1 ?_); refine nl ?_; refine cdp rfl (fun h2 => ?_) (fun h2 => ?_)
    ·
      refine sk ?_; refine sq ?_; refine bl ?_; refine sq ?_; refine rl ?_; (iterate 4 refine o1 ?_); refine ldf ((nthA xs (k)).2.2.tr false) (act_q (by omega)) ?_
      refine ca (l_short (a := (nthA xs (k)).2.2)) ok23 ⟨a1g rfl, rfl⟩ (.one (tv (.bool (shortB (nthA xs (k)).2.2)))) ?_; refine WL.splitb (t := 21) rfl (fun h3 => ?_) (fun h3 => ?_)
      ·
        refine o1 ?_; refine nl ?_; refine cdf rfl ?_; refine sk ?_; refine rl ?_; refine o1 ?_; refine o1 ?_; refine WL.cast (t := 15) (u' := .int .i64 ((k + 1 : Nat) : Int)) rfl (cint (by omega)) ?_
        refine o1 ?_; refine nl ?_
        exact ⟨k + 1, by omega, ⟨by omega, fun j hj => by rcases Nat.lt_succ_iff_lt_or_eq.1 hj with h9 | h9; exact hk.2 j h9; subst h9; exact h3⟩, su0 h0 [] _ _ (by decide) ⟨rfl, rfl, rfl, trivial⟩ rfl⟩
      ·
        refine o1 ?_; refine nl ?_; refine cdt rfl ?_; refine sq ?_; refine rl ?_; refine o1 ?_; refine nl ?_; refine rt ?_
        exact en (.inl rfl) rfl (pk1 (pkv _)) (by decide) (fun _ => trivial) (congrArg (fun z => FV.one (tv (.bool z))) (few_no (k := k) (by omega) (by omega) h3))
    ·
      refine ex ?_; refine sq ?_; refine rl ?_; (iterate 5 refine o1 ?_); refine nl ?_; refine rt ?_
      exact en (.inl rfl) rfl (pk1 (pkv _)) (by decide) (fun _ => trivial) (congrArg (fun z => FV.one (tv (.bool z))) (few_yes (k := k) hk.2 hk.1 (by omega)))
  ·
    refine no_ ?_; refine no_ ?_; refine o1 ?_; refine nl ?_; refine cdf rfl ?_; refine ex ?_; refine sq ?_; refine rl ?_; (iterate 5 refine o1 ?_); refine nl ?_; refine rt ?_
    exact en (.inl rfl) rfl (pk1 (pkv _)) (by decide) (fun _ => trivial) (congrArg (fun z => FV.one (tv (.bool z))) (few_yes (k := k) hk.2 hk.1 (by omega)))
set_option maxRecDepth 100000 in
theorem l_same {us ws : List (Int × Rat)} (hu : ∀ x ∈ us, Sz 68719476736 x.2) (hw : ∀ x ∈ ws, Sz 68719476736 x.2) (hlu9 : us.length ≤ 1073741823) (hlw9 : ws.length ≤ 1073741823) : Spec true Tryz.prog 29 [] [.one (.t (sV 57 false us)), .one (.t (sV 63 false ws))] (Ret (.one (tv (.bool (decide (us = ws)))))) := by
  refine fn0 Tryz.func29 rfl Tryz.ntmps29 rfl ttok rfl fun N w c0 h0 => ?_
  have hlu : ∀ x ∈ us, (Fr4.of x.2).len 1099511627776 := fun x hx => ⟨Nat.le_trans (hu x hx).1 (by omega), Nat.le_trans (hu x hx).2 (by omega)⟩
  have hlw : ∀ x ∈ ws, (Fr4.of x.2).len 1099511627776 := fun x hx => ⟨Nat.le_trans (hw x hx).1 (by omega), Nat.le_trans (hw x hx).2 (by omega)⟩
  refine sq ?_; refine rl ?_; refine o1 ?_; refine nl ?_; refine sq ?_; refine sq ?_; refine rl ?_; (iterate 5 refine o1 ?_); refine nl ?_; refine cdp rfl (fun h1 => ?_) (fun h1 => ?_)
  ·
    refine sq ?_; refine rl ?_; refine o1 ?_; refine nl ?_; refine rt ?_
    exact en (.inl rfl) rfl (pk1 (pkv _)) (by decide) (fun _ => trivial) (congrArg (fun z => FV.one (tv (.bool z))) ((decide_eq_false (fun h9 : us = ws => h1 (by rw [h9]))).symm))
  ·
    refine sk ?_; refine sq ?_; refine sq ?_; refine rl ?_; refine o1 ?_; refine nl ?_; refine bl ?_
    refine lp (γ := Nat) (fun k => frL [(0, .one (.t (sV 57 false us))), (1, .one (.t (sV 63 false ws))), (5, .one (tv (.int .i64 ((k : Nat) : Int))))]) (fun k => [].map some) (fun k => k ≤ us.length ∧ us.take k = ws.take k) (fun k => us.length - k) 0 (⟨Nat.zero_le _, rfl⟩) (su0 h0 [] _ _ (by decide) ⟨rfl, rfl, rfl, trivial⟩ rfl) fun k hk => ?_
    refine sq ?_; refine sq ?_; refine rl ?_; (iterate 4 refine o1 ?_); refine nl ?_; refine cdp rfl (fun h2 => ?_) (fun h2 => ?_)
    ·
      refine sk ?_; refine sq ?_; refine bl ?_; refine sq ?_; refine rd [] (fun i => [].contains i) mixed ?_
      refine dv 0 ?_; refine dv 1 ?_; refine dv 2 ?_; refine dv 3 ?_; refine dlr 4 ([.v (.int .i64 (nthV us (k)).1)]) (vin_y false (by omega)) ?_
      refine dv 5 ?_; refine dv 6 ?_; refine dv 7 ?_; refine dv 8 ?_; refine dlr 9 ([.v (.int .i64 (nthV ws (k)).1)]) (vin_y false (by omega)) ?_
      refine dv 10 ?_; refine dv 11 ?_; refine WD.split (t := 28) rfl rfl (fun h3 => ?_) (fun h3 => ?_)
      ·
        refine dno 12 ?_; refine dno 13 ?_; refine dno 14 ?_; refine dno 15 ?_; refine dno 16 ?_; refine dno 17 ?_; refine dno 18 ?_; refine dno 19 ?_; refine dno 20 ?_; refine dno 21 ?_
        refine dno 22 ?_; refine dno 23 ?_; refine dv 24 ?_; refine dz0 ?_; refine cdt rfl ?_; refine sq ?_; refine rl ?_; refine o1 ?_; refine nl ?_; refine rt ?_
        exact en (.inl rfl) rfl (pk1 (pkv _)) (by decide) (fun _ => trivial) (congrArg (fun z => FV.one (tv (.bool z))) ((decide_eq_false (fun h9 : us = ws => h3 (by rw [h9]))).symm))
      ·
        refine dv 12 ?_; refine dv 13 ?_; refine dv 14 ?_; refine dv 15 ?_; refine dlr 16 ((Fr4.of (nthV us (k)).2).tr false) (vin_q false (by omega)) ?_
        refine dv 17 ?_; refine dv 18 ?_; refine dv 19 ?_; refine dv 20 ?_; refine dlr 21 ((Fr4.of (nthV ws (k)).2).tr false) (vin_q false (by omega)) ?_
        refine dca 22 rfl (c_IsRat (a := .of (nthV us (k)).2) (b := .of (nthV ws (k)).2) (hlu _ (nthV_mem (by omega))) (hlw _ (nthV_mem (by omega)))) ok36 ⟨a1g rfl, a1g rfl, rfl⟩ (.one (tv (.bool (decide (Fr4.of (nthV us (k)).2 = Fr4.of (nthV ws (k)).2))))) ?_
        refine WD.split (t := 39) rfl rfl (fun h4 => ?_) (fun h4 => ?_)
        ·
          refine df 23 ?_; refine df 24 ?_; refine dz0 ?_; refine cdf rfl ?_; refine sk ?_; refine rl ?_; refine o1 ?_; refine o1 ?_
          refine WL.cast (t := 16) (u' := .int .i64 ((k + 1 : Nat) : Int)) rfl (cint (by omega)) ?_
          refine o1 ?_; refine nl ?_
          exact ⟨k + 1, by omega, ⟨by omega, same_stepV hk.2 (by omega) (by omega) (by have h9 := h3; omega) (of_inj.1 h4)⟩, su0 h0 [] _ _ (by decide) ⟨rfl, rfl, rfl, trivial⟩ rfl⟩
        ·
          refine df 23 ?_; refine df 24 ?_; refine dz0 ?_; refine cdt rfl ?_; refine sq ?_; refine rl ?_; refine o1 ?_; refine nl ?_; refine rt ?_
          exact en (.inl rfl) rfl (pk1 (pkv _)) (by decide) (fun _ => trivial) (congrArg (fun z => FV.one (tv (.bool z))) ((decide_eq_false (fun h9 : us = ws => h4 (by rw [h9]))).symm))
    ·
      refine ex ?_; refine sq ?_; refine rl ?_; refine o1 ?_; refine nl ?_; refine rt ?_
      exact en (.inl rfl) rfl (pk1 (pkv _)) (by decide) (fun _ => trivial) (congrArg (fun z => FV.one (tv (.bool z))) ((decide_eq_true (by rw [← List.take_of_length_le (i := k) (l := us) (by omega), hk.2, List.take_of_length_le (by omega)])).symm))
end Go.Proofs.YtogaallfhifngaaGreat

/- Vintages of any fractions, ledgers of them; what a ledger keeps: plain laws. -/
namespace Go.Proofs.YtogaallfhifngaaGreat
open Go Go.RowKit

/-! what a ledger keeps: its years ascend; the last one is no older -/
def LdOk (vs : List (Int × Rat)) (last : Int) (put : Bool) : Prop := Asc vs ∧ ∀ x ∈ vs, put = true ∧ x.1 ≤ last
section
variable {vs us vs' : List (Int × Rat)} {last y : Int} {put rt : Bool} {p : Rat}
theorem LdOk.nil : LdOk [] last put := ⟨List.Pairwise.nil, fun _ h => (by cases h)⟩
theorem LdOk.sub (h : LdOk vs last put) (hs : (vs'.map Prod.fst).Sublist (vs.map Prod.fst)) : LdOk vs' last put := by
  refine ⟨List.Pairwise.sublist hs h.1, fun x hx => ?_⟩
  obtain ⟨z, hz, e⟩ := List.mem_map.1 (hs.subset (List.mem_map.2 ⟨x, hx, rfl⟩))
  rw [← e]
  exact h.2 z hz
theorem LdOk.use (h : LdOk vs last put) (fr : Int) (p : Rat) (hp : ∀ x ∈ vs, 0 < x.2) : LdOk (refL fr vs p).1 last put := by
  rw [(useL_refL hp).1]
  exact h.sub (useP fr vs p hp h.1).use.subV
theorem LdOk.filter (h : LdOk vs last put) (d : Int × Rat → Bool) : LdOk (vs.filter d) last put := h.sub (List.filter_sublist.map _)
end
/-! vintages of any fractions -/
abbrev Gt := Int × Fr4
def gtr (o : Bool) (x : Gt) : List Tr := .v (.int .i64 x.1) :: x.2.tr o
section
variable {xs : List Gt} {k : Nat}
end
/-- a ledger's rows, its last year, whether something was put -/
abbrev Ls := List (Int × Rat) × Int × Bool
section
variable {xs : List Gt} {k : Nat} {s : Ls} {r : Option Ls}
end
/-! the rows of a ledger are a ledger's -/
theorem Spec.mono {fresh : Bool} {P : Program} {f : FuncId} {lent : List Lt} {args : List FV} {R R' : List Lt → FV → Prop} (h : Spec fresh P f lent args R) (hR : ∀ l r, R l r → R' l r) : Spec fresh P f lent args R' := fun N w cs us hL =>
  (h N w cs us hL).mono fun _ _ ⟨v, l, cs', r, y, h1, h2, h3⟩ => ⟨v, l, cs', r, y, h1, hR _ _ h2, h3⟩
section
variable {x : Cx} {g : Nat → FV} {ob : List (Option Ob)} {Q Q' : Post}
theorem WP.mono {c : Code} (h : WP x c g ob Q) (hq : ∀ e g ob, Q e g ob → Q' e g ob) : WP x c g ob Q' := fun ts W hR => wp_mono (h ts W hR) fun e a w h9 => by
  cases e with
  | panic c => exact h9
  | _ =>
    obtain ⟨g, ob, ts, rfl, h1, h2⟩ := h9
    exact ⟨g, ob, ts, rfl, h1, hq _ _ _ h2⟩
end
end Go.Proofs.YtogaallfhifngaaGreat

/- The law of loss: is, does. Printed by a program. -/
namespace Go.Proofs.YtogaallfhifngaaGreat
open Go Go.RowKit
theorem l_same_eq {us ws : List (Int × Rat)} (h : us = ws) (hu : ∀ x ∈ us, Sz 68719476736 x.2) (hl : us.length ≤ 1073741823) : Spec true Tryz.prog 29 [] [.one (.t (sV 57 false us)), .one (.t (sV 63 false ws))] (Ret (.one (tv (.bool true)))) := by
  have h9 := l_same hu (h ▸ hu) hl (h ▸ hl)
  rwa [decide_eq_true h] at h9
theorem qsum_sz {vs : List (Int × Rat)} {B : Nat} (h : ∀ x ∈ vs, Sz B x.2) : Sz (2 + vs.length * (B + 1)) (qsum (vs.map Prod.snd)) := by
  have key : ∀ k, k ≤ vs.length → Sz (2 + k * (B + 1)) (qsum ((vs.take k).map Prod.snd)) := by
    intro k
    induction k with
    | zero => intro _; exact (int_sz (z := 0) (by omega) (by omega)).mono (by omega)
    | succ k ih =>
      intro hk
      rw [take_v (by omega), List.map_append]
      have h1 : qsum ((vs.take k).map Prod.snd ++ [nthV vs k].map Prod.snd) = qsum ((vs.take k).map Prod.snd) + (nthV vs k).2 := qsum_snoc _ _
      rw [h1]
      exact (add_sz (ih (by omega)) (h _ (nthV_mem (by omega)))).mono (by rw [show (k + 1) * (B + 1) = k * (B + 1) + (B + 1) from Nat.succ_mul k (B + 1)]; omega)
  have := key vs.length (Nat.le_refl _)
  rwa [List.take_of_length_le (Nat.le_refl _)] at this
theorem huz {vs : List (Int × Rat)} {n B M : Nat} {fr : Int} {p : Rat} (hok : StOk vs n B) (hB : B + wt p + 2 * n ≤ M) : ∀ x ∈ (useL fr vs p).2.1, Sz M x.2 := by
  have key : ∀ (xs : List (Int × Rat)) (s : List (Int × Rat) × List (Int × Rat) × Rat) (L : Nat), (∀ x ∈ s.2.1, Sz L x.2) → wt s.2.2 + wts (xs.map Prod.snd) + 2 * xs.length ≤ L → ∀ x ∈ (xs.foldl (useS fr) s).2.1, Sz L x.2 := by
    intro xs
    induction xs with
    | nil => intro s L h _; exact h
    | cons x xs ih =>
      intro s L h hL
      have e : wts ((x :: xs).map Prod.snd) = wt x.2 + wts (xs.map Prod.snd) := by simp [wts]
      rw [e, List.length_cons] at hL
      rw [List.foldl_cons]
      by_cases hc : fr ≤ x.1 ∧ 0 < s.2.2.num.sign
      · have h1 := useS_yes (s := s) (y := x.1) (q := x.2) hc.1 hc.2
        have h2 := wt_min2 x.2 s.2.2
        have h3 := wt_min1 x.2 s.2.2
        rw [show useS fr s x = useS fr s (x.1, x.2) from rfl, h1]
        refine ih _ _ (fun z hz => ?_) (by dsimp only; omega)
        rcases List.mem_append.1 hz with hz | hz
        · exact h z hz
        · rw [List.mem_singleton] at hz
          subst hz
          exact sz_iff.2 (by have h9 : wt (qmin x.2 [s.2.2]) = szq (qmin x.2 [s.2.2]) + 1 := rfl; dsimp only; omega)
      · rw [useS_no hc]
        exact ih _ _ h (by dsimp only; omega)
  have h1 := hok.size
  have h2 := hok.len
  exact key vs ([], [], p) _ (fun x hx => by cases hx) (by dsimp only; omega)
theorem hul {vs : List (Int × Rat)} {n B : Nat} {fr : Int} {p : Rat} (hok : StOk vs n B) (hn : n ≤ 1000) : (useL fr vs p).2.1.length ≤ 1073741823 := by
  have key : ∀ (xs : List (Int × Rat)) (s : List (Int × Rat) × List (Int × Rat) × Rat), (xs.foldl (useS fr) s).2.1.length ≤ s.2.1.length + xs.length := by
    intro xs
    induction xs with
    | nil => intro s; simp
    | cons x xs ih =>
      intro s
      rw [List.foldl_cons]
      refine Nat.le_trans (ih _) ?_
      by_cases hc : fr ≤ x.1 ∧ 0 < s.2.2.num.sign
      · rw [show useS fr s x = useS fr s (x.1, x.2) from rfl, useS_yes (s := s) (y := x.1) (q := x.2) hc.1 hc.2]
        dsimp only
        simp only [List.length_append, List.length_cons, List.length_nil]
        omega
      · rw [useS_no hc]
        dsimp only
        simp only [List.length_cons]
        omega
  have := key vs ([], [], p)
  have := hok.len
  unfold useL
  simp at *
  omega
end Go.Proofs.YtogaallfhifngaaGreat

/- The law of loss: works. Printed by a program. -/
namespace Go.Proofs.YtogaallfhifngaaGreat
open Go Go.RowKit
theorem p_PutC {vs vs' : List (Int × Rat)} {last last' y e : Int} {put put' : Bool} {q : Rat} (hs : Sz 68719476736 q) (hl : vs.length ≤ 1073741822) (he : putE true q y last put = e) (hv : putL e q y vs = vs') (hy : putY e y last = last') (hp : putP e put = put') : Spec false Tryz.prog 22 [⟨76, 0, [.t (sR 57 vs), tv (.int .i64 last), tv (.bool put)]⟩] [.one (.pt 0 0), .one (tv (.int .i64 y)), qF (.of q)] (Rt [⟨76, 0, [.t (sR 57 vs'), tv (.int .i64 last'), tv (.bool put')]⟩] (.one (tv (.int .i64 e)))) := by
  have h := p_Put (vs := vs) (last := last) (y := y) (put := put) (Qn.of hs) hl
  have e1 : rightQ (Fr4.of q).s (Fr4.of q).x (Fr4.of q).t (Fr4.of q).y = true := rightQ_dg q
  rwa [e1, he, hv, hy, hp] at h
theorem p_SameE {p q : Rat} (hp : Sz 68719476736 p) (hq : Sz 68719476736 q) (h : p = q) : Spec true Tryz.prog 30 [] [qF (.of p), qF (.of q)] (Ret (.one (tv (.bool true)))) := by
  have h9 := p_Same (Qn.of hp) (Qn.of hq)
  rwa [decide_eq_true h] at h9
theorem p_Sign0 {p : Rat} (hp : Sz 68719476736 p) (h : p.num.sign = 0) : Spec true Tryz.prog 27 [] [qF (.of p)] (Ret (.one (tv (.int .i64 0)))) := by
  have h9 := p_Sign (Qn.of hp)
  rwa [h] at h9
set_option maxRecDepth 100000 in
theorem l_works : Spec true Tryz.prog 8 [] [] (Ret (.one (tv (.bool true)))) := by
  refine fn0 Tryz.func8 rfl Tryz.ntmps8 rfl ttok rfl fun N w c0 h0 => ?_
  refine sq ?_; refine rl ?_; refine o1 ?_; refine nl ?_; refine sq ?_; refine rl ?_; refine cak 0 p_New ok9 rfl ?_; refine o1 ?_; refine nl ?_; refine sq ?_; refine rl ?_; refine o1 ?_
  refine ca (f_By (n := 10) (d := 1) (by omega) (by omega) (by omega) (by omega)) ok26 ⟨a1 rfl, a1 rfl, rfl⟩ (qF (.of (Rat.divInt 10 1))) ?_
  refine cl 1 [0] (p_PutC (vs := ([] : List (Int × Rat))) (vs' := [((2020 : Int), (Rat.divInt 10 1))]) (last := 0) (last' := 2020) (y := 2020) (put := false) (put' := true) (q := (Rat.divInt 10 1)) ((by_sz (n := 10) (d := 1) (by omega) (by omega) (by omega) (by omega)).mono (M := 68719476736) (by omega)) (by simp) (e := 0) (by kernel_rfl) (by kernel_rfl) (by kernel_rfl) (by kernel_rfl)) ok22 ⟨oe rfl rfl, rfl⟩ ⟨rfl, rfl, rfl, rfl⟩ (ok := [some ⟨76, 0, [.t (sR 57 [((2020 : Int), (Rat.divInt 10 1))]), tv (.int .i64 2020), tv (.bool true)]⟩]) ⟨oe rfl rfl, rfl⟩ ?_
  refine o1 ?_; refine ca (f_By (n := 5) (d := 1) (by omega) (by omega) (by omega) (by omega)) ok26 ⟨a1 rfl, a1 rfl, rfl⟩ (qF (.of (Rat.divInt 5 1))) ?_
  refine cl 1 [0] (p_PutC (vs := [((2020 : Int), (Rat.divInt 10 1))]) (vs' := [((2020 : Int), (Rat.divInt 10 1)), (2021, (Rat.divInt 5 1))]) (last := 2020) (last' := 2021) (y := 2021) (put := true) (put' := true) (q := (Rat.divInt 5 1)) ((by_sz (n := 5) (d := 1) (by omega) (by omega) (by omega) (by omega)).mono (M := 68719476736) (by omega)) (by simp) (e := 0) (by kernel_rfl) (by kernel_rfl) (by kernel_rfl) (by kernel_rfl)) ok22 ⟨oe rfl rfl, rfl⟩ ⟨rfl, rfl, rfl, rfl⟩ (ok := [some ⟨76, 0, [.t (sR 57 [((2020 : Int), (Rat.divInt 10 1)), (2021, (Rat.divInt 5 1))]), tv (.int .i64 2021), tv (.bool true)]⟩]) ⟨oe rfl rfl, rfl⟩ ?_
  refine o1 ?_; refine o1 ?_; refine nl ?_; refine sq ?_; refine rl ?_; refine o1 ?_
  refine ca (f_By (n := 12) (d := 1) (by omega) (by omega) (by omega) (by omega)) ok26 ⟨a1 rfl, a1 rfl, rfl⟩ (qF (.of (Rat.divInt 12 1))) ?_
  have hok2 : StOk [((2020 : Int), (Rat.divInt 10 1)), (2021, (Rat.divInt 5 1))] 2 8 := ⟨by simp only [List.forall_mem_cons]; exact ⟨by decide +kernel, by decide +kernel, fun _ h => by cases h⟩, Nat.le_refl _, by decide +kernel⟩
  have hu9 := p_Use (vs := [((2020 : Int), (Rat.divInt 10 1)), (2021, (Rat.divInt 5 1))]) (last := 2021) (put := true) (fr := 2020) (Qn.of ((by_sz (n := 12) (d := 1) (by omega) (by omega) (by omega) (by omega)).mono (M := 68719476736) (by omega))) (by simp) (by decide +kernel) (hok2.zU (by decide +kernel))
  rw [show keepV zeroQ (useL 2020 [((2020 : Int), (Rat.divInt 10 1)), (2021, (Rat.divInt 5 1))] (Rat.divInt 12 1)).1 = [((2021 : Int), (Rat.divInt 3 1))] by kernel_rfl] at hu9
  refine cl 1 [0] hu9 ok15 ⟨oe rfl rfl, rfl⟩ ⟨rfl, rfl, rfl, rfl⟩ (ok := [some ⟨76, 0, [.t (sR 57 [((2021 : Int), (Rat.divInt 3 1))]), tv (.int .i64 2021), tv (.bool true)]⟩]) ⟨oe rfl rfl, rfl⟩ ?_
  refine o1 ?_; refine nl ?_; refine sq ?_; refine rl ?_; refine o1 ?_
  refine ca (p_Balance (vs := [((2021 : Int), (Rat.divInt 3 1))]) (rest := [.v (.int .i64 2021), .v (.bool true)]) (B := 2) (by simp) (by simp only [List.forall_mem_cons]; exact ⟨by_sz (n := 3) (d := 1) (by omega) (by omega) (by omega) (by omega), fun _ h => by cases h⟩) (by simp)) ok28 ⟨a1o rfl (.pe (trs := [sR 57 [((2021 : Int), (Rat.divInt 3 1))], .v (.int .i64 2021), .v (.bool true)]) rfl rfl rfl (by simp only [rdTL, rdT, sR, sV, rd_vo])), rfl⟩ (qF (.of (qsum ([((2021 : Int), (Rat.divInt 3 1))].map Prod.snd)))) ?_
  refine al 2 ?_; refine st ?_; refine nl ?_; refine sq ?_; refine rl ?_; refine o1 ?_
  refine ca (f_By (n := 1) (d := 1) (by omega) (by omega) (by omega) (by omega)) ok26 ⟨a1 rfl, a1 rfl, rfl⟩ (qF (.of (Rat.divInt 1 1))) ?_
  refine cl 3 [0] (p_PutC (vs := [((2021 : Int), (Rat.divInt 3 1))]) (vs' := [((2021 : Int), (Rat.divInt 3 1))]) (last := 2021) (last' := 2021) (y := 2021) (put := true) (put' := true) (q := (Rat.divInt 1 1)) ((by_sz (n := 1) (d := 1) (by omega) (by omega) (by omega) (by omega)).mono (M := 68719476736) (by omega)) (by simp) (e := 4) (by kernel_rfl) (by kernel_rfl) (by kernel_rfl) (by kernel_rfl)) ok22 ⟨oe rfl rfl, rfl⟩ ⟨rfl, rfl, rfl, rfl⟩ (ok := [some ⟨76, 0, [.t (sR 57 [((2021 : Int), (Rat.divInt 3 1))]), tv (.int .i64 2021), tv (.bool true)]⟩]) ⟨oe rfl rfl, rfl⟩ ?_
  refine o1 ?_; refine nl ?_; refine sq ?_; refine rl ?_; refine o1 ?_
  have he9 := p_Expire (vs := [((2021 : Int), (Rat.divInt 3 1))]) (last := 2021) (put := true) (b := 2022) (by simp) (by simp only [List.forall_mem_cons]; exact ⟨((by_sz (n := 3) (d := 1) (by omega) (by omega) (by omega) (by omega)).mono (M := 68719476736) (by omega)), fun _ h => by cases h⟩)
  rw [show keepV (fun x : Int × Rat => decide (x.1 < 2022)) [((2021 : Int), (Rat.divInt 3 1))] = ([] : List (Int × Rat)) by kernel_rfl] at he9
  refine cl 3 [0] he9 ok21 ⟨oe rfl rfl, rfl⟩ ⟨rfl, rfl, rfl⟩ (ok := [some ⟨76, 0, [.t (sR 57 ([] : List (Int × Rat))), tv (.int .i64 2021), tv (.bool true)]⟩]) ⟨oe rfl rfl, rfl⟩ ?_; refine o1 ?_
  refine nl ?_; refine sq ?_; refine rd [0, 2] (fun i => [37].contains i) mixed ?_
  refine dv 0 ?_; refine dv 1 ?_; refine dv 2 ?_; refine WD.split (t := 27) rfl rfl (fun h1 => ?_) (fun h1 => ?_)
  ·
    refine dv 3 ?_; refine dv 4 ?_; refine dv 5 ?_; refine dv 6 ?_; refine WD.split (t := 31) rfl rfl (fun h2 => ?_) (fun h2 => ?_)
    ·
      refine dv 7 ?_; refine dca 8 rfl (c_Whole4 (n := 10) (by omega) (by omega)) ok12 ⟨a1 rfl, rfl⟩ (qF (.of ((10 : Int) : Rat))) ?_
      refine df 9 ?_; refine dca 10 rfl (c_Whole4 (n := 2) (by omega) (by omega)) ok12 ⟨a1 rfl, rfl⟩ (qF (.of ((2 : Int) : Rat))) ?_
      refine df 11 ?_; refine d_bs (key := 4) 12 (by kernel_rfl) rfl rfl ttok rfl ⟨rfl, rfl, trivial⟩ ?_
      refine dca 13 rfl (l_same_eq (us := (useL 2020 [((2020 : Int), (Rat.divInt 10 1)), (2021, (Rat.divInt 5 1))] (Rat.divInt 12 1)).2.1) (ws := [((2020 : Int), ((10 : Int) : Rat)), (2021, ((2 : Int) : Rat))]) (by kernel_rfl) (huz hok2 (by decide +kernel)) (hul hok2 (by omega))) ok29 ⟨a1o rfl (.sr (trs := (useL 2020 [((2020 : Int), (Rat.divInt 10 1)), (2021, (Rat.divInt 5 1))] (Rat.divInt 12 1)).2.1.flatMap (vtr true)) rfl rfl (take_self _ _ rfl) (vflat_len true _) (rd_vo true _)), a1o rfl (.sl (trs := ([((2020 : Int), ((10 : Int) : Rat)), (2021, ((2 : Int) : Rat))] : List (Int × Rat)).flatMap (vtr false)) rfl rfl rfl rfl), rfl⟩ (.one (tv (.bool true))) ?_
      refine df 14 ?_; refine df 15 ?_; refine dld 16 ?_
      refine dca 17 rfl (f_By (n := 3) (d := 1) (by omega) (by omega) (by omega) (by omega)) ok26 ⟨a1 rfl, a1 rfl, rfl⟩ (qF (.of (Rat.divInt 3 1))) ?_
      refine dca 18 rfl (p_SameE (p := (qsum ([((2021 : Int), (Rat.divInt 3 1))].map Prod.snd))) (q := (Rat.divInt 3 1)) (by rw [show (qsum ([((2021 : Int), (Rat.divInt 3 1))].map Prod.snd)) = (Rat.divInt 3 1) by kernel_rfl]; exact ((by_sz (n := 3) (d := 1) (by omega) (by omega) (by omega) (by omega)).mono (M := 68719476736) (by omega))) ((by_sz (n := 3) (d := 1) (by omega) (by omega) (by omega) (by omega)).mono (M := 68719476736) (by omega)) (by kernel_rfl)) ok30 ⟨a1g rfl, a1g rfl, rfl⟩ (.one (tv (.bool true))) ?_
      refine df 19 ?_; refine df 20 ?_; refine dv 21 ?_; refine dv 22 ?_; refine df 23 ?_; refine df 24 ?_; refine WD.split (t := 49) rfl rfl (fun h3 => ?_) (fun h3 => ?_)
      ·
        refine dv 25 ?_; refine dca 26 rfl (c_Whole4 (n := 3) (by omega) (by omega)) ok12 ⟨a1 rfl, rfl⟩ (qF (.of ((3 : Int) : Rat))) ?_
        refine df 27 ?_; refine d_bs (key := 5) 28 (by kernel_rfl) rfl rfl ttok rfl ⟨rfl, rfl, trivial⟩ ?_
        refine dca 29 rfl (l_same_eq (us := (keepV (fun x : Int × Rat => !decide (x.1 < 2022)) [((2021 : Int), (Rat.divInt 3 1))])) (ws := [((2021 : Int), ((3 : Int) : Rat))]) (by kernel_rfl) (by simp only [keepV]; exact fun x hx => (show ∀ x ∈ [((2021 : Int), (Rat.divInt 3 1))], Sz 68719476736 x.2 by simp only [List.forall_mem_cons]; exact ⟨((by_sz (n := 3) (d := 1) (by omega) (by omega) (by omega) (by omega)).mono (M := 68719476736) (by omega)), fun _ h => by cases h⟩) x (List.mem_filter.1 hx).1) (Nat.le_trans (List.length_filter_le _ _) (by simp))) ok29 ⟨a1o rfl (.sr (trs := (keepV (fun x : Int × Rat => !decide (x.1 < 2022)) [((2021 : Int), (Rat.divInt 3 1))]).flatMap (vtr true)) rfl rfl (take_self _ _ rfl) (vflat_len true _) (rd_vo true _)), a1o rfl (.sl (trs := ([((2021 : Int), ((3 : Int) : Rat))] : List (Int × Rat)).flatMap (vtr false)) rfl rfl rfl rfl), rfl⟩ (.one (tv (.bool true))) ?_
        refine df 30 ?_; refine df 31 ?_; refine dv 32 ?_
        refine dca 33 rfl (p_Balance (vs := ([] : List (Int × Rat))) (rest := [.v (.int .i64 2021), .v (.bool true)]) (B := 2) (by simp) (fun _ h => by cases h) (by simp)) ok28 ⟨a1o rfl (.pe (trs := [sR 57 ([] : List (Int × Rat)), .v (.int .i64 2021), .v (.bool true)]) rfl rfl rfl (by simp only [rdTL, rdT, sR, sV, rd_vo])), rfl⟩ (qF (.of (qsum (([] : List (Int × Rat)).map Prod.snd)))) ?_
        refine dca 34 rfl (p_Sign0 (p := (qsum (([] : List (Int × Rat)).map Prod.snd))) (by rw [show (qsum (([] : List (Int × Rat)).map Prod.snd)) = Rat.divInt 0 1 by kernel_rfl]; exact ((by_sz (n := 0) (d := 1) (by omega) (by omega) (by omega) (by omega)).mono (M := 68719476736) (by omega))) (by kernel_rfl)) ok27 ⟨a1g rfl, rfl⟩ (.one (tv (.int .i64 0))) ?_
        refine df 35 ?_; refine df 36 ?_; refine d_v 37 (by kernel_rfl) rfl rfl ttok rfl (by trivial) ?_ (fun h => by first | rfl | cases h)
        refine dz0 ?_; refine rt ?_; exact en (.inl rfl) rfl (pk1 (pkv _)) (by decide) (fun _ => trivial) rfl
      ·
        exact absurd rfl h3
    ·
      exact absurd rfl h2
  ·
    exact absurd rfl h1
end Go.Proofs.YtogaallfhifngaaGreat

/- The law of loss: LossPlays. Printed by a program. -/
namespace Go.Proofs.YtogaallfhifngaaGreat
open Go Go.RowKit
end Go.Proofs.YtogaallfhifngaaGreat

/- The law of loss: parts. Printed by a program. -/
namespace Go.Proofs.YtogaallfhifngaaGreat
open Go Go.RowKit
set_option maxRecDepth 100000 in
theorem l_parts {ys tl : List Int} {n my : Nat} {us Z0 Z' : List (Int × Rat)} {rest : List Tr} {fr : Int} (hP0 : Pts 17179869184 Z0 us Z') (hz0 : ∀ z ∈ Z0, Sz 17179869184 z.2) (hu : ∀ u ∈ us, Sz 17179869184 u.2) (hy0 : Z0.map Prod.fst = ys) (hmy : ys.length = my) (hn : ys.length ≤ n) (hn2 : n ≤ 1073741823) (hul2 : us.length ≤ 1073741823) (hfr : ∀ u ∈ us, fr ≤ u.1) (hasc : Asc us) : Spec false Tryz.prog 18 [⟨45, 4, zcl Z0 rest⟩, ⟨3, 1, icl (ys ++ tl)⟩] [.one (.sl 1 0 my), .one (.sl 0 0 n), .one (.t (sV 57 false us)), .one (tv (.int .i64 fr))] (Rt [⟨45, 4, zcl Z' rest⟩, ⟨3, 1, icl (ys ++ tl)⟩] (.one (tv (.bool true)))) := by
  subst hmy; refine fnL Tryz.func18 rfl Tryz.ntmps18 rfl ttok rfl fun N M w c0 h0 => ?_
  have hul : ∀ x ∈ us, (Fr4.of x.2).len 1099511627776 := fun x hx => ⟨Nat.le_trans (hu x hx).1 (by omega), Nat.le_trans (hu x hx).2 (by omega)⟩
  refine sq ?_; refine rl ?_; refine o1 ?_; refine nl ?_; refine sq ?_; refine sq ?_; refine rl ?_; refine o1 ?_; refine nl ?_; refine bl ?_
  refine lp (γ := Nat × List (Int × Rat)) (fun s => frL [(0, .one (.sl 1 0 ys.length)), (1, .one (.sl 0 0 n)), (2, .one (.t (sV 57 false us))), (3, .one (tv (.int .i64 fr))), (9, .one (tv (.int .i64 ((s.1 : Nat) : Int))))]) (fun s => [(⟨45, 4, zcl s.2 rest⟩ : Ob), ⟨3, 1, icl (ys ++ tl)⟩].map some) (fun s => s.1 ≤ us.length ∧ Pts 17179869184 s.2 (us.drop s.1) Z' ∧ s.2.length = ys.length ∧ (∀ z ∈ s.2, Sz 17179869184 z.2) ∧ s.2.map Prod.fst = ys) (fun s => us.length - s.1) (0, Z0) ⟨Nat.zero_le _, hP0, by rw [← hy0, List.length_map], hz0, hy0⟩ (suL h0 [0, 1] _ _ (by decide) rfl ⟨rfl, rfl, rfl, rfl, rfl, trivial⟩ ⟨oet rfl, oet rfl, rfl⟩) ?_
  rintro ⟨i, Z⟩ ⟨hi, hP, hl, hz, hy⟩; dsimp only at hi hP hl hz hy ⊢; refine sq ?_; refine sq ?_; refine rl ?_; (iterate 4 refine o1 ?_); refine nl ?_; refine cdp rfl (fun h1 => ?_) (fun h1 => ?_)
  ·
    refine sk ?_; refine sq ?_; refine bl ?_; refine sq ?_; obtain ⟨k0, hk0, hn0, hr0, hf0, hu0, hle0, hs0, hP1⟩ := Pts.inv (by rw [drop_v (by omega)] at hP; exact hP)
    have hnI : nthI ys k0 = (nthV Z k0).1 := by rw [← hy]; exact nthI_fst hk0
    refine rl ?_; refine o1 ?_; refine nl ?_
    refine md (γ := Unit) (fun _ => frL [(0, .one (.sl 1 0 ys.length)), (1, .one (.sl 0 0 n)), (2, .one (.t (sV 57 false us))), (3, .one (tv (.int .i64 fr))), (9, .one (tv (.int .i64 ((i : Nat) : Int)))), (10, .one (tv (.bool true)))]) (fun _ => [(⟨45, 4, zcl (Z.set k0 ((nthV us (i)).1, (nthV Z (k0)).2 - (nthV us (i)).2)) rest⟩ : Ob), ⟨3, 1, icl (ys ++ tl)⟩].map some) (fun _ => True) ?_ fun _ _ => ?_
    ·
      refine sq ?_; refine rl ?_; refine o1 ?_; refine nl ?_; refine bl ?_
      refine lp (γ := Nat × Bool × List (Int × Rat)) (fun s => frL [(0, .one (.sl 1 0 ys.length)), (1, .one (.sl 0 0 n)), (2, .one (.t (sV 57 false us))), (3, .one (tv (.int .i64 fr))), (9, .one (tv (.int .i64 ((i : Nat) : Int)))), (10, .one (tv (.bool s.2.1))), (11, .one (tv (.int .i64 ((s.1 : Nat) : Int))))]) (fun s => [(⟨45, 4, zcl s.2.2 rest⟩ : Ob), ⟨3, 1, icl (ys ++ tl)⟩].map some) (fun s => (false = s.2.1 ∧ s.1 ≤ k0 ∧ Z = s.2.2) ∨ (true = s.2.1 ∧ k0 + 1 = s.1 ∧ Z.set k0 ((nthV us (i)).1, (nthV Z (k0)).2 - (nthV us (i)).2) = s.2.2)) (fun s => ys.length - s.1) (0, false, Z) (.inl ⟨rfl, Nat.zero_le _, rfl⟩) (suL h0 [0, 1] _ _ (by decide) rfl ⟨rfl, rfl, rfl, rfl, rfl, rfl, rfl, trivial⟩ ⟨oet rfl, oet rfl, rfl⟩) ?_
      rintro ⟨k, b, Zc⟩ h9; dsimp only at h9 ⊢; rcases h9 with ⟨rfl, hk, rfl⟩ | ⟨rfl, rfl, rfl⟩
      ·
        refine sq ?_; refine sq ?_; refine rl ?_; (iterate 5 refine o1 ?_); refine WL.split (t := 23) rfl (fun h2 => ?_) (fun h2 => ?_)
        ·
          (iterate 3 refine o1 ?_); refine nl ?_; refine cdt rfl ?_; refine sk ?_; refine sq ?_; refine bl ?_; refine sq ?_; refine rd [0, 1] (fun i => [].contains i) mixed ?_
          refine dv 0 ?_; refine dv 1 ?_; refine dv 2 ?_; refine dldo 3 (icl_at (ys := ys) (tl := tl) (k := k) (by omega)) ?_
          refine dv 4 ?_; refine dv 5 ?_; refine dv 6 ?_; refine dv 7 ?_; refine dlr 8 ([.v (.int .i64 (nthV us (i)).1)]) (vin_y false (by omega)) ?_
          refine dv 9 ?_; refine dv 10 ?_; refine WD.split (t := 39) rfl rfl (fun h3 => ?_) (fun h3 => ?_)
          ·
            refine dv 11 ?_; refine dv 12 ?_; refine dv 13 ?_; refine dlda 14 (zcl_at (Z := Z) (rest := rest) (k := k) (q := (nthV Z (k)).2) (by omega) rfl) ?_
            refine dca 15 rfl (c_Sign4 (Qn.of (p := (nthV Z (k)).2) (hz _ (nthV_mem (by omega))))) ok48 ⟨a1g rfl, rfl⟩ (.one (tv (.int .i64 (nthV Z (k)).2.num.sign))) ?_
            refine df 16 ?_; refine df 17 ?_; refine dz0 ?_; refine cdp rfl (fun h4 => ?_) (fun h4 => ?_)
            ·
              refine sq ?_; have hk9 : k0 = k := by
                refine (Nat.lt_or_eq_of_le hk).elim (fun h9 => absurd ⟨?_, (sgn_pos _).1 h4⟩ (hf0 k h9)) Eq.symm
                rw [← nthI_fst (by omega), hy]
                exact h3
              subst hk9; refine rl ?_; refine o1 ?_; refine nl ?_; refine sq ?_; refine rl ?_; (iterate 4 refine o1 ?_); refine ldf ((Fr4.of (nthV us (i)).2).tr false) (vin_q false (by omega)) ?_
              refine ca (c_RefRat (a := .of (nthV us (i)).2) (hul _ (nthV_mem (by omega)))) ok14 ⟨a1g rfl, rfl⟩ (qF (.of (nthV us (i)).2)) ?_
              refine al 2 ?_; refine st ?_; refine nl ?_; refine sq ?_; refine rd [0, 2] (fun i => [9].contains i) mixed ?_
              refine dv 0 ?_; refine dv 1 ?_; refine dv 2 ?_; refine dv 3 ?_; refine dv 4 ?_; refine dlda 5 (zcl_at (Z := Z) (rest := rest) (k := k0) (q := (nthV Z (k0)).2) (by omega) rfl) ?_
              refine dld 6 ?_
              refine dca 7 rfl (c_Sub4 (Qn.of (p := (nthV Z (k0)).2) (hz _ (nthV_mem (by omega)))) (Qn.of (p := (nthV us (i)).2) (hu _ (nthV_mem (by omega)))) (hz _ (nthV_mem (by omega))) (hu _ (nthV_mem (by omega)))) ok49 ⟨a1g rfl, a1g rfl, rfl⟩ (qF (.of ((nthV Z (k0)).2 - (nthV us (i)).2))) ?_
              refine dv 8 ?_
              refine dsto 9 (zcl_put (Z := Z) (rest := rest) (k := k0) (by omega) (nthV us (i)).1 ((nthV Z (k0)).2 - (nthV us (i)).2)) (zcl_le (Z := Z) (rest := rest) (k := k0) (q := ((nthV Z (k0)).2 - (nthV us (i)).2)) (by omega)) ?_
              refine dz0 ?_; refine sq ?_; refine rl ?_; refine ld ?_
              refine ca (c_Sign4 (Qn.of (p := (nthV us (i)).2) (hu _ (nthV_mem (by omega))))) ok48 ⟨a1g rfl, rfl⟩ (.one (tv (.int .i64 (nthV us (i)).2.num.sign))) ?_
              refine o1 ?_; refine o1 ?_; refine WL.split (t := 65) rfl (fun h5 => ?_) (fun h5 => ?_)
              ·
                exact absurd ((sgn_pos _).2 hu0) (by omega)
              ·
                (iterate 3 refine o1 ?_)
                refine lda (zcl_at (Z := (Z.set (k0) ((nthV us (i)).1, ((nthV Z (k0)).2 - (nthV us (i)).2)))) (rest := rest) (k := k0) (q := ((nthV Z (k0)).2 - (nthV us (i)).2)) (by rw [List.length_set]; omega) (by rw [nthV_set (by omega)])) ?_
                refine ca (c_Sign4 (Qn.of (p := ((nthV Z (k0)).2 - (nthV us (i)).2)) hs0)) ok48 ⟨a1g rfl, rfl⟩ (.one (tv (.int .i64 ((nthV Z (k0)).2 - (nthV us (i)).2).num.sign))) ?_; refine o1 ?_
                refine o1 ?_; refine nl ?_; refine cdp rfl (fun h6 => ?_) (fun h6 => ?_)
                ·
                  exact absurd ((lt_sgn _ _).1 h6) (Rat.not_lt.2 hle0)
                ·
                  refine sk ?_; refine rl ?_; refine o1 ?_; refine o1 ?_; refine WL.cast (t := 28) (u' := .int .i64 ((k0 + 1 : Nat) : Int)) rfl (cint (by omega)) ?_
                  refine o1 ?_; refine nl ?_
                  exact ⟨(k0 + 1, true, Z.set k0 ((nthV us (i)).1, (nthV Z (k0)).2 - (nthV us (i)).2)), by dsimp only; omega, .inr ⟨rfl, rfl, rfl⟩, suL h0 [0, 1] _ _ (by decide) rfl ⟨rfl, rfl, rfl, rfl, rfl, rfl, rfl, trivial⟩ ⟨oet rfl, oet rfl, rfl⟩⟩
            ·
              refine sk ?_; refine rl ?_; refine o1 ?_; refine o1 ?_; refine WL.cast (t := 28) (u' := .int .i64 ((k + 1 : Nat) : Int)) rfl (cint (by omega)) ?_
              refine o1 ?_; refine nl ?_
              exact ⟨(k + 1, false, Z), by dsimp only; omega, .inl ⟨rfl, Nat.lt_of_le_of_ne hk (fun e => by subst e; exact h4 ((sgn_pos _).2 hr0)), rfl⟩, suL h0 [0, 1] _ _ (by decide) rfl ⟨rfl, rfl, rfl, rfl, rfl, rfl, rfl, trivial⟩ ⟨oet rfl, oet rfl, rfl⟩⟩
          ·
            refine dno 11 ?_; refine dno 12 ?_; refine dno 13 ?_; refine dno 14 ?_; refine dno 15 ?_; refine dno 16 ?_; refine dv 17 ?_; refine dz0 ?_; refine cdf rfl ?_; refine sk ?_; refine rl ?_
            refine o1 ?_; refine o1 ?_; refine WL.cast (t := 28) (u' := .int .i64 ((k + 1 : Nat) : Int)) rfl (cint (by omega)) ?_
            refine o1 ?_; refine nl ?_
            exact ⟨(k + 1, false, Z), by dsimp only; omega, .inl ⟨rfl, Nat.lt_of_le_of_ne hk (fun e => by subst e; exact h3 (hnI.trans hn0)), rfl⟩, suL h0 [0, 1] _ _ (by decide) rfl ⟨rfl, rfl, rfl, rfl, rfl, rfl, rfl, trivial⟩ ⟨oet rfl, oet rfl, rfl⟩⟩
        ·
          refine no_ ?_; refine no_ ?_; refine o1 ?_; refine nl ?_; refine cdf rfl ?_; refine ex ?_; omega
      ·
        refine sq ?_; refine sq ?_; refine rl ?_; (iterate 5 refine o1 ?_); refine WL.split (t := 23) rfl (fun h7 => ?_) (fun h7 => ?_)
        ·
          (iterate 3 refine o1 ?_); refine nl ?_; refine cdf rfl ?_; refine ex ?_; exact ⟨(), trivial, suL h0 [0, 1] _ _ (by decide) rfl ⟨rfl, rfl, rfl, rfl, rfl, rfl, trivial⟩ ⟨oet rfl, oet rfl, rfl⟩⟩
        ·
          refine no_ ?_; refine no_ ?_; refine o1 ?_; refine nl ?_; refine cdf rfl ?_; refine ex ?_
          exact ⟨(), trivial, suL h0 [0, 1] _ _ (by decide) rfl ⟨rfl, rfl, rfl, rfl, rfl, rfl, trivial⟩ ⟨oet rfl, oet rfl, rfl⟩⟩
    refine sq ?_; refine rd [] (fun i => [].contains i) mixed ?_
    refine dv 0 ?_; refine dv 1 ?_; refine dv 2 ?_; refine dv 3 ?_; refine dv 4 ?_; refine dv 5 ?_; refine dv 6 ?_; refine dlr 7 ([.v (.int .i64 (nthV us (i)).1)]) (vin_y false (by omega)) ?_
    refine dv 8 ?_; refine dv 9 ?_; refine dv 10 ?_; refine dv 11 ?_; refine WD.split (t := 84) rfl rfl (fun h8 => ?_) (fun h8 => ?_)
    ·
      have h9 := hfr _ (nthV_mem (vs := us) (k := i) (by omega))
      omega
    ·
      refine dv 12 ?_; refine dv 13 ?_; refine dv 14 ?_; refine WD.split (t := 87) rfl rfl (fun h9 => ?_) (fun h9 => ?_)
      ·
        refine dv 15 ?_; refine dv 16 ?_; refine dv 17 ?_; refine WD.cast (t := 90) (u' := .int .i64 ((i - 1 : Nat) : Int)) rfl (cint (by omega)) ?_
        refine dv 18 ?_; refine dv 19 ?_; refine dlr 20 ([.v (.int .i64 (nthV us (i - 1)).1)]) (vin_y false (by omega)) ?_
        refine dv 21 ?_; refine dv 22 ?_; refine dv 23 ?_; refine dv 24 ?_; refine dlr 25 ([.v (.int .i64 (nthV us (i)).1)]) (vin_y false (by omega)) ?_
        refine dv 26 ?_; refine dv 27 ?_; refine dv 28 ?_; refine dz0 ?_; refine cdp rfl (fun h10 => ?_) (fun h10 => ?_)
        ·
          have h9 := asc_nth hasc (k := i - 1) (by omega)
          rw [show i - 1 + 1 = i by omega] at h9
          omega
        ·
          refine sk ?_; refine rl ?_; refine o1 ?_; refine o1 ?_; refine WL.cast (t := 18) (u' := .int .i64 ((i + 1 : Nat) : Int)) rfl (cint (by omega)) ?_
          refine o1 ?_; refine nl ?_
          exact ⟨(i + 1, Z.set k0 ((nthV us (i)).1, (nthV Z (k0)).2 - (nthV us (i)).2)), by dsimp only; omega, ⟨by dsimp only; omega, hP1, by dsimp only; rw [List.length_set]; exact hl, sz_set hz hs0 _, by dsimp only; rw [fst_put hk0 hn0]; exact hy⟩, suL h0 [0, 1] _ _ (by decide) rfl ⟨rfl, rfl, rfl, rfl, rfl, trivial⟩ ⟨oet rfl, oet rfl, rfl⟩⟩
      ·
        refine dno 15 ?_; refine dno 16 ?_; refine dno 17 ?_; refine dno 18 ?_; refine dno 19 ?_; refine dno 20 ?_; refine dno 21 ?_; refine dno 22 ?_; refine dno 23 ?_; refine dno 24 ?_
        refine dno 25 ?_; refine dno 26 ?_; refine dv 27 ?_; refine dv 28 ?_; refine dz0 ?_; refine cdf rfl ?_; refine sk ?_; refine rl ?_; refine o1 ?_; refine o1 ?_
        refine WL.cast (t := 18) (u' := .int .i64 ((i + 1 : Nat) : Int)) rfl (cint (by omega)) ?_
        refine o1 ?_; refine nl ?_
        exact ⟨(i + 1, Z.set k0 ((nthV us (i)).1, (nthV Z (k0)).2 - (nthV us (i)).2)), by dsimp only; omega, ⟨by dsimp only; omega, hP1, by dsimp only; rw [List.length_set]; exact hl, sz_set hz hs0 _, by dsimp only; rw [fst_put hk0 hn0]; exact hy⟩, suL h0 [0, 1] _ _ (by decide) rfl ⟨rfl, rfl, rfl, rfl, rfl, trivial⟩ ⟨oet rfl, oet rfl, rfl⟩⟩
  ·
    refine ex ?_; refine sq ?_; refine rl ?_; refine o1 ?_; refine nl ?_; refine rt ?_; have hZ := Pts.inv0 (by rwa [List.drop_of_length_le (by omega)] at hP)
    subst hZ
    exact enL (lent' := [⟨45, 4, zcl Z rest⟩, ⟨3, 1, icl (ys ++ tl)⟩]) (.inl rfl) rfl (pk1 (pkv _)) (by decide) (fun _ h => by cases h) ⟨⟨rfl, rfl⟩, ⟨rfl, rfl⟩, trivial⟩ ⟨rfl, rfl, trivial⟩ ⟨refC_t _, refC_t _, trivial⟩ (fun h => by cases h) ⟨rfl, rfl⟩
end Go.Proofs.YtogaallfhifngaaGreat

/- The law of loss: LossWhole. Printed by a program. -/
namespace Go.Proofs.YtogaallfhifngaaGreat
open Go Go.RowKit
theorem c_Max2 {a : Fr4} {p : Rat} (ha : Qn a p) (hp : Sz 17179869184 p) : Spec false Tryz.prog 20 [] [.one (.t (sQ false [a, Fr4.of ((0 : Int) : Rat)]))] (Ret (qF (.of (qmax0 [p, ((0 : Int) : Rat)])))) := by
  have h0 : Sz 17179869184 ((0 : Int) : Rat) := sz0 (by omega)
  have h := c_Max4 (xs := [a, Fr4.of ((0 : Int) : Rat)]) (by simp) (by
    intro x hx
    rcases List.mem_cons.1 hx with rfl | hx
    · exact ⟨ha.1, by rw [ha.2]; exact hp⟩
    · rw [List.mem_singleton] at hx
      subst hx
      exact ⟨(Qn.of h0).1, by rw [Fr4.q_of]; exact h0⟩) (by simp)
  have e : qmax0 ([a, Fr4.of ((0 : Int) : Rat)].map Fr4.q) = qmax0 [p, ((0 : Int) : Rat)] := by
    show qmax a.q [(Fr4.of ((0 : Int) : Rat)).q] = _
    rw [Fr4.q_of, ha.2]
    rfl
  rwa [e] at h
set_option maxRecDepth 100000 in
theorem l_LossWhole {xs : List At} (hqa : ∀ x ∈ xs, x.2.2.x.length ≤ 6 ∧ x.2.2.y.length ≤ 6 → x.2.2.ok) (hyy : ∀ x ∈ xs, -9223372036854775808 ≤ x.2.1) : Spec true Tryz.prog 4 [] [.one (.t (sAc 38 xs))] (Ret (.one (tv (.bool true)))) := by
  refine fn0 Tryz.func4 rfl Tryz.ntmps4 rfl ttok rfl fun N w c0 h0 => ?_
  refine sq ?_; refine rl ?_; refine o1 ?_; refine nl ?_; refine sq ?_; refine sq ?_; refine rl ?_; refine o1 ?_
  refine ca (l_few (xs := xs) (top := 40)) ok7 ⟨a1 rfl, a1 rfl, rfl⟩ (.one (tv (.bool (fewB xs 40)))) ?_; refine WL.splitb (t := 13) rfl (fun h1 => ?_) (fun h1 => ?_)
  ·
    refine o1 ?_; refine nl ?_; refine cdf rfl ?_; refine sk ?_; refine sq ?_; refine rl ?_; obtain ⟨hlen0, hsh⟩ := few_use h1 (by omega)
    refine cak 0 p_New ok9 rfl ?_; refine o1 ?_; refine nl ?_; refine sq ?_; refine rl ?_; refine o1 ?_; refine o1 ?_; refine mk (m := xs.length) 1 (by omega) (icl_zero _) ?_
    refine o1 ?_; refine nl ?_; refine sq ?_; refine rl ?_; refine o1 ?_; refine o1 ?_
    refine mkz (m := xs.length) (zz := .agg #[.bool false, .slice none 0 0, .bool false, .slice none 0 0]) 2 (by omega) (zcl_zero _) ?_
    refine o1 ?_; refine nl ?_; refine sq ?_; refine sq ?_; refine rl ?_; refine o1 ?_; refine nl ?_; refine bl ?_
    refine lp (γ := Nat × List (Int × Rat) × List (Int × Rat) × Int × Bool) (fun s => frL [(0, .one (.t (sAc 38 xs))), (3, .one (.pt 0 0)), (4, .one (.sl 1 0 xs.length)), (5, .one (.sl 2 0 xs.length)), (6, .one (tv (.int .i64 ((s.2.1.length : Nat) : Int))))]) (fun s => [(⟨76, 0, [.t (sR 57 s.2.2.1), tv (.int .i64 s.2.2.2.1), tv (.bool s.2.2.2.2)]⟩ : Ob), ⟨3, 1, icl (s.2.1.map Prod.fst ++ List.replicate s.1 0)⟩, ⟨45, 4, zcl s.2.1 (zZ s.1)⟩].map some) (fun s => s.2.1.length + s.1 = xs.length ∧ WhOk s.2.1 s.2.2.1 s.2.2.2.1 s.2.2.2.2) (fun s => s.1) (xs.length, [], [], 0, false) ⟨by simp, WhOk.nil⟩ (su0 h0 [0, 1, 2] _ _ (by decide) ⟨rfl, rfl, rfl, rfl, rfl, trivial⟩ ⟨oe rfl rfl, oet rfl, oet rfl, rfl⟩) ?_
    rintro ⟨m, Z, vs, last, put⟩ ⟨hm, hw⟩; dsimp only at hm hw ⊢; refine sq ?_; refine sq ?_; refine rl ?_; (iterate 4 refine o1 ?_); refine nl ?_; refine cdp rfl (fun h2 => ?_) (fun h2 => ?_)
    ·
      refine sk ?_; refine sq ?_; refine bl ?_; refine sq ?_; obtain ⟨m, rfl⟩ : ∃ q, m = q + 1 := ⟨m - 1, by omega⟩
      have hx := hsh _ (nthA_mem (xs := xs) (k := Z.length) (by omega))
      have ha : Qn (nthA xs (Z.length)).2.2 (nthA xs (Z.length)).2.2.q := ⟨hqa _ (nthA_mem (by omega)) hx, rfl⟩
      have hwp := wt6 ha hx.1 hx.2
      have hlen : (nthA xs (Z.length)).2.2.len 1099511627776 := ⟨by omega, by omega⟩
      have hyr := hyy _ (nthA_mem (xs := xs) (k := Z.length) (by omega))
      have hok := hw.ok
      have hl1 := hok.len
      have hl : vs.length ≤ 1073741822 := by omega
      have hsz1 := hok.size
      refine rl ?_; refine o1 ?_; refine o1 ?_; refine ca (c_Whole4 (n := 0) (by omega) (by omega)) ok12 ⟨a1 rfl, rfl⟩ (qF (.of ((0 : Int) : Rat))) ?_
      refine o1 ?_; refine sto (zcl_new (Z := Z) (r4 := z4) (rest := zZ m) (a := .of ((0 : Int) : Rat)) rfl) (zcl_nle (Z := Z) (r4 := z4) (rest := zZ m) (a := .of ((0 : Int) : Rat)) rfl) ?_
      refine nl ?_; refine sq ?_; refine rl ?_; (iterate 4 refine o1 ?_); refine ldf ([.v (.int .i64 (nthA xs (Z.length)).1)]) (act_k (by omega)) ?_
      refine ca (f_Pick (i := (nthA xs (Z.length)).1) (n := 4) (by omega) (by omega)) ok13 ⟨a1 rfl, a1 rfl, rfl⟩ (.one (tv (.int .i64 (((nthA xs (Z.length)).1.tmod 4 + 4).tmod 4)))) ?_
      refine nl ?_; refine bl ?_; refine sq ?_; refine rl ?_; refine o1 ?_; refine o1 ?_; refine nl ?_; refine cdp rfl (fun h3 => ?_) (fun h3 => ?_)
      ·
        refine sq ?_
        have hup : UseP (nthA xs (Z.length)).2.1 (nthA xs (Z.length)).2.2.q vs (useL (nthA xs (Z.length)).2.1 vs (nthA xs (Z.length)).2.2.q).2.1 (keepV zeroQ (useL (nthA xs (Z.length)).2.1 vs (nthA xs (Z.length)).2.2.q).1) (useL (nthA xs (Z.length)).2.1 vs (nthA xs (Z.length)).2.2.q).2.2 := useP _ vs _ hok.pos hw.asc
        have e9 : (refL (nthA xs (Z.length)).2.1 vs (nthA xs (Z.length)).2.2.q).1 = (keepV zeroQ (useL (nthA xs (Z.length)).2.1 vs (nthA xs (Z.length)).2.2.q).1) := (useL_refL hok.pos).1
        have hok2 : StOk (keepV zeroQ (useL (nthA xs (Z.length)).2.1 vs (nthA xs (Z.length)).2.2.q).1) Z.length (100 * Z.length + 100) := e9 ▸ (hok.use (fr := (nthA xs (Z.length)).2.1) (p := (nthA xs (Z.length)).2.2.q)).mono (by omega) (by omega)
        obtain ⟨Z1, hP1, hZ1, hZl1, hw1⟩ := hw.used hup.use hok2 (by omega)
        have husn : (useL (nthA xs (Z.length)).2.1 vs (nthA xs (Z.length)).2.2.q).2.1.length ≤ vs.length := by simpa using hup.use.subU.length_le
        have hul : (useL (nthA xs (Z.length)).2.1 vs (nthA xs (Z.length)).2.2.q).2.1.length ≤ 1073741823 := by omega
        have hus5 : ∀ x ∈ (useL (nthA xs (Z.length)).2.1 vs (nthA xs (Z.length)).2.2.q).2.1, Sz 5000 x.2 := huz hok (by omega)
        have hus4 : ∀ x ∈ (useL (nthA xs (Z.length)).2.1 vs (nthA xs (Z.length)).2.2.q).2.1, Sz 17179869184 x.2 := fun x hx => (hus5 x hx).mono (by omega)
        have hlv : (keepV zeroQ (useL (nthA xs (Z.length)).2.1 vs (nthA xs (Z.length)).2.2.q).1).length ≤ 1073741823 := by have h9 := hok2.len; omega
        have hzv : ∀ x ∈ (keepV zeroQ (useL (nthA xs (Z.length)).2.1 vs (nthA xs (Z.length)).2.2.q).1), Sz 68719476736 x.2 := hok2.sz (by omega)
        have hssz : Sz 17179869184 (qsum ((useL (nthA xs (Z.length)).2.1 vs (nthA xs (Z.length)).2.2.q).2.1.map Prod.snd)) := (qsum_sz hus5).mono (by omega)
        have hslen : (Fr4.of (qsum ((useL (nthA xs (Z.length)).2.1 vs (nthA xs (Z.length)).2.2.q).2.1.map Prod.snd))).len 1099511627776 := ⟨Nat.le_trans hssz.1 (by omega), Nat.le_trans hssz.2 (by omega)⟩
        have hpsz : Sz 17179869184 (nthA xs (Z.length)).2.2.q := sz_iff.2 (by have h9 : wt (nthA xs (Z.length)).2.2.q = szq (nthA xs (Z.length)).2.2.q + 1 := rfl; omega)
        have hmsz : Sz 17179869184 (qmax0 [(nthA xs (Z.length)).2.2.q, ((0 : Int) : Rat)]) := qmax_sz0 hpsz
        refine rl ?_; (iterate 4 refine o1 ?_); refine ldf ((nthA xs (Z.length)).2.2.tr false) (act_q (by omega)) ?_
        refine ca (c_RefRat hlen) ok14 ⟨a1g rfl, rfl⟩ (qF (nthA xs (Z.length)).2.2) ?_; refine al 3 ?_; refine st ?_; refine nl ?_; refine sq ?_; refine rd [3] (fun i => [12].contains i) mixed ?_
        refine dv 0 ?_; refine dv 1 ?_; refine dv 2 ?_; refine dv 3 ?_; refine dv 4 ?_; refine dlr 5 ([.v (.int .i64 (nthA xs (Z.length)).2.1)]) (act_y (by omega)) ?_
        refine dv 6 ?_; refine dv 7 ?_; refine dv 8 ?_; refine dv 9 ?_; refine dlr 10 ((nthA xs (Z.length)).2.2.tr false) (act_q (by omega)) ?_
        refine dcl 11 4 [0] rfl (p_Use (fr := (nthA xs (Z.length)).2.1) ha (by omega) (by omega) (hok.zU (by omega))) ok15 ⟨oe rfl rfl, rfl⟩ ⟨rfl, rfl, rfl, rfl⟩ (ok := [some ⟨76, 0, [.t (sR 57 (keepV zeroQ (useL (nthA xs (Z.length)).2.1 vs (nthA xs (Z.length)).2.2.q).1)), tv (.int .i64 last), tv (.bool put)]⟩]) ⟨oe rfl rfl, rfl⟩ ⟨rfl, trivial⟩ ?_
        refine d_v 12 (by kernel_rfl) rfl rfl ttok rfl (by trivial) ?_ (fun h => by first | rfl | cases h)
        refine dz0 ?_; refine sq ?_
        refine WP.sub (fzR (i := 8) (k := 4) (n := (useL (nthA xs (Z.length)).2.1 vs (nthA xs (Z.length)).2.2.q).2.1.length) 57 rfl rfl rfl (vflat_len true _) (rd_vo true _) (.one .sl)) ?_
        refine rl ?_; refine o1 ?_
        refine cak 5 (p_Rows (vs := (keepV zeroQ (useL (nthA xs (Z.length)).2.1 vs (nthA xs (Z.length)).2.2.q).1)) (rest := [.v (.int .i64 last), .v (.bool put)]) hzv hlv) ok16 ⟨a1o rfl (.pe (trs := [sR 57 (keepV zeroQ (useL (nthA xs (Z.length)).2.1 vs (nthA xs (Z.length)).2.2.q).1), .v (.int .i64 last), .v (.bool put)]) rfl rfl rfl (by simp only [rdTL, rdT, sR, sV, rd_vo])), rfl⟩ ?_
        refine o1 ?_; refine nl ?_; refine sq ?_
        refine WP.sub (fzR (i := 9) (k := 5) (n := (keepV zeroQ (useL (nthA xs (Z.length)).2.1 vs (nthA xs (Z.length)).2.2.q).1).length) 57 rfl rfl rfl (vflat_len true _) (rd_vo true _) (.one .sl)) ?_
        refine rl ?_; refine o1 ?_
        refine ca (p_Total (vs := (useL (nthA xs (Z.length)).2.1 vs (nthA xs (Z.length)).2.2.q).2.1) (B := 5000) (by omega) hus5 hul) ok17 ⟨a1 rfl, rfl⟩ (qF (.of (qsum ((useL (nthA xs (Z.length)).2.1 vs (nthA xs (Z.length)).2.2.q).2.1.map Prod.snd)))) ?_
        refine ca (c_RefRat (a := .of (qsum ((useL (nthA xs (Z.length)).2.1 vs (nthA xs (Z.length)).2.2.q).2.1.map Prod.snd))) hslen) ok14 ⟨a1g rfl, rfl⟩ (qF (.of (qsum ((useL (nthA xs (Z.length)).2.1 vs (nthA xs (Z.length)).2.2.q).2.1.map Prod.snd)))) ?_
        refine al 6 ?_; refine st ?_; refine nl ?_; refine sq ?_; refine sq ?_; refine rd [0, 3, 6] (fun i => [].contains i) mixed ?_
        refine dv 0 ?_; refine dv 1 ?_; refine dv 2 ?_; refine dv 3 ?_; refine dv 4 ?_; refine dv 5 ?_; refine dv 6 ?_; refine dv 7 ?_; refine dv 8 ?_
        refine dlr 9 ([.v (.int .i64 (nthA xs (Z.length)).2.1)]) (act_y (by omega)) ?_
        refine dcl 10 7 [2, 1] rfl (l_parts (fr := (nthA xs (Z.length)).2.1) (my := Z.length) (ys := Z.map Prod.fst) (tl := (List.replicate (m + 1) 0)) (rest := ((Fr4.of ((0 : Int) : Rat)).tr false ++ zZ m)) (Z0 := Z) hP1 (hw.sz (by omega)) hus4 rfl (List.length_map ..) (by rw [List.length_map]; omega) (by omega) hul hup.yrs (hw.asc.useU hup.use)) ok18 ⟨oet rfl, oet rfl, rfl⟩ ⟨rfl, rfl, rfl, rfl, rfl⟩ (ok := [some ⟨45, 4, zcl Z1 ((Fr4.of ((0 : Int) : Rat)).tr false ++ zZ m)⟩, some ⟨3, 1, icl (Z.map Prod.fst ++ (List.replicate (m + 1) 0))⟩]) ⟨oet rfl, oet rfl, rfl⟩ ⟨rfl, rfl, rfl, trivial⟩ ?_
        refine df 11 ?_; refine df 12 ?_; refine dld 13 ?_; refine dld 14 ?_; refine dca 15 rfl (c_Whole4 (n := 0) (by omega) (by omega)) ok12 ⟨a1 rfl, rfl⟩ (qF (.of ((0 : Int) : Rat))) ?_
        refine d_bs (key := 7) 16 (by kernel_rfl) rfl rfl ttok rfl ⟨rfl, rfl, rfl, trivial⟩ ?_
        refine dfz (i := 110) (k := 7) (t := 45) (t' := 45) (z := 4) (n := 2) (l := ([(nthA xs (Z.length)).2.2, Fr4.of ((0 : Int) : Rat)]).flatMap (Fr4.tr false)) rfl rfl rfl rfl (.one .sl) (by rfl) (by rfl) ?_
        refine dca 17 rfl (c_Max2 ha hpsz) ok20 ⟨a1 rfl, rfl⟩ (qF (.of (qmax0 [(nthA xs (Z.length)).2.2.q, ((0 : Int) : Rat)]))) ?_
        refine dca 18 rfl (c_Cmp4 (Qn.of (p := (qsum ((useL (nthA xs (Z.length)).2.1 vs (nthA xs (Z.length)).2.2.q).2.1.map Prod.snd))) hssz) (Qn.of (p := (qmax0 [(nthA xs (Z.length)).2.2.q, ((0 : Int) : Rat)])) hmsz) hssz hmsz) ok19 ⟨a1g rfl, a1g rfl, rfl⟩ (.one (tv (.int .i64 ((qsum ((useL (nthA xs (Z.length)).2.1 vs (nthA xs (Z.length)).2.2.q).2.1.map Prod.snd)) - (qmax0 [(nthA xs (Z.length)).2.2.q, ((0 : Int) : Rat)])).num.sign))) ?_
        refine df 19 ?_; refine df 20 ?_; refine dz0 ?_; refine cdp rfl (fun h4 => ?_) (fun h4 => ?_)
        ·
          exact absurd h4 (sgn_le hup.cap)
        ·
          refine sk ?_; refine sq ?_; refine rl ?_; refine o1 ?_; refine nl ?_; refine bl ?_
          refine lp (γ := Nat) (fun k => frL [(0, .one (.t (sAc 38 xs))), (3, .one (.pt 0 0)), (4, .one (.sl 1 0 xs.length)), (5, .one (.sl 2 0 xs.length)), (6, .one (tv (.int .i64 ((Z.length : Nat) : Int)))), (7, .one (.pt 3 0)), (8, .one (.t (sV 57 false (useL (nthA xs (Z.length)).2.1 vs (nthA xs (Z.length)).2.2.q).2.1))), (9, .one (.t (sV 57 false (keepV zeroQ (useL (nthA xs (Z.length)).2.1 vs (nthA xs (Z.length)).2.2.q).1)))), (10, .one (.pt 4 0)), (11, .one (tv (.int .i64 ((k : Nat) : Int))))]) (fun _ => [(⟨76, 0, [.t (sR 57 (keepV zeroQ (useL (nthA xs (Z.length)).2.1 vs (nthA xs (Z.length)).2.2.q).1)), tv (.int .i64 last), tv (.bool put)]⟩ : Ob), ⟨3, 1, icl (Z.map Prod.fst ++ List.replicate (m + 1) 0)⟩, ⟨45, 4, zcl Z1 ((Fr4.of ((0 : Int) : Rat)).tr false ++ zZ m)⟩, ⟨45, 0, ((nthA xs (Z.length)).2.2.tr false).map .t⟩, ⟨45, 0, ((Fr4.of (qsum ((useL (nthA xs (Z.length)).2.1 vs (nthA xs (Z.length)).2.2.q).2.1.map Prod.snd))).tr false).map .t⟩].map some) (fun k => k ≤ (keepV zeroQ (useL (nthA xs (Z.length)).2.1 vs (nthA xs (Z.length)).2.2.q).1).length) (fun k => (keepV zeroQ (useL (nthA xs (Z.length)).2.1 vs (nthA xs (Z.length)).2.2.q).1).length - k) 0 (Nat.zero_le _) (su0 h0 [0, 1, 2, 3, 6] _ _ (by decide) ⟨rfl, rfl, rfl, rfl, rfl, rfl, rfl, rfl, rfl, rfl, trivial⟩ ⟨oe rfl rfl, oet rfl, oet rfl, oe rfl rfl, oe rfl rfl, rfl⟩) fun k hk => ?_
          refine sq ?_; refine sq ?_; refine rl ?_; (iterate 4 refine o1 ?_); refine nl ?_; refine cdp rfl (fun h5 => ?_) (fun h5 => ?_)
          ·
            refine sk ?_; refine sq ?_; refine bl ?_; refine sq ?_; refine rd [0, 3, 4] (fun i => [].contains i) mixed ?_
            refine dv 0 ?_; refine dv 1 ?_; refine dv 2 ?_; refine dv 3 ?_
            refine dlr 4 ([.v (.int .i64 (nthV (keepV zeroQ (useL (nthA xs (Z.length)).2.1 vs (nthA xs (Z.length)).2.2.q).1) (k)).1)]) (vin_y false (by omega)) ?_
            refine dv 5 ?_; refine dv 6 ?_; refine dv 7 ?_; refine dv 8 ?_; refine dlr 9 ([.v (.int .i64 (nthA xs (Z.length)).2.1)]) (act_y (by omega)) ?_
            refine dv 10 ?_; refine dv 11 ?_; refine WD.split (t := 132) rfl rfl (fun h6 => ?_) (fun h6 => ?_)
            ·
              refine dld 12 ?_; refine dld 13 ?_
              refine dca 14 rfl (c_Cmp4 (Qn.of (p := (qsum ((useL (nthA xs (Z.length)).2.1 vs (nthA xs (Z.length)).2.2.q).2.1.map Prod.snd))) hssz) ha hssz hpsz) ok19 ⟨a1g rfl, a1g rfl, rfl⟩ (.one (tv (.int .i64 ((qsum ((useL (nthA xs (Z.length)).2.1 vs (nthA xs (Z.length)).2.2.q).2.1.map Prod.snd)) - (nthA xs (Z.length)).2.2.q).num.sign))) ?_
              refine df 15 ?_; refine df 16 ?_; refine WD.split (t := 137) rfl rfl (fun h7 => ?_) (fun h7 => ?_)
              ·
                have h8 := (hup.full _ (nthV_mem (vs := (keepV zeroQ (useL (nthA xs (Z.length)).2.1 vs (nthA xs (Z.length)).2.2.q).1)) (k := k) (by omega)) (by omega)).1
                have h9 := hup.sum
                have h7 := (lt_sgn _ _).1 h7
                exact absurd h7 (by grind)
              ·
                refine dv 17 ?_; refine dv 18 ?_; refine dv 19 ?_; refine dv 20 ?_; refine WD.split (t := 141) rfl rfl (fun h8 => ?_) (fun h8 => ?_)
                ·
                  refine dv 21 ?_; refine dv 22 ?_; refine dv 23 ?_; refine dv 24 ?_
                  refine dlr 25 ([.v (.int .i64 (nthV (keepV zeroQ (useL (nthA xs (Z.length)).2.1 vs (nthA xs (Z.length)).2.2.q).1) (k)).1)]) (vin_y false (by omega)) ?_
                  refine dv 26 ?_; refine dv 27 ?_; refine dv 28 ?_; refine dv 29 ?_
                  refine WD.cast (t := 150) (u' := .int .i64 (((useL (nthA xs (Z.length)).2.1 vs (nthA xs (Z.length)).2.2.q).2.1.length - 1 : Nat) : Int)) rfl (cint (by omega)) ?_
                  refine dv 30 ?_; refine dv 31 ?_
                  refine dlr 32 ([.v (.int .i64 (nthV (useL (nthA xs (Z.length)).2.1 vs (nthA xs (Z.length)).2.2.q).2.1 ((useL (nthA xs (Z.length)).2.1 vs (nthA xs (Z.length)).2.2.q).2.1.length - 1)).1)]) (vin_y false (by omega)) ?_
                  refine dv 33 ?_; refine dv 34 ?_; refine df 35 ?_; refine df 36 ?_; refine dz0 ?_; refine cdp rfl (fun h9 => ?_) (fun h9 => ?_)
                  ·
                    have h8 := (hup.full _ (nthV_mem (vs := (keepV zeroQ (useL (nthA xs (Z.length)).2.1 vs (nthA xs (Z.length)).2.2.q).1)) (k := k) (by omega)) (by omega)).2 _ (nthV_mem (vs := (useL (nthA xs (Z.length)).2.1 vs (nthA xs (Z.length)).2.2.q).2.1) (k := (useL (nthA xs (Z.length)).2.1 vs (nthA xs (Z.length)).2.2.q).2.1.length - 1) (by omega))
                    omega
                  ·
                    refine sk ?_; refine rl ?_; refine o1 ?_; refine o1 ?_; refine WL.cast (t := 120) (u' := .int .i64 ((k + 1 : Nat) : Int)) rfl (cint (by omega)) ?_
                    refine o1 ?_; refine nl ?_
                    exact ⟨k + 1, by omega, by omega, su0 h0 [0, 1, 2, 3, 4] _ _ (by decide) ⟨rfl, rfl, rfl, rfl, rfl, rfl, rfl, rfl, rfl, rfl, trivial⟩ ⟨oe rfl rfl, oet rfl, oet rfl, oe rfl rfl, oe rfl rfl, rfl⟩⟩
                ·
                  refine dno 21 ?_; refine dno 22 ?_; refine dno 23 ?_; refine dno 24 ?_; refine dno 25 ?_; refine dno 26 ?_; refine dno 27 ?_; refine dno 28 ?_; refine dno 29 ?_; refine dno 30 ?_
                  refine dno 31 ?_; refine dno 32 ?_; refine dno 33 ?_; refine dv 34 ?_; refine df 35 ?_; refine df 36 ?_; refine dz0 ?_; refine cdf rfl ?_; refine sk ?_; refine rl ?_; refine o1 ?_
                  refine o1 ?_; refine WL.cast (t := 120) (u' := .int .i64 ((k + 1 : Nat) : Int)) rfl (cint (by omega)) ?_
                  refine o1 ?_; refine nl ?_
                  exact ⟨k + 1, by omega, by omega, su0 h0 [0, 1, 2, 3, 4] _ _ (by decide) ⟨rfl, rfl, rfl, rfl, rfl, rfl, rfl, rfl, rfl, rfl, trivial⟩ ⟨oe rfl rfl, oet rfl, oet rfl, oe rfl rfl, oe rfl rfl, rfl⟩⟩
            ·
              refine dno 12 ?_; refine dno 13 ?_; refine dno 14 ?_; refine dno 15 ?_; refine dno 16 ?_; refine dno 17 ?_; refine dno 18 ?_; refine dno 19 ?_; refine dno 20 ?_; refine dno 21 ?_
              refine dno 22 ?_; refine dno 23 ?_; refine dno 24 ?_; refine dno 25 ?_; refine dno 26 ?_; refine dno 27 ?_; refine dno 28 ?_; refine dno 29 ?_; refine dno 30 ?_; refine dno 31 ?_
              refine dno 32 ?_; refine dno 33 ?_; refine dno 34 ?_; refine dno 35 ?_; refine dv 36 ?_; refine dz0 ?_; refine cdf rfl ?_; refine sk ?_; refine rl ?_; refine o1 ?_; refine o1 ?_
              refine WL.cast (t := 120) (u' := .int .i64 ((k + 1 : Nat) : Int)) rfl (cint (by omega)) ?_
              refine o1 ?_; refine nl ?_
              exact ⟨k + 1, by omega, by omega, su0 h0 [0, 1, 2, 3, 4] _ _ (by decide) ⟨rfl, rfl, rfl, rfl, rfl, rfl, rfl, rfl, rfl, rfl, trivial⟩ ⟨oe rfl rfl, oet rfl, oet rfl, oe rfl rfl, oe rfl rfl, rfl⟩⟩
          ·
            refine ex ?_; refine rl ?_; refine o1 ?_; refine o1 ?_
            refine WL.cast (t := 28) (u' := .int .i64 (((Z1 ++ [(0, ((0 : Int) : Rat))]).length : Nat) : Int)) rfl (cint (by simp only [List.length_append, List.length_cons, List.length_nil]; omega)) ?_
            refine o1 ?_; refine nl ?_
            exact ⟨(m, (Z1 ++ [(0, ((0 : Int) : Rat))]), (keepV zeroQ (useL (nthA xs (Z.length)).2.1 vs (nthA xs (Z.length)).2.2.q).1), last, put), by dsimp only; omega, ⟨by dsimp only; simp only [List.length_append, List.length_cons, List.length_nil]; omega, hw1⟩, su0 h0 [0, 1, 2] _ _ (by decide) ⟨rfl, rfl, rfl, rfl, rfl, trivial⟩ ⟨oe rfl rfl, oet (congrArg (fun l => some (⟨3, 1, icl l⟩ : Ob)) (yrs_next hZ1)), oet (congrArg (fun l => some (⟨45, 4, l⟩ : Ob)) (zcl_snoc 0 ((0 : Int) : Rat))), rfl⟩⟩
      ·
        refine sq ?_; refine rl ?_; refine o1 ?_; refine o1 ?_; refine nl ?_; refine cdp rfl (fun h10 => ?_) (fun h10 => ?_)
        ·
          refine sq ?_
          have huo : UseOf vs (keepV (fun x : Int × Rat => !decide (x.1 < (nthA xs (Z.length)).2.1)) vs) (keepV (fun x : Int × Rat => decide (x.1 < (nthA xs (Z.length)).2.1)) vs) := useOf_filter (fun x : Int × Rat => !decide (x.1 < (nthA xs (Z.length)).2.1)) hok.pos
          obtain ⟨Z1, hP1, hZ1, hZl1, hw1⟩ := hw.used huo ((hok.filter _).mono (by omega) (by omega)) (by omega)
          have husn : (keepV (fun x : Int × Rat => !decide (x.1 < (nthA xs (Z.length)).2.1)) vs).length ≤ vs.length := List.length_filter_le _ _
          have hz8 : ∀ x ∈ vs, Sz 17179869184 x.2 := hok.sz (by omega)
          refine rd [] (fun i => [].contains i) mixed ?_
          refine dv 0 ?_; refine dv 1 ?_; refine dv 2 ?_; refine dv 3 ?_; refine dv 4 ?_; refine dv 5 ?_; refine dv 6 ?_; refine dv 7 ?_; refine dv 8 ?_
          refine dlr 9 ([.v (.int .i64 (nthA xs (Z.length)).2.1)]) (act_y (by omega)) ?_
          refine dcl 10 3 [0] rfl (p_Expire (b := (nthA xs (Z.length)).2.1) (by omega) (hok.sz (by omega))) ok21 ⟨oe rfl rfl, rfl⟩ ⟨rfl, rfl, rfl⟩ (ok := [some ⟨76, 0, [.t (sR 57 (keepV (fun x : Int × Rat => decide (x.1 < (nthA xs (Z.length)).2.1)) vs)), tv (.int .i64 last), tv (.bool put)]⟩]) ⟨oe rfl rfl, rfl⟩ trivial ?_
          refine dfzR (i := 170) (k := 3) (n := (keepV (fun x : Int × Rat => !decide (x.1 < (nthA xs (Z.length)).2.1)) vs).length) 57 rfl rfl rfl (vflat_len true _) (rd_vo true _) (.one .sl) (by rfl) (by rfl) ?_
          refine dcl 11 4 [2, 1] rfl (l_parts (fr := (-9223372036854775808)) (my := Z.length) (ys := Z.map Prod.fst) (tl := (List.replicate (m + 1) 0)) (rest := ((Fr4.of ((0 : Int) : Rat)).tr false ++ zZ m)) (Z0 := Z) hP1 (hw.sz (by omega)) (fun x hx => hz8 x (List.mem_filter.1 hx).1) rfl (List.length_map ..) (by rw [List.length_map]; omega) (by omega) (by omega) (fun u hu => hw.yrs u (List.mem_filter.1 hu).1) (hw.asc.useU huo)) ok18 ⟨oet rfl, oet rfl, rfl⟩ ⟨rfl, rfl, rfl, rfl, rfl⟩ (ok := [some ⟨45, 4, zcl Z1 ((Fr4.of ((0 : Int) : Rat)).tr false ++ zZ m)⟩, some ⟨3, 1, icl (Z.map Prod.fst ++ (List.replicate (m + 1) 0))⟩]) ⟨oet rfl, oet rfl, rfl⟩ trivial ?_
          refine df 12 ?_; refine dz0 ?_; refine cdf rfl ?_; refine sk ?_; refine rl ?_; refine o1 ?_; refine o1 ?_
          refine WL.cast (t := 28) (u' := .int .i64 (((Z1 ++ [(0, ((0 : Int) : Rat))]).length : Nat) : Int)) rfl (cint (by simp only [List.length_append, List.length_cons, List.length_nil]; omega)) ?_
          refine o1 ?_; refine nl ?_
          exact ⟨(m, (Z1 ++ [(0, ((0 : Int) : Rat))]), (keepV (fun x : Int × Rat => decide (x.1 < (nthA xs (Z.length)).2.1)) vs), last, put), by dsimp only; omega, ⟨by dsimp only; simp only [List.length_append, List.length_cons, List.length_nil]; omega, hw1⟩, su0 h0 [0, 1, 2] _ _ (by decide) ⟨rfl, rfl, rfl, rfl, rfl, trivial⟩ ⟨oe rfl rfl, oet (congrArg (fun l => some (⟨3, 1, icl l⟩ : Ob)) (yrs_next hZ1)), oet (congrArg (fun l => some (⟨45, 4, l⟩ : Ob)) (zcl_snoc 0 ((0 : Int) : Rat))), rfl⟩⟩
        ·
          refine sq ?_; refine rd [] (fun i => [].contains i) mixed ?_
          refine dv 0 ?_; refine dv 1 ?_; refine dv 2 ?_; refine dv 3 ?_; refine dv 4 ?_; refine dlr 5 ([.v (.int .i64 (nthA xs (Z.length)).2.1)]) (act_y (by omega)) ?_
          refine dv 6 ?_; refine dv 7 ?_; refine dv 8 ?_; refine dv 9 ?_; refine dlr 10 ((nthA xs (Z.length)).2.2.tr false) (act_q (by omega)) ?_
          refine dcl 11 3 [0] rfl (p_Put (y := (nthA xs (Z.length)).2.1) ha hl) ok22 ⟨oe rfl rfl, rfl⟩ ⟨rfl, rfl, rfl, rfl⟩ (ok := [some ⟨76, 0, [.t (sR 57 (putL (putE (rightQ (nthA xs (Z.length)).2.2.s (nthA xs (Z.length)).2.2.x (nthA xs (Z.length)).2.2.t (nthA xs (Z.length)).2.2.y) (nthA xs (Z.length)).2.2.q (nthA xs (Z.length)).2.1 last put) (nthA xs (Z.length)).2.2.q (nthA xs (Z.length)).2.1 vs)), tv (.int .i64 (putY (putE (rightQ (nthA xs (Z.length)).2.2.s (nthA xs (Z.length)).2.2.x (nthA xs (Z.length)).2.2.t (nthA xs (Z.length)).2.2.y) (nthA xs (Z.length)).2.2.q (nthA xs (Z.length)).2.1 last put) (nthA xs (Z.length)).2.1 last)), tv (.bool (putP (putE (rightQ (nthA xs (Z.length)).2.2.s (nthA xs (Z.length)).2.2.x (nthA xs (Z.length)).2.2.t (nthA xs (Z.length)).2.2.y) (nthA xs (Z.length)).2.2.q (nthA xs (Z.length)).2.1 last put) put))]⟩]) ⟨oe rfl rfl, rfl⟩ trivial ?_
          refine df 12 ?_; refine dz0 ?_; refine cdp rfl (fun h11 => ?_) (fun h11 => ?_)
          ·
            refine sq ?_
            have hpe : (putE (rightQ (nthA xs (Z.length)).2.2.s (nthA xs (Z.length)).2.2.x (nthA xs (Z.length)).2.2.t (nthA xs (Z.length)).2.2.y) (nthA xs (Z.length)).2.2.q (nthA xs (Z.length)).2.1 last put) = 0 := h11
            have hw1 := hw.putOk hpe hwp hyr
            refine rl ?_; (iterate 6 refine o1 ?_); refine ldf ([.v (.int .i64 (nthA xs (Z.length)).2.1)]) (act_y (by omega)) ?_
            refine o1 ?_
            refine sto (icl_put (ys := Z.map Prod.fst) (y0 := 0) (tl := List.replicate m 0) (y := (nthA xs (Z.length)).2.1) (List.length_map ..)) (icl_le (ys := Z.map Prod.fst) (y0 := 0) (tl := List.replicate m 0) (y := (nthA xs (Z.length)).2.1) (List.length_map ..)) ?_
            refine nl ?_; refine rl ?_; (iterate 6 refine o1 ?_); refine ldf ((nthA xs (Z.length)).2.2.tr false) (act_q (by omega)) ?_
            refine ca (c_RefRat hlen) ok14 ⟨a1g rfl, rfl⟩ (qF (nthA xs (Z.length)).2.2) ?_; refine o1 ?_
            refine sto (zcl_new (Z := Z) (r4 := (Fr4.of ((0 : Int) : Rat)).tr false) (rest := zZ m) (a := (nthA xs (Z.length)).2.2) rfl) (zcl_nle (Z := Z) (r4 := (Fr4.of ((0 : Int) : Rat)).tr false) (rest := zZ m) (a := (nthA xs (Z.length)).2.2) rfl) ?_
            refine nl ?_; refine rl ?_; refine o1 ?_; refine o1 ?_
            refine WL.cast (t := 28) (u' := .int .i64 (((Z ++ [((nthA xs (Z.length)).2.1, (nthA xs (Z.length)).2.2.q)]).length : Nat) : Int)) rfl (cint (by simp only [List.length_append, List.length_cons, List.length_nil]; omega)) ?_
            refine o1 ?_; refine nl ?_
            exact ⟨(m, (Z ++ [((nthA xs (Z.length)).2.1, (nthA xs (Z.length)).2.2.q)]), (putL (putE (rightQ (nthA xs (Z.length)).2.2.s (nthA xs (Z.length)).2.2.x (nthA xs (Z.length)).2.2.t (nthA xs (Z.length)).2.2.y) (nthA xs (Z.length)).2.2.q (nthA xs (Z.length)).2.1 last put) (nthA xs (Z.length)).2.2.q (nthA xs (Z.length)).2.1 vs), (putY (putE (rightQ (nthA xs (Z.length)).2.2.s (nthA xs (Z.length)).2.2.x (nthA xs (Z.length)).2.2.t (nthA xs (Z.length)).2.2.y) (nthA xs (Z.length)).2.2.q (nthA xs (Z.length)).2.1 last put) (nthA xs (Z.length)).2.1 last), (putP (putE (rightQ (nthA xs (Z.length)).2.2.s (nthA xs (Z.length)).2.2.x (nthA xs (Z.length)).2.2.t (nthA xs (Z.length)).2.2.y) (nthA xs (Z.length)).2.2.q (nthA xs (Z.length)).2.1 last put) put)), by dsimp only; omega, ⟨by dsimp only; simp only [List.length_append, List.length_cons, List.length_nil]; omega, hw1⟩, su0 h0 [0, 1, 2] _ _ (by decide) ⟨rfl, rfl, rfl, rfl, rfl, trivial⟩ ⟨oe rfl rfl, oet (congrArg (fun l => some (⟨3, 1, icl l⟩ : Ob)) (yrs_next rfl)), oet (congrArg (fun l => some (⟨45, 4, l⟩ : Ob)) (zcl_snocA (nthA xs (Z.length)).2.1 (ha.right (putE_ok hpe).1))), rfl⟩⟩
          ·
            refine sk ?_
            have hpe : (putE (rightQ (nthA xs (Z.length)).2.2.s (nthA xs (Z.length)).2.2.x (nthA xs (Z.length)).2.2.t (nthA xs (Z.length)).2.2.y) (nthA xs (Z.length)).2.2.q (nthA xs (Z.length)).2.1 last put) ≠ 0 := h11
            refine rl ?_; refine o1 ?_; refine o1 ?_
            refine WL.cast (t := 28) (u' := .int .i64 (((Z ++ [(0, ((0 : Int) : Rat))]).length : Nat) : Int)) rfl (cint (by simp only [List.length_append, List.length_cons, List.length_nil]; omega)) ?_
            refine o1 ?_; refine nl ?_
            exact ⟨(m, (Z ++ [(0, ((0 : Int) : Rat))]), (putL (putE (rightQ (nthA xs (Z.length)).2.2.s (nthA xs (Z.length)).2.2.x (nthA xs (Z.length)).2.2.t (nthA xs (Z.length)).2.2.y) (nthA xs (Z.length)).2.2.q (nthA xs (Z.length)).2.1 last put) (nthA xs (Z.length)).2.2.q (nthA xs (Z.length)).2.1 vs), (putY (putE (rightQ (nthA xs (Z.length)).2.2.s (nthA xs (Z.length)).2.2.x (nthA xs (Z.length)).2.2.t (nthA xs (Z.length)).2.2.y) (nthA xs (Z.length)).2.2.q (nthA xs (Z.length)).2.1 last put) (nthA xs (Z.length)).2.1 last), (putP (putE (rightQ (nthA xs (Z.length)).2.2.s (nthA xs (Z.length)).2.2.x (nthA xs (Z.length)).2.2.t (nthA xs (Z.length)).2.2.y) (nthA xs (Z.length)).2.2.q (nthA xs (Z.length)).2.1 last put) put)), by dsimp only; omega, ⟨by dsimp only; simp only [List.length_append, List.length_cons, List.length_nil]; omega, (by obtain ⟨e1, e2, e3⟩ := putE_no hpe; dsimp only; rw [e1, e2, e3]; exact hw.skip)⟩, su0 h0 [0, 1, 2] _ _ (by decide) ⟨rfl, rfl, rfl, rfl, rfl, trivial⟩ ⟨oe rfl rfl, oet (congrArg (fun l => some (⟨3, 1, icl l⟩ : Ob)) (yrs_next rfl)), oet (congrArg (fun l => some (⟨45, 4, l⟩ : Ob)) (zcl_snoc 0 ((0 : Int) : Rat))), rfl⟩⟩
    ·
      refine ex ?_; refine sq ?_; obtain rfl : m = 0 := by omega
      have hok := hw.ok
      have hl1 := hok.len
      have huo := useOf_all hok.pos
      obtain ⟨Z1, hP1, hZ1, hZl1, hw1⟩ := hw.used huo (StOk.nil.mono (by omega) (by omega)) (by omega)
      have hlv : vs.length ≤ 1073741823 := by omega
      have hzv : ∀ x ∈ vs, Sz 68719476736 x.2 := hok.sz (by omega)
      refine rl ?_; (iterate 3 refine o1 ?_)
      refine cak 3 (p_Rows (vs := vs) (rest := [.v (.int .i64 last), .v (.bool put)]) hzv hlv) ok16 ⟨a1o rfl (.pe (trs := [sR 57 vs, .v (.int .i64 last), .v (.bool put)]) rfl rfl rfl (by simp only [rdTL, rdT, sR, sV, rd_vo])), rfl⟩ ?_
      refine WL.sub (fzR (i := 176) (k := 3) (n := vs.length) 57 rfl rfl rfl (vflat_len true _) (rd_vo true _) (.one .sl)) ?_
      refine cl 4 [2, 1] (l_parts (fr := (-9223372036854775808)) (my := xs.length) (ys := Z.map Prod.fst) (tl := []) (rest := []) (Z0 := Z) hP1 (hw.sz (by omega)) (hok.sz (by omega)) rfl (by rw [List.length_map]; omega) (by rw [List.length_map]; omega) (by omega) (by omega) hw.yrs hw.asc) ok18 ⟨oet rfl, oet rfl, rfl⟩ ⟨rfl, rfl, rfl, rfl, rfl⟩ (ok := [some ⟨45, 4, zcl Z1 []⟩, some ⟨3, 1, icl (Z.map Prod.fst ++ [])⟩]) ⟨oet rfl, oet rfl, rfl⟩  ?_
      refine o1 ?_; refine ca (l_works) ok8 rfl (.one (tv (.bool true))) ?_; refine o1 ?_; refine o1 ?_; refine nl ?_; refine rt ?_
      exact en (.inl rfl) rfl (pk1 (pkv _)) (by decide) (fun _ => trivial) rfl
  ·
    refine o1 ?_; refine nl ?_; refine cdt rfl ?_; refine sq ?_; refine rl ?_; refine ca (l_works) ok8 rfl (.one (tv (.bool true))) ?_; refine o1 ?_; refine nl ?_; refine rt ?_
    exact en (.inl rfl) rfl (pk1 (pkv _)) (by decide) (fun _ => trivial) rfl
end Go.Proofs.YtogaallfhifngaaGreat

