/- Part 10 of a proof: C1 to B3. -/
import Derived.Test.YtofllcodkcjajaaGreatM9
import Derived.Test.YtofllcodkcjajaaGreatM5
set_option maxRecDepth 100000
set_option linter.unusedVariables false
set_option linter.unusedSimpArgs false
namespace Go.Proofs.YtofllcodkcjajaaGreat
open Go Go.RowKit
theorem p_Mul {a b : Fr4} {p q : Rat} (ha : Qn a p) (hb : Qn b q) : Spec true Tryz.prog 74 [] [qF a, qF b] (Ret (qO (p * q))) := by
 refine fn0 Tryz.func74 rfl Tryz.ntmps74 rfl ttok rfl fun N w c0 h0 => ?_
 have hs := ha.sz; have hs' := hb.sz
 have hs1 := hs.1; have hs2 := hs.2; have hs3 := hs'.1; have hs4 := hs'.2
 have hs5 : (dg 4294967296 ((p.den : Int)).natAbs).length ≤ 68719476736 := hs2
 have hs6 : (dg 4294967296 ((q.den : Int)).natAbs).length ≤ 68719476736 := hs4
 refine sq ?_; refine rl ?_; refine bx 0 ?_; refine bx 1 ?_; refine al 2 ?_; refine nl ?_
 refine md (γ := Unit) (fun _ => frL [(2, .one (.pt 0 0)), (3, .one (.pt 1 0)), (4, .one (.pt 2 0))]) (fun _ => ([⟨26, 0, ((Fr4.of p).tr false).map .t⟩, ⟨26, 0, ((Fr4.of q).tr false).map .t⟩, ⟨26, 0, [tv (.bool false), tv (.slice none 0 0), tv (.bool false), tv (.slice none 0 0)]⟩] : List Ob).map some) (fun _ => True) ?_ fun _ _ => ?_
 ·refine rd [0, 1, 2] (fun i => [0, 1, 2, 3, 4, 5].contains i) mixed ?_
  refine WO.two (i := 0) (j := 2) (by kernel_rfl) ?_ ?_
  ·refine old 0 ?_; refine WO.two (i := 1) (j := 2) (by kernel_rfl) ?_ ?_
   ·refine oca 1 rfl (p_right ha) ok75 ⟨a1g rfl, rfl⟩ (qF (.of p)) ?_; refine WO.one (by kernel_rfl) (old 2 ?_)
    refine dca 3 rfl (p_right hb) ok75 ⟨a1g rfl, rfl⟩ (qF (.of q)) ?_; refine dst 4 ?_; refine dst 5 ?_; refine dz0 ?_
    exact ⟨(), trivial, su0 h0 [0, 1, 2] _ _ (by decide) ⟨rfl, rfl, rfl, trivial⟩ ⟨oe rfl rfl, oe rfl rfl, oe rfl rfl, rfl⟩⟩
   refine old 2 ?_; refine dca 1 rfl (p_right ha) ok75 ⟨a1g rfl, rfl⟩ (qF (.of p)) ?_; refine dca 3 rfl (p_right hb) ok75 ⟨a1g rfl, rfl⟩ (qF (.of q)) ?_; refine dst 4 ?_; refine dst 5 ?_
   refine dz0 ?_; exact ⟨(), trivial, su0 h0 [0, 1, 2] _ _ (by decide) ⟨rfl, rfl, rfl, trivial⟩ ⟨oe rfl rfl, oe rfl rfl, oe rfl rfl, rfl⟩⟩
  refine old 2 ?_; refine WO.one (by kernel_rfl) (old 0 ?_)
  refine dca 1 rfl (p_right ha) ok75 ⟨a1g rfl, rfl⟩ (qF (.of p)) ?_; refine dca 3 rfl (p_right hb) ok75 ⟨a1g rfl, rfl⟩ (qF (.of q)) ?_; refine dst 4 ?_; refine dst 5 ?_; refine dz0 ?_
  exact ⟨(), trivial, su0 h0 [0, 1, 2] _ _ (by decide) ⟨rfl, rfl, rfl, trivial⟩ ⟨oe rfl rfl, oe rfl rfl, oe rfl rfl, rfl⟩⟩
 refine sq ?_; refine rd [0, 1, 2] (fun i => [11].contains i) mixed ?_
 refine dv 0 ?_; refine dld 1 ?_; refine dv 2 ?_; refine dld 3 ?_; refine dv 5 ?_; refine dld 6 ?_; refine dv 7 ?_; refine dld 8 ?_; have hn1 := mulz_len (p.num) (q.num)
 refine dca 4 rfl (p_bMul (zn_num hs) (zn_num hs')) ok116 ⟨a1g rfl, a1g rfl, rfl⟩ (kF ((p.num * q.num))) ?_; have hn2 := mulz_len ((p.den : Int)) ((q.den : Int))
 refine dca 9 rfl (p_bMul (zn_den hs) (zn_den hs')) ok116 ⟨a1g rfl, a1g rfl, rfl⟩ (kF (((p.den : Int) * (q.den : Int)))) ?_
 refine dck 3 10 rfl (p_reduced (Zn.of (k := (p.num * q.num)) (by omega)) (Zn.of (k := ((p.den : Int) * (q.den : Int))) (by omega)) (den_nz p q)) ok115 ⟨a1g rfl, a1g rfl, rfl⟩ ?_
 refine dst 11 ?_; refine dz0 ?_; refine rt ?_
 exact en (.inl rfl) rfl (pk1 (.agg (.cons (.id rfl) (.cons (.sl (trs := u32T (dg 4294967296 (Rat.divInt (p.num * q.num) ((p.den : Int) * (q.den : Int))).num.natAbs)) rfl rfl (tk_u32 _) (ln_u32 _)) (.cons (.id rfl) (.cons (.sl (trs := u32T (dg 4294967296 (Rat.divInt (p.num * q.num) ((p.den : Int) * (q.den : Int))).den)) rfl rfl (tk_u32 _) (ln_u32 _)) .nil)))))) (by decide) (fun _ => nofr_q _) (congrArg qO (mul_q p q))
theorem p_more {a b : Fr4} {p q : Rat} (ha : Qn a p) (hb : Qn b q) : Spec true Tryz.prog 160 [] [qF a, qF b] (Ret (.one (tv (.bool (decide (p < q)))))) := by
 refine fn0 Tryz.func160 rfl Tryz.ntmps160 rfl ttok rfl fun N w c0 h0 => ?_
 refine sq ?_; refine rl ?_; refine bx 0 ?_; refine bx 1 ?_; refine o1 ?_; refine nl ?_; refine sq ?_; refine rl ?_; refine ld ?_; refine o1 ?_; refine ld ?_
 refine ca (p_Cmp hb ha) ok81 ⟨a1g rfl, a1g rfl, rfl⟩ (.one (tv (.int .i64 (q - p).num.sign))) ?_; refine o1 ?_; refine o1 ?_; refine nl ?_; refine rt ?_
 exact en (.inl rfl) rfl (pk1 (pkv _)) (by decide) (fun _ => trivial) (congrArg (fun z => FV.one (tv (.bool z))) (gt_sign p q))
theorem p_Max1 {a : Fr4} : Spec false Tryz.prog 159 [] [qF a] (Ret (.one (.t (.f 160 [.a (a.tr false)] [])))) := by
 refine fn0 Tryz.func159 rfl Tryz.ntmps159 rfl ttok rfl fun N w c0 h0 => ?_
 refine sq ?_; refine rl ?_; refine bx 0 ?_; refine o1 ?_; refine nl ?_; refine sq ?_; refine rl ?_; refine ld ?_; refine o1 ?_; refine o1 ?_; refine nl ?_; refine rt ?_
 exact en (.inl rfl) rfl (pk1 (.one (.id rfl))) (by decide) (fun h => by cases h) rfl
theorem p_bestX {a : Fr4} {p : Rat} {xs : List Fr4} (ha : Qn a p) (hx : ∀ x ∈ xs, x.ok) (hl : xs.length ≤ 1099511627776) : Spec false Tryz.prog 158 [] [qF a, .one (.t (sQ false xs)), .one (.t (.f 159 [] []))] (Ret (qF (.of (qmax p (xs.map Fr4.q))))) := by
 refine fn0 Tryz.func158 rfl Tryz.ntmps158 rfl ttok rfl fun N w c0 h0 => ?_
 have hz : ∀ x ∈ xs, Sz 68719476736 x.q := fun x h => (show Qn x x.q from ⟨hx x h, rfl⟩).sz
 refine sq ?_; refine rl ?_; refine bx 0 ?_; refine al 1 ?_; refine nl ?_; refine sq ?_; refine rl ?_; refine ld ?_; refine ca (p_right ha) ok75 ⟨a1g rfl, rfl⟩ (qF (.of p)) ?_
 refine ca (c_rWhole (z := 0) (by omega) (by omega)) ok69 ⟨a1 rfl, rfl⟩ (qF (.of ((0 : Int) : Rat))) ?_
 refine ca (p_add0 ha.sz) ok111 ⟨a1g rfl, a1g rfl, rfl⟩ (qF (.of p)) ?_; refine al 2 ?_; refine st ?_; refine nl ?_; refine sq ?_; refine sq ?_; refine rl ?_; (iterate 3 refine o1 ?_); refine nl ?_
 refine bl ?_
 refine lp (γ := Nat) (fun k => frL [(2, .one (.t (.f 159 [] []))), (6, .one (.pt 0 0)), (7, .one (.pt 1 0)), (14, .one (.t (sQ false xs))), (15, .one (tv (.int .i64 ((xs.length : Nat) : Int)))), (16, .one (tv (.int .i64 ((k : Nat) : Int))))]) (fun k => [(⟨26, 0, [tv (.bool false), tv (.slice none 0 0), tv (.bool false), tv (.slice none 0 0)]⟩ : Ob), ⟨26, 0, ((Fr4.of (qmax p ((xs.take k).map Fr4.q))).tr false).map .t⟩].map some) (fun k => k ≤ xs.length ∧ Sz 68719476736 (qmax p ((xs.take k).map Fr4.q))) (fun k => xs.length - k) 0 ⟨Nat.zero_le _, ha.sz⟩ (su0 h0 [1, 2] _ _ (by decide) ⟨rfl, rfl, rfl, rfl, rfl, rfl, trivial⟩ ⟨oe rfl rfl, oet rfl, rfl⟩) fun k hk => ?_
 refine sq ?_; refine rl ?_; refine o1 ?_; refine nl ?_; refine sq ?_; refine cdp rfl (fun h1 => ?_) (fun h1 => ?_)
 ·refine sk ?_; refine sq ?_; refine bl ?_; refine sq ?_; refine rl ?_; refine o1 ?_; refine ldf ((nthF xs (k)).tr false) (rat_at xs (k := k) (by omega)) ?_
  refine al 2 ?_; refine st ?_; refine nl ?_; refine sq ?_; refine rd [0, 1, 2] (fun i => [].contains i) mixed ?_
  refine dv 0 ?_; refine dld 1 ?_; refine dv 2 ?_; refine dld 4 ?_
  refine dce 3 3 [.agg [tv (.bool (sgz (qmax p ((xs.take k).map Fr4.q)).num)), .t (sU false (dg 4294967296 (qmax p ((xs.take k).map Fr4.q)).num.natAbs)), tv (.bool false), .t (sU false (dg 4294967296 (qmax p ((xs.take k).map Fr4.q)).den))]] rfl rfl (p_Max1 (a := .of (qmax p ((xs.take k).map Fr4.q)))) ok159 ⟨rfl, rfl⟩ ?_
  refine dce 5 3 [qF (nthF xs (k))] rfl rfl (p_more (a := .of (qmax p ((xs.take k).map Fr4.q))) (b := (nthF xs (k))) (Qn.of (p := (qmax p ((xs.take k).map Fr4.q))) hk.2) ⟨hx _ (nthF_mem (by omega)), rfl⟩) ok160 ⟨rfl, rfl⟩ ?_
  refine dz0 ?_; refine cdp rfl (fun h2 => ?_) (fun h2 => ?_)
  ·refine rl ?_; refine ld ?_; refine ca (p_right ⟨hx _ (nthF_mem (by omega)), rfl⟩) ok75 ⟨a1g rfl, rfl⟩ (qF (.of (nthF xs (k)).q)) ?_
   refine ca (c_rWhole (z := 0) (by omega) (by omega)) ok69 ⟨a1 rfl, rfl⟩ (qF (.of ((0 : Int) : Rat))) ?_
   refine ca (p_add0 (hz _ (nthF_mem (by omega)))) ok111 ⟨a1g rfl, a1g rfl, rfl⟩ (qF (.of (nthF xs (k)).q)) ?_
   refine st ?_; refine nl ?_; refine rl ?_; refine o1 ?_; refine WL.cast (t := 30) (u' := .int .i64 ((k + 1 : Nat) : Int)) rfl (cint (by omega)) ?_
   refine o1 ?_; refine nl ?_; have hst : (qmax p ((xs.take (k + 1)).map Fr4.q)) = (nthF xs k).q := by rw [take_q (by omega), qmax_snoc]; exact if_pos h2
   exact ⟨k + 1, by omega, ⟨by omega, by rw [hst]; exact hz _ (nthF_mem (by omega))⟩, su0 h0 [0, 1] _ _ (by decide) ⟨rfl, rfl, rfl, rfl, rfl, rfl, trivial⟩ ⟨oe rfl rfl, oet (congrArg (fun q => some (⟨26, 0, ((Fr4.of q).tr false).map .t⟩ : Ob)) hst.symm), rfl⟩⟩
  refine sk ?_; refine rl ?_; refine o1 ?_; refine WL.cast (t := 30) (u' := .int .i64 ((k + 1 : Nat) : Int)) rfl (cint (by omega)) ?_
  refine o1 ?_; refine nl ?_; have hst : (qmax p ((xs.take (k + 1)).map Fr4.q)) = (qmax p ((xs.take k).map Fr4.q)) := by rw [take_q (by omega), qmax_snoc]; exact if_neg h2
  exact ⟨k + 1, by omega, ⟨by omega, by rw [hst]; exact hk.2⟩, su0 h0 [0, 1] _ _ (by decide) ⟨rfl, rfl, rfl, rfl, rfl, rfl, trivial⟩ ⟨oe rfl rfl, oet (congrArg (fun q => some (⟨26, 0, ((Fr4.of q).tr false).map .t⟩ : Ob)) hst.symm), rfl⟩⟩
 refine ex ?_; refine sq ?_; refine rl ?_; refine ld ?_; refine st ?_; refine nl ?_; refine rt ?_
 exact en (.inl rfl) rfl (pk1 (.agg (.cons (.id rfl) (.cons (.id rfl) (.cons (.id rfl) (.cons (.id rfl) .nil)))))) (by decide) (fun h => by cases h) (by rw [List.take_of_length_le (by omega)]; rfl)
theorem p_Max {a : Fr4} {p : Rat} {xs : List Fr4} (ha : Qn a p) (hx : ∀ x ∈ xs, x.ok) (hl : xs.length ≤ 1099511627776) : Spec false Tryz.prog 122 [] [qF a, .one (.t (sQ false xs))] (Ret (qF (.of (qmax p (xs.map Fr4.q))))) := by
 refine fn0 Tryz.func122 rfl Tryz.ntmps122 rfl ttok rfl fun N w c0 h0 => ?_
 refine sq ?_; refine rl ?_; refine bx 0 ?_; refine al 1 ?_; refine nl ?_; refine sq ?_; refine rl ?_; refine ld ?_; refine o1 ?_
 refine ca (p_bestX ha hx hl) ok158 ⟨a1g rfl, a1 rfl, a1 rfl, rfl⟩ (qF (.of (qmax p (xs.map Fr4.q)))) ?_; refine st ?_; refine nl ?_; refine rt ?_
 exact en (.inl rfl) rfl (pk1 (.agg (.cons (.id rfl) (.cons (.id rfl) (.cons (.id rfl) (.cons (.id rfl) .nil)))))) (by decide) (fun h => by cases h) (rfl)
theorem m_zero : Spec true Tryz.prog 84 [] [] (Ret (qO ((0 : Int) : Rat))) := by
 refine fn0 Tryz.func84 rfl Tryz.ntmps84 rfl ttok rfl fun N w c0 h0 => ?_
 refine sq ?_; refine rl ?_; refine al 0 ?_; refine nl ?_; refine sq ?_; refine rl ?_; refine cak 1 (c_rWhole (z := 0) (by omega) (by omega)) ok69 ⟨a1 rfl, rfl⟩ ?_
 refine st ?_; refine nl ?_; refine rt ?_
 exact en (.inl rfl) rfl (pk1 (.agg (.cons (.id rfl) (.cons (.sl (trs := u32T (dg 4294967296 ((0 : Int) : Rat).num.natAbs)) rfl rfl (tk_u32 _) (ln_u32 _)) (.cons (.id rfl) (.cons (.sl (trs := u32T (dg 4294967296 ((0 : Int) : Rat).den)) rfl rfl (tk_u32 _) (ln_u32 _)) .nil)))))) (by decide) (fun _ => nofr_q _) rfl
theorem z0_ok : (Fr4.of ((0 : Int) : Rat)).ok := (Qn.of (p := ((0 : Int) : Rat)) ((int_sz (z := 0) (by omega) (by omega)).mono (M := 68719476736) (by omega))).1
theorem p_Max0 {a : Fr4} {p : Rat} (ha : Qn a p) : Spec false Tryz.prog 122 [] [qF a, .one (.t (sQ false [Fr4.of ((0 : Int) : Rat)]))] (Ret (qF (.of (abv p)))) := by
 have h := p_Max (a := a) (xs := [Fr4.of ((0 : Int) : Rat)]) ha (fun x hx => by rw [List.mem_singleton] at hx; rw [hx]; exact z0_ok) (by simp)
 have e : [Fr4.of ((0 : Int) : Rat)].map Fr4.q = [0] := by rw [List.map_cons, Fr4.q_of]; rfl
 rwa [e] at h
theorem m_above {a : Fr4} {p : Rat} (ha : Qn a p) : Spec false Tryz.prog 83 [] [qF a] (Ret (qF (.of (abv p)))) := by
 refine fn0 Tryz.func83 rfl Tryz.ntmps83 rfl ttok rfl fun N w c0 h0 => ?_
 refine sq ?_; refine rl ?_; refine bx 0 ?_; refine al 1 ?_; refine nl ?_; refine sq ?_; refine rd [0, 1] (fun i => [3, 4].contains i) mixed ?_
 refine dld 0 ?_; refine dca 1 rfl (m_zero) ok84 rfl (qF (.of ((0 : Int) : Rat))) ?_; refine d_bs (key := 2) 2 (by kernel_rfl) rfl rfl ttok rfl ⟨rfl, rfl, trivial⟩ ?_
 refine dfz (i := 5) (k := 2) (t := 26) (t' := 49) (z := 4) (n := 1) (l := [Fr4.of ((0 : Int) : Rat)].flatMap (Fr4.tr false)) rfl rfl rfl rfl (.one .sl) (by rfl) (by rfl) ?_
 refine dca 3 rfl (p_Max0 ha) ok122 ⟨a1g rfl, a1 rfl, rfl⟩ (qF (.of (abv p))) ?_; refine dst 4 ?_; refine dz0 ?_; refine rt ?_
 exact en (.inl rfl) rfl (pk1 (.agg (.cons (.id rfl) (.cons (.id rfl) (.cons (.id rfl) (.cons (.id rfl) .nil)))))) (by decide) (fun h => by cases h) (rfl)
theorem m_limit {c a b : Fr4} {q p : Rat} {bk fw : Int} (hc : Qn c q) (ha : Qn a p) : Spec false Tryz.prog 82 [] [.agg ((c.tr false ++ [.v (.int .i64 bk), .v (.int .i64 fw)] : List Tr).map .t), .agg ((ytr (a, b)).map .t)] (Ret (qO (q * abv p))) := by
 refine fn0 Tryz.func82 rfl Tryz.ntmps82 rfl ttok rfl fun N w c0 h0 => ?_
 have hs : Sz 68719476736 (abv p) := abv_szm ha.sz (by omega)
 refine sq ?_; refine rl ?_; refine bx 0 ?_; refine bx 1 ?_; refine al 2 ?_; refine nl ?_; refine sq ?_; refine rd [0, 1, 2] (fun i => [6].contains i) mixed ?_
 refine dv 0 ?_; refine dld 1 ?_; refine dv 2 ?_; refine dld 3 ?_; refine dca 4 rfl (m_above ha) ok83 ⟨a1g rfl, rfl⟩ (qF (.of (abv p))) ?_
 refine dck 3 5 rfl (p_Mul hc (Qn.of (p := (abv p)) hs)) ok74 ⟨a1g rfl, a1g rfl, rfl⟩ ?_; refine dst 6 ?_; refine dz0 ?_; refine rt ?_
 exact en (.inl rfl) rfl (pk1 (.agg (.cons (.id rfl) (.cons (.sl (trs := u32T (dg 4294967296 (q * abv p).num.natAbs)) rfl rfl (tk_u32 _) (ln_u32 _)) (.cons (.id rfl) (.cons (.sl (trs := u32T (dg 4294967296 (q * abv p).den)) rfl rfl (tk_u32 _) (ln_u32 _)) .nil)))))) (by decide) (fun h => by cases h) rfl
theorem ix_Year {xs : List (Fr4 × Fr4)} {dl : (Fr4 × Fr4) → Bool} {fd : FuncId} {fst caps : List Tr} (hok : CallOk Tryz.prog fd) (hd : ∀ x ∈ xs, Spec true Tryz.prog fd [] (capF fst ++ [.agg ((ytr x).map .t)] ++ capF caps) (Ret (.one (tv (.bool (dl x)))))) (hl : xs.length ≤ 1073741823) : Spec true Tryz.prog 119 [] [.one (.t (sMy xs)), .one (.t (.f fd fst caps))] (Ret (.one (tv (.int .i64 (ixZ dl xs))))) := by
 refine fn0 Tryz.func119 rfl Tryz.ntmps119 rfl ttok rfl fun N w c0 h0 => ?_
 refine sq ?_; refine rl ?_; refine o1 ?_; refine nl ?_; refine sq ?_; refine sq ?_; refine rl ?_; (iterate 3 refine o1 ?_); refine nl ?_; refine bl ?_
 refine lp (γ := Nat) (fun k => frL [(0, .one (.t (sMy xs))), (1, .one (.t (.f fd fst caps))), (7, .one (tv (.int .i64 ((xs.length : Nat) : Int)))), (8, .one (tv (.int .i64 ((k : Nat) : Int))))]) (fun k => [].map some) (fun k => k ≤ xs.length ∧ k ≤ ixG dl xs) (fun k => xs.length - k) 0 (⟨Nat.zero_le _, Nat.zero_le _⟩) (su0 h0 [] _ _ (by decide) ⟨rfl, rfl, rfl, rfl, trivial⟩ rfl) fun k hk => ?_
 refine sq ?_; refine rl ?_; refine o1 ?_; refine nl ?_; refine sq ?_; refine cdp rfl (fun h1 => ?_) (fun h1 => ?_)
 ·refine sk ?_; refine sq ?_; refine bl ?_; refine sq ?_; refine rl ?_; refine o1 ?_; refine o1 ?_; refine nl ?_; refine sq ?_; refine rl ?_; (iterate 4 refine o1 ?_)
  refine ldf (ytr (nthY xs (k))) (flat_sub' (f := ytr) (z := 8) (o := 0) ytr_len (nthY_get (by omega)) (Nat.le_of_ble_eq_true rfl) rfl) ?_
  refine ce 0 [.agg ((ytr (nthY xs (k))).map .t)] rfl (hd (nthY xs (k)) (nthY_mem (by omega))) hok ⟨rfl, rfl⟩ ?_
  refine nl ?_; refine cdq rfl (fun h2 => ?_) (fun h2 => ?_)
  ·refine sq ?_; refine rl ?_; refine o1 ?_; refine o1 ?_; refine nl ?_; refine rt ?_; have hx9 := (ixG_step hk.2 (by omega)).1 h2
   exact en (.inl rfl) rfl (pk1 (pkv _)) (by decide) (fun _ => trivial) (congrArg (fun z => FV.one (tv (.int .i64 z))) (by unfold ixZ; rw [hx9, if_neg (by omega)]))
  refine sk ?_; refine rl ?_; refine o1 ?_; refine WL.cast (t := 18) (u' := .int .i64 ((k + 1 : Nat) : Int)) rfl (cint (by omega)) ?_
  refine o1 ?_; refine nl ?_; exact ⟨k + 1, by omega, ⟨by omega, (ixG_step hk.2 (by omega)).2 h2⟩, su0 h0 [] _ _ (by decide) ⟨rfl, rfl, rfl, rfl, trivial⟩ rfl⟩
 refine ex ?_; refine sq ?_; refine rl ?_; refine o1 ?_; refine nl ?_; refine rt ?_; have hx9 := ixG_le (dl := dl) xs
 exact en (.inl rfl) rfl (pk1 (pkv _)) (by decide) (fun _ => trivial) (congrArg (fun z => FV.one (tv (.int .i64 z))) (by unfold ixZ; rw [if_pos (by omega)]))
theorem cf_Year {xs : List (Fr4 × Fr4)} {dl : (Fr4 × Fr4) → Bool} {fd : FuncId} {fst caps : List Tr} (hok : CallOk Tryz.prog fd) (hd : ∀ x ∈ xs, Spec true Tryz.prog fd [] (capF fst ++ [.agg ((ytr x).map .t)] ++ capF caps) (Ret (.one (tv (.bool (dl x)))))) (hl : xs.length ≤ 1073741823) : Spec true Tryz.prog 77 [] [.one (.t (sMy xs)), .one (.t (.f fd fst caps))] (Ret (.one (tv (.bool (xs.any dl))))) := by
 refine fn0 Tryz.func77 rfl Tryz.ntmps77 rfl ttok rfl fun N w c0 h0 => ?_
 refine sq ?_; refine rl ?_; refine o1 ?_; refine nl ?_; refine sq ?_; refine rl ?_; refine o1 ?_; refine o1 ?_
 refine ca (ix_Year hok hd hl) ok119 ⟨a1 rfl, a1 rfl, rfl⟩ (.one (tv (.int .i64 (ixZ dl xs)))) ?_; refine o1 ?_; refine o1 ?_; refine nl ?_; refine rt ?_
 exact en (.inl rfl) rfl (pk1 (pkv _)) (by decide) (fun _ => trivial) (congrArg (fun z => FV.one (tv (.bool z))) (ixZ_any xs))
def badY (c : Fr4) (y : Fr4 × Fr4) : Bool := !(rightQ y.1.s y.1.x y.1.t y.1.y) || (!(rightQ y.2.s y.2.x y.2.t y.2.y) || (decide (y.2.q.num.sign < 0) || decide (0 < (y.2.q - c.q * abv y.1.q).num.sign)))
def badR (c : Fr4) (bk fw : Int) : Bool := !(rightQ c.s c.x c.t c.y) || (decide (c.q.num.sign < 0) || (decide (0 < (c.q - ((1 : Int) : Rat)).num.sign) || (decide (bk < 0) || (decide (3 < bk) || (decide (fw < 0) || decide (40 < fw))))))
def mayE (c : Fr4) (bk fw : Int) (ys : List (Fr4 × Fr4)) : Int := if badR c bk fw || ys.any (badY c) then 2 else if decide ((40 : Int) < (ys.length : Int)) then 3 else 0
theorem m_may1 {c : Fr4} {bk fw : Int} {y : Fr4 × Fr4} (hc : c.ok) (hy : y.1.ok ∧ y.2.ok) (hs : Sz 68719476736 (c.q * abv y.1.q)) : Spec true Tryz.prog 78 [] [.agg ((ytr y).map .t), .one (.t (.p false 28 [.v (.bool c.s), sU false c.x, .v (.bool c.t), sU false c.y, .v (.int .i64 bk), .v (.int .i64 fw)]))] (Ret (.one (tv (.bool (badY c y))))) := by
 refine fn0 Tryz.func78 rfl Tryz.ntmps78 rfl ttok rfl fun N w c0 h0 => ?_
 refine WP.sub (pef (i := 1) rfl rfl) ?_; refine sq ?_; refine rl ?_; refine bx 0 ?_; refine o1 ?_; refine nl ?_; refine sq ?_; refine rd [0] (fun i => [25].contains i) mixed ?_
 refine dv 0 ?_; refine dld 1 ?_; refine dca 2 rfl (c_rRight (⟨hy.1, rfl⟩ : Qn y.1 y.1.q).1) ok79 ⟨a1g rfl, rfl⟩ (.one (tv (.bool (rightQ y.1.s y.1.x y.1.t y.1.y)))) ?_
 refine WD.splitb (t := 6) rfl (fun h1 => ?_) (fun h1 => ?_)
 ·refine df 3 ?_; refine df 4 ?_; refine dv 5 ?_; refine dld 6 ?_
  refine dca 7 rfl (c_rRight (⟨hy.2, rfl⟩ : Qn y.2 y.2.q).1) ok79 ⟨a1g rfl, rfl⟩ (.one (tv (.bool (rightQ y.2.s y.2.x y.2.t y.2.y)))) ?_; refine WD.splitb (t := 11) rfl (fun h2 => ?_) (fun h2 => ?_)
  ·refine df 8 ?_; refine df 9 ?_; refine df 10 ?_; refine dv 11 ?_; refine dld 12 ?_
   refine dca 13 rfl (p_Sign (⟨hy.2, rfl⟩ : Qn y.2 y.2.q)) ok80 ⟨a1g rfl, rfl⟩ (.one (tv (.int .i64 y.2.q.num.sign))) ?_; refine df 14 ?_; refine df 15 ?_; refine df 16 ?_
   refine WD.split (t := 20) rfl rfl (fun h3 => ?_) (fun h3 => ?_)
   ·refine dno 17 ?_; refine dno 18 ?_; refine dno 19 ?_; refine dno 20 ?_; refine dno 21 ?_; refine dno 22 ?_; refine dno 23 ?_; refine df 24 ?_
    refine d_v 25 (by kernel_rfl) rfl rfl ttok rfl (by trivial) ?_ (fun h => by first | rfl | cases h)
    refine dz0 ?_; refine rt ?_
    exact en (.inl rfl) rfl (pk1 (pkv _)) (by decide) (fun _ => trivial) (congrArg (fun z => FV.one (tv (.bool z))) (by simp only [badY, h1, h2, decide_eq_true h3, Bool.not_true, Bool.not_false, Bool.or_true, Bool.true_or, Bool.false_or, Bool.or_false, Bool.false_eq_true, if_true, if_false, ite_true, ite_false, Bool.and_true, Bool.true_and, Bool.false_and, Bool.and_false]))
   refine dv 17 ?_; refine dld 18 ?_; refine dlr 19 ([.v (.bool c.s), sU false c.x, .v (.bool c.t), sU false c.y, .v (.int .i64 bk), .v (.int .i64 fw)]) rfl ?_; refine dld 20 ?_
   refine dca 21 rfl (m_limit (b := y.2) (⟨hc, rfl⟩ : Qn c c.q) (⟨hy.1, rfl⟩ : Qn y.1 y.1.q)) ok82 ⟨a1g rfl, a1g rfl, rfl⟩ (qF (.of (c.q * abv y.1.q))) ?_
   refine dca 22 rfl (p_Cmp (⟨hy.2, rfl⟩ : Qn y.2 y.2.q) (Qn.of (p := (c.q * abv y.1.q)) hs)) ok81 ⟨a1g rfl, a1g rfl, rfl⟩ (.one (tv (.int .i64 (y.2.q - (c.q * abv y.1.q)).num.sign))) ?_
   refine df 23 ?_; refine df 24 ?_; refine d_v 25 (by kernel_rfl) rfl rfl ttok rfl (by trivial) ?_ (fun h => by first | rfl | cases h)
   refine dz0 ?_; refine rt ?_
   exact en (.inl rfl) rfl (pk1 (pkv _)) (by decide) (fun _ => trivial) (congrArg (fun z => FV.one (tv (.bool z))) (by simp only [badY, h1, h2, decide_eq_false h3, Bool.not_true, Bool.not_false, Bool.or_true, Bool.true_or, Bool.false_or, Bool.or_false, Bool.false_eq_true, if_true, if_false, ite_true, ite_false, Bool.and_true, Bool.true_and, Bool.false_and, Bool.and_false]))
  refine df 8 ?_; refine df 9 ?_; refine df 10 ?_; refine dno 11 ?_; refine dno 12 ?_; refine dno 13 ?_; refine dno 14 ?_; refine df 15 ?_; refine df 16 ?_; refine dno 17 ?_; refine dno 18 ?_
  refine dno 19 ?_; refine dno 20 ?_; refine dno 21 ?_; refine dno 22 ?_; refine dno 23 ?_; refine df 24 ?_
  refine d_v 25 (by kernel_rfl) rfl rfl ttok rfl (by trivial) ?_ (fun h => by first | rfl | cases h)
  refine dz0 ?_; refine rt ?_
  exact en (.inl rfl) rfl (pk1 (pkv _)) (by decide) (fun _ => trivial) (congrArg (fun z => FV.one (tv (.bool z))) (by simp only [badY, h1, h2, Bool.not_true, Bool.not_false, Bool.or_true, Bool.true_or, Bool.false_or, Bool.or_false, Bool.false_eq_true, if_true, if_false, ite_true, ite_false, Bool.and_true, Bool.true_and, Bool.false_and, Bool.and_false]))
 refine df 3 ?_; refine df 4 ?_; refine dno 5 ?_; refine dno 6 ?_; refine dno 7 ?_; refine dno 8 ?_; refine df 9 ?_; refine df 10 ?_; refine dno 11 ?_; refine dno 12 ?_; refine dno 13 ?_
 refine dno 14 ?_; refine df 15 ?_; refine df 16 ?_; refine dno 17 ?_; refine dno 18 ?_; refine dno 19 ?_; refine dno 20 ?_; refine dno 21 ?_; refine dno 22 ?_; refine dno 23 ?_; refine df 24 ?_
 refine d_v 25 (by kernel_rfl) rfl rfl ttok rfl (by trivial) ?_ (fun h => by first | rfl | cases h)
 refine dz0 ?_; refine rt ?_
 exact en (.inl rfl) rfl (pk1 (pkv _)) (by decide) (fun _ => trivial) (congrArg (fun z => FV.one (tv (.bool z))) (by simp only [badY, h1, Bool.not_true, Bool.not_false, Bool.or_true, Bool.true_or, Bool.false_or, Bool.or_false, Bool.false_eq_true, if_true, if_false, ite_true, ite_false, Bool.and_true, Bool.true_and, Bool.false_and, Bool.and_false]))
theorem m_may {c : Fr4} {bk fw : Int} {ys : List (Fr4 × Fr4)} (hc : c.ok) (hy : ∀ y ∈ ys, y.1.ok ∧ y.2.ok) (hs : ∀ y ∈ ys, Sz 68719476736 (c.q * abv y.1.q)) (hl : ys.length ≤ 1073741823) : Spec true Tryz.prog 35 [] [.agg ((c.tr false ++ [.v (.int .i64 bk), .v (.int .i64 fw)] : List Tr).map .t), .one (.t (sMy ys))] (Ret (.one (tv (.int .i64 (mayE c bk fw ys))))) := by
 refine fn0 Tryz.func35 rfl Tryz.ntmps35 rfl ttok rfl fun N w c0 h0 => ?_
 have hs1 : Sz 68719476736 ((1 : Int) : Rat) := (int_sz (z := 1) (by omega) (by omega)).mono (by omega)
 refine sq ?_; refine rl ?_; refine bx 0 ?_
 refine WL.sub (fzp (i := 2) (k := 0) (t := 28) (l := [.v (.bool c.s), sU false c.x, .v (.bool c.t), sU false c.y, .v (.int .i64 bk), .v (.int .i64 fw)]) rfl rfl rfl (.one .sl)) ?_; refine o1 ?_
 refine nl ?_; refine sq ?_; refine rl ?_; refine o1 ?_; refine o1 ?_
 refine ca (cf_Year (fst := []) (caps := [.p false 28 [.v (.bool c.s), sU false c.x, .v (.bool c.t), sU false c.y, .v (.int .i64 bk), .v (.int .i64 fw)]]) ok78 (fun x hx => m_may1 (bk := bk) (fw := fw) hc (hy x hx) (hs x hx)) hl) ok77 ⟨a1 rfl, a1 rfl, rfl⟩ (.one (tv (.bool (ys.any (badY c))))) ?_
 refine o1 ?_; refine nl ?_; refine sq ?_; refine bl ?_; refine sq ?_; refine WP.sub (pef (i := 2) rfl rfl) ?_; refine rd [] (fun i => [].contains i) mixed ?_
 refine dv 0 ?_; refine dlr 1 ([.v (.bool c.s), sU false c.x, .v (.bool c.t), sU false c.y]) rfl ?_
 refine dca 2 rfl (c_rRight (⟨hc, rfl⟩ : Qn c c.q).1) ok79 ⟨a1g rfl, rfl⟩ (.one (tv (.bool (rightQ c.s c.x c.t c.y)))) ?_; refine WD.splitb (t := 12) rfl (fun h1 => ?_) (fun h1 => ?_)
 ·refine df 3 ?_; refine df 4 ?_; refine dv 5 ?_; refine dlr 6 ([.v (.bool c.s), sU false c.x, .v (.bool c.t), sU false c.y]) rfl ?_
  refine dca 7 rfl (p_Sign (⟨hc, rfl⟩ : Qn c c.q)) ok80 ⟨a1g rfl, rfl⟩ (.one (tv (.int .i64 c.q.num.sign))) ?_; refine df 8 ?_; refine df 9 ?_; refine df 10 ?_
  refine WD.split (t := 20) rfl rfl (fun h2 => ?_) (fun h2 => ?_)
  ·refine dno 11 ?_; refine dno 12 ?_; refine dno 13 ?_; refine dno 14 ?_; refine dno 15 ?_; refine df 16 ?_; refine df 17 ?_; refine dno 18 ?_; refine dno 19 ?_; refine dno 20 ?_; refine df 21 ?_
   refine df 22 ?_; refine dno 23 ?_; refine dno 24 ?_; refine dno 25 ?_; refine df 26 ?_; refine df 27 ?_; refine dno 28 ?_; refine dno 29 ?_; refine dno 30 ?_; refine df 31 ?_; refine df 32 ?_
   refine dno 33 ?_; refine dno 34 ?_; refine dno 35 ?_; refine df 36 ?_; refine df 37 ?_; refine dno 38 ?_; refine df 39 ?_
   refine d_v 40 (by kernel_rfl) rfl rfl ttok rfl (by trivial) ?_ (fun h => by first | rfl | cases h)
   refine dz0 ?_; refine cdt rfl ?_; refine sq ?_; refine rl ?_; refine o1 ?_; refine nl ?_; refine rt ?_
   exact en (.inl rfl) rfl (pk1 (pkv _)) (by decide) (fun _ => trivial) (congrArg (fun z => FV.one (tv (.int .i64 z))) (by simp only [mayE, badR, h1, decide_eq_true h2, Bool.not_true, Bool.not_false, Bool.or_true, Bool.true_or, Bool.false_or, Bool.or_false, Bool.false_eq_true, if_true, if_false, ite_true, ite_false, Bool.and_true, Bool.true_and, Bool.false_and, Bool.and_false]))
  refine dv 11 ?_; refine dlr 12 ([.v (.bool c.s), sU false c.x, .v (.bool c.t), sU false c.y]) rfl ?_
  refine dca 13 rfl (c_rWhole (z := 1) (by omega) (by omega)) ok69 ⟨a1 rfl, rfl⟩ (qF (.of ((1 : Int) : Rat))) ?_
  refine dca 14 rfl (p_Cmp (⟨hc, rfl⟩ : Qn c c.q) (Qn.of (p := ((1 : Int) : Rat)) hs1)) ok81 ⟨a1g rfl, a1g rfl, rfl⟩ (.one (tv (.int .i64 (c.q - ((1 : Int) : Rat)).num.sign))) ?_; refine df 15 ?_
  refine df 16 ?_; refine df 17 ?_; refine WD.split (t := 27) rfl rfl (fun h3 => ?_) (fun h3 => ?_)
  ·refine dno 18 ?_; refine dno 19 ?_; refine dno 20 ?_; refine df 21 ?_; refine df 22 ?_; refine dno 23 ?_; refine dno 24 ?_; refine dno 25 ?_; refine df 26 ?_; refine df 27 ?_; refine dno 28 ?_
   refine dno 29 ?_; refine dno 30 ?_; refine df 31 ?_; refine df 32 ?_; refine dno 33 ?_; refine dno 34 ?_; refine dno 35 ?_; refine df 36 ?_; refine df 37 ?_; refine dno 38 ?_; refine df 39 ?_
   refine d_v 40 (by kernel_rfl) rfl rfl ttok rfl (by trivial) ?_ (fun h => by first | rfl | cases h)
   refine dz0 ?_; refine cdt rfl ?_; refine sq ?_; refine rl ?_; refine o1 ?_; refine nl ?_; refine rt ?_
   exact en (.inl rfl) rfl (pk1 (pkv _)) (by decide) (fun _ => trivial) (congrArg (fun z => FV.one (tv (.int .i64 z))) (by simp only [mayE, badR, h1, decide_eq_false h2, decide_eq_true h3, Bool.not_true, Bool.not_false, Bool.or_true, Bool.true_or, Bool.false_or, Bool.or_false, Bool.false_eq_true, if_true, if_false, ite_true, ite_false, Bool.and_true, Bool.true_and, Bool.false_and, Bool.and_false]))
  refine dv 18 ?_; refine dlr 19 ([.v (.int .i64 bk)]) rfl ?_; refine dv 20 ?_; refine df 21 ?_; refine df 22 ?_; refine WD.split (t := 32) rfl rfl (fun h4 => ?_) (fun h4 => ?_)
  ·refine dno 23 ?_; refine dno 24 ?_; refine dno 25 ?_; refine df 26 ?_; refine df 27 ?_; refine dno 28 ?_; refine dno 29 ?_; refine dno 30 ?_; refine df 31 ?_; refine df 32 ?_
   refine dno 33 ?_; refine dno 34 ?_; refine dno 35 ?_; refine df 36 ?_; refine df 37 ?_; refine dno 38 ?_; refine df 39 ?_
   refine d_v 40 (by kernel_rfl) rfl rfl ttok rfl (by trivial) ?_ (fun h => by first | rfl | cases h)
   refine dz0 ?_; refine cdt rfl ?_; refine sq ?_; refine rl ?_; refine o1 ?_; refine nl ?_; refine rt ?_
   exact en (.inl rfl) rfl (pk1 (pkv _)) (by decide) (fun _ => trivial) (congrArg (fun z => FV.one (tv (.int .i64 z))) (by simp only [mayE, badR, h1, decide_eq_false h2, decide_eq_false h3, decide_eq_true h4, Bool.not_true, Bool.not_false, Bool.or_true, Bool.true_or, Bool.false_or, Bool.or_false, Bool.false_eq_true, if_true, if_false, ite_true, ite_false, Bool.and_true, Bool.true_and, Bool.false_and, Bool.and_false]))
  refine dv 23 ?_; refine dlr 24 ([.v (.int .i64 bk)]) rfl ?_; refine dv 25 ?_; refine df 26 ?_; refine df 27 ?_; refine WD.split (t := 37) rfl rfl (fun h5 => ?_) (fun h5 => ?_)
  ·refine dno 28 ?_; refine dno 29 ?_; refine dno 30 ?_; refine df 31 ?_; refine df 32 ?_; refine dno 33 ?_; refine dno 34 ?_; refine dno 35 ?_; refine df 36 ?_; refine df 37 ?_
   refine dno 38 ?_; refine df 39 ?_; refine d_v 40 (by kernel_rfl) rfl rfl ttok rfl (by trivial) ?_ (fun h => by first | rfl | cases h)
   refine dz0 ?_; refine cdt rfl ?_; refine sq ?_; refine rl ?_; refine o1 ?_; refine nl ?_; refine rt ?_
   exact en (.inl rfl) rfl (pk1 (pkv _)) (by decide) (fun _ => trivial) (congrArg (fun z => FV.one (tv (.int .i64 z))) (by simp only [mayE, badR, h1, decide_eq_false h2, decide_eq_false h3, decide_eq_false h4, decide_eq_true h5, Bool.not_true, Bool.not_false, Bool.or_true, Bool.true_or, Bool.false_or, Bool.or_false, Bool.false_eq_true, if_true, if_false, ite_true, ite_false, Bool.and_true, Bool.true_and, Bool.false_and, Bool.and_false]))
  refine dv 28 ?_; refine dlr 29 ([.v (.int .i64 fw)]) rfl ?_; refine dv 30 ?_; refine df 31 ?_; refine df 32 ?_; refine WD.split (t := 42) rfl rfl (fun h6 => ?_) (fun h6 => ?_)
  ·refine dno 33 ?_; refine dno 34 ?_; refine dno 35 ?_; refine df 36 ?_; refine df 37 ?_; refine dno 38 ?_; refine df 39 ?_
   refine d_v 40 (by kernel_rfl) rfl rfl ttok rfl (by trivial) ?_ (fun h => by first | rfl | cases h)
   refine dz0 ?_; refine cdt rfl ?_; refine sq ?_; refine rl ?_; refine o1 ?_; refine nl ?_; refine rt ?_
   exact en (.inl rfl) rfl (pk1 (pkv _)) (by decide) (fun _ => trivial) (congrArg (fun z => FV.one (tv (.int .i64 z))) (by simp only [mayE, badR, h1, decide_eq_false h2, decide_eq_false h3, decide_eq_false h4, decide_eq_false h5, decide_eq_true h6, Bool.not_true, Bool.not_false, Bool.or_true, Bool.true_or, Bool.false_or, Bool.or_false, Bool.false_eq_true, if_true, if_false, ite_true, ite_false, Bool.and_true, Bool.true_and, Bool.false_and, Bool.and_false]))
  refine dv 33 ?_; refine dlr 34 ([.v (.int .i64 fw)]) rfl ?_; refine dv 35 ?_; refine df 36 ?_; refine df 37 ?_; refine WD.split (t := 47) rfl rfl (fun h7 => ?_) (fun h7 => ?_)
  ·refine dno 38 ?_; refine df 39 ?_; refine d_v 40 (by kernel_rfl) rfl rfl ttok rfl (by trivial) ?_ (fun h => by first | rfl | cases h)
   refine dz0 ?_; refine cdt rfl ?_; refine sq ?_; refine rl ?_; refine o1 ?_; refine nl ?_; refine rt ?_
   exact en (.inl rfl) rfl (pk1 (pkv _)) (by decide) (fun _ => trivial) (congrArg (fun z => FV.one (tv (.int .i64 z))) (by simp only [mayE, badR, h1, decide_eq_false h2, decide_eq_false h3, decide_eq_false h4, decide_eq_false h5, decide_eq_false h6, decide_eq_true h7, Bool.not_true, Bool.not_false, Bool.or_true, Bool.true_or, Bool.false_or, Bool.or_false, Bool.false_eq_true, if_true, if_false, ite_true, ite_false, Bool.and_true, Bool.true_and, Bool.false_and, Bool.and_false]))
  refine dv 38 ?_; refine df 39 ?_; refine d_v 40 (by kernel_rfl) rfl rfl ttok rfl (by trivial) ?_ (fun h => by first | rfl | cases h)
  refine dz0 ?_; refine cdq rfl (fun h8 => ?_) (fun h8 => ?_)
  ·refine sq ?_; refine rl ?_; refine o1 ?_; refine nl ?_; refine rt ?_
   exact en (.inl rfl) rfl (pk1 (pkv _)) (by decide) (fun _ => trivial) (congrArg (fun z => FV.one (tv (.int .i64 z))) (by simp only [mayE, badR, h1, decide_eq_false h2, decide_eq_false h3, decide_eq_false h4, decide_eq_false h5, decide_eq_false h6, decide_eq_false h7, h8, Bool.not_true, Bool.not_false, Bool.or_true, Bool.true_or, Bool.false_or, Bool.or_false, Bool.false_eq_true, if_true, if_false, ite_true, ite_false, Bool.and_true, Bool.true_and, Bool.false_and, Bool.and_false]))
  refine sq ?_; refine rl ?_; (iterate 4 refine o1 ?_); refine nl ?_; refine cdp rfl (fun h9 => ?_) (fun h9 => ?_)
  ·refine sq ?_; refine rl ?_; refine o1 ?_; refine nl ?_; refine rt ?_
   exact en (.inl rfl) rfl (pk1 (pkv _)) (by decide) (fun _ => trivial) (congrArg (fun z => FV.one (tv (.int .i64 z))) (by simp only [mayE, badR, h1, decide_eq_false h2, decide_eq_false h3, decide_eq_false h4, decide_eq_false h5, decide_eq_false h6, decide_eq_false h7, h8, decide_eq_true h9, Bool.not_true, Bool.not_false, Bool.or_true, Bool.true_or, Bool.false_or, Bool.or_false, Bool.false_eq_true, if_true, if_false, ite_true, ite_false, Bool.and_true, Bool.true_and, Bool.false_and, Bool.and_false]))
  refine sk ?_; refine sq ?_; refine rl ?_; refine o1 ?_; refine nl ?_; refine rt ?_
  exact en (.inl rfl) rfl (pk1 (pkv _)) (by decide) (fun _ => trivial) (congrArg (fun z => FV.one (tv (.int .i64 z))) (by simp only [mayE, badR, h1, decide_eq_false h2, decide_eq_false h3, decide_eq_false h4, decide_eq_false h5, decide_eq_false h6, decide_eq_false h7, h8, decide_eq_false h9, Bool.not_true, Bool.not_false, Bool.or_true, Bool.true_or, Bool.false_or, Bool.or_false, Bool.false_eq_true, if_true, if_false, ite_true, ite_false, Bool.and_true, Bool.true_and, Bool.false_and, Bool.and_false]))
 refine df 3 ?_; refine df 4 ?_; refine dno 5 ?_; refine dno 6 ?_; refine dno 7 ?_; refine dno 8 ?_; refine df 9 ?_; refine df 10 ?_; refine dno 11 ?_; refine dno 12 ?_; refine dno 13 ?_
 refine dno 14 ?_; refine dno 15 ?_; refine df 16 ?_; refine df 17 ?_; refine dno 18 ?_; refine dno 19 ?_; refine dno 20 ?_; refine df 21 ?_; refine df 22 ?_; refine dno 23 ?_; refine dno 24 ?_
 refine dno 25 ?_; refine df 26 ?_; refine df 27 ?_; refine dno 28 ?_; refine dno 29 ?_; refine dno 30 ?_; refine df 31 ?_; refine df 32 ?_; refine dno 33 ?_; refine dno 34 ?_; refine dno 35 ?_
 refine df 36 ?_; refine df 37 ?_; refine dno 38 ?_; refine df 39 ?_; refine d_v 40 (by kernel_rfl) rfl rfl ttok rfl (by trivial) ?_ (fun h => by first | rfl | cases h)
 refine dz0 ?_; refine cdt rfl ?_; refine sq ?_; refine rl ?_; refine o1 ?_; refine nl ?_; refine rt ?_
 exact en (.inl rfl) rfl (pk1 (pkv _)) (by decide) (fun _ => trivial) (congrArg (fun z => FV.one (tv (.int .i64 z))) (by simp only [mayE, badR, h1, Bool.not_true, Bool.not_false, Bool.or_true, Bool.true_or, Bool.false_or, Bool.or_false, Bool.false_eq_true, if_true, if_false, ite_true, ite_false, Bool.and_true, Bool.true_and, Bool.false_and, Bool.and_false]))
def TyAr (P : Program) (t n : Nat) : Prop := ∃ e, P.underlying t = some (.array n e) ∧ Ty1 P e
section
variable {P : Program} {w : World} {ρ : Operand → Value} {d : Option Nat} {ty : TypeId} {pos : String} {af : Array Edge} {gd : Option (Nat × Bool)}
theorem rn_indexA {t n k : Nat} {x ix : Operand} {cs : List Value} {v : Value} {kk : IntKind} (hT : TyAr P t n) (hx : ρ x = .agg cs.toArray) (hi : ρ ix = .int kk (k : Int)) (h1 : k < n) (h : cs[k]? = some v) : (execOp ρ ⟨d, .index t x ix, ty, pos, af, gd⟩).run P w = .ok (.value v) w := by
 obtain ⟨e, e1, hu⟩ := hT
 have hp := part1 (w := w) hu h
 obtain ⟨dd, i, h3, h4, h5, h6⟩ := hu
 have h7 : ((k : Int) < (n : Int)) := by omega
 simp [execOp, hx, hi, Instr.index, asIntOf, run_underlying e1, h1, sizeOf, typeInfo, h5, h6, hp]
 all_goals (intro h9; omega)
theorem rn_buildA {t n : Nat} {z us : List Value} {parts : Array (Nat × Operand)} {ps : List (Nat × Value)} (hT : TyAr P t n) (hZ : TyZ P t z) (hps : (parts.map fun x => (x.1, ρ x.2)) = ps.toArray) (hf : fillL (fun i => some (i * 1, 1)) z ps = some us) :
  (execOp ρ ⟨d, .build t parts, ty, pos, af, gd⟩).run P w = .ok (.value (.agg us.toArray)) w := by
 obtain ⟨e, e1, hu⟩ := hT
 obtain ⟨dd, i', h8, h9, h10, h11⟩ := hu
 obtain ⟨i, v, h3, h4, h5⟩ := hZ
 have hf' := fill_eq _ ps z us hf
 simp only [Nat.mul_one] at hf'
 have hps' : (parts.map fun (x : Nat × Operand) => match x with | (i, x) => (i, ρ x)) = ps.toArray := hps
 simp [execOp, Instr.build, zeroValue, sizeOf, typeInfo, h3, h4, run_underlying e1, hps', h5, h10, h11, hf']
end
def filR : List AV → List (Nat × FV) → Option (List AV)
 | l, [] => some l
 | l, (i, .one a) :: r => match lone a && Nat.blt i l.length with
  | true => filR (l.set i a) r
  | false => none
 | _, _ => none
section
variable {W : World} {N : Nat → Prop} {cs : List Co}
theorem ARL_set {a : AV} {u : Value} (ha : AR W N cs a u) : ∀ {l : List AV} {us : List Value} {p : Nat}, ARL W N cs l us → ARL W N cs (l.set p a) (us.set p u)
 | [], us, p, h => by
  simp only [ARL] at h
  subst h
  simp [ARL]
 | b :: l, [], p, h => by simp only [ARL] at h
 | b :: l, z :: us, 0, h => by
  simp only [ARL] at h
  simp only [List.set_cons_zero, ARL]
  exact ⟨ha, h.2⟩
 | b :: l, z :: us, p + 1, h => by
  simp only [ARL] at h
  simp only [List.set_cons_succ, ARL]
  exact ⟨h.1, ARL_set ha h.2⟩
theorem filR_ok : ∀ {ps : List (Nat × FV)} {vs : List (Nat × Value)} {l l' : List AV} {us : List Value}, ARL W N cs l us → filR l ps = some l' → ps.length = vs.length →
  (∀ (j : Nat) (p : Nat × FV) (q : Nat × Value), ps[j]? = some p → vs[j]? = some q → p.1 = q.1 ∧ FVR W N cs p.2 q.2) → ∃ us', ARL W N cs l' us' ∧ fillL (fun i => some (i * 1, 1)) us vs = some us'
 | [], vs, l, l', us, hc, h, hl, _ => by
  obtain rfl : vs = [] := List.eq_nil_of_length_eq_zero hl.symm
  simp only [filR, Option.some.injEq] at h
  subst h
  exact ⟨us, hc, rfl⟩
 | (i, fv) :: ps, vs, l, l', us, hc, h, hl, hp => by
  obtain ⟨⟨i', u⟩, vs, rfl⟩ : ∃ q vs', vs = q :: vs' := by
   cases vs with
   | nil => simp at hl
   | cons q vs => exact ⟨q, vs, rfl⟩
  obtain ⟨e0, h0⟩ := hp 0 _ _ rfl rfl
  dsimp only at e0 h0
  subst e0
  cases fv with
  | one a =>
   unfold filR at h
   cases hq : lone a && Nat.blt i l.length with
   | false => rw [hq] at h; cases h
   | true =>
    rw [hq] at h
    simp only [Bool.and_eq_true] at hq
    have hi : i < us.length := by
     have h9 := hq.2
     rw [ARL_len hc]
     simpa [Nat.blt, Nat.lt_iff_add_one_le] using h9
    have hu : u.cells.toList = [u] := by rw [lone_cells (cs := cs) h0 hq.1]
    obtain ⟨us', r1, r2⟩ := filR_ok (us := us.set i u) (ARL_set h0 hc) h (by simpa using hl) (fun j p q h1 h2 => hp (j + 1) p q (by simpa using h1) (by simpa using h2))
    refine ⟨us', r1, ?_⟩
    unfold fillL
    dsimp only
    have e2 : putAt us (i * 1) u.cells.toList = us.set i u := by
     rw [hu, Nat.mul_one]
     unfold putAt
     rw [List.set_eq_take_append_cons_drop, if_pos hi]
     simp
    have e3 : (Nat.beq u.cells.toList.length 1 && Nat.ble (i * 1 + u.cells.toList.length) us.length) = true := by
     rw [hu]
     simp
     omega
    rw [e2, e3]
    exact r2
  | any => simp [filR] at h
  | agg _ => simp [filR] at h
  | tup _ => simp [filR] at h
end
section
variable {x : Cx} {g g' : Nat → FV} {ob ob' : List (Option Ob)} {cs cs' : List Co} {ts ts' : Array Value} {W W' : World} {T : List (Nat × TI)} {Q : Post} {ops : Array Oper} {rest : List Oper} {d : Nat} {op : Op} {ty : TypeId} {pos : String} {af : Array Edge} {gd : Option (Nat × Bool)} {v : FV}
theorem os_bA {t n : Nat} {ti : Bool} {sz : Nat} {z : List Value} {kd : TK} {ps : Array (Nat × Operand)} {l : List AV} (hT : TTok x.P T) (ht : ttGet T t = some ⟨ti, sz, z, kd⟩) (hA : TyAr x.P t n) (h : filR (z.map tv) (ps.toList.map fun p => (p.1, lk x.n g p.2)) = some l) :
  OS x ⟨some d, .build t ps, ty, pos, af, gd⟩ g ob [] (fun g' ob' => g' = upF g d (.agg l) ∧ ob' = ob) := os_yld fun cs ts W hR => by
 have hi := tt_get hT ht
 obtain ⟨us', h1, h2⟩ := filR_ok (W := W) (N := x.fr W ob cs) (cs := cs) (us := z) (vs := ps.toList.map fun p => (p.1, Act.eval ⟨ts, []⟩ p.2)) (ARL_tv z) h (by simp) (fun j p q hp hq => by
  simp only [List.getElem?_map, Option.map_eq_some_iff] at hp hq
  obtain ⟨a, ha, rfl⟩ := hp
  obtain ⟨b, hb, rfl⟩ := hq
  rw [ha] at hb
  injection hb with hb
  subst hb
  exact ⟨rfl, hR.lk _⟩)
 exact ⟨.agg us'.toArray, fun W' => rn_buildA hA hi.2.2.1 (ps := ps.toList.map fun p => (p.1, Act.eval ⟨ts, []⟩ p.2)) (by apply Array.ext'; simp only [Array.toList_map]) h2, us', rfl, h1⟩
theorem os_ix {t n k : Nat} {a i : Operand} {l : List AV} {kk : IntKind} {b : AV} (hA : TyAr x.P t n) (ha : lk x.n g a = .agg l) (hi : lk x.n g i = .one (tv (.int kk (k : Int)))) (hk : k < n) (hb : l[k]? = some b) :
  OS x ⟨some d, .index t a i, ty, pos, af, gd⟩ g ob [] (fun g' ob' => g' = upF g d (.one b) ∧ ob' = ob) := os_yld fun cs ts W hR => by
 have h1 := hR.lk a
 rw [ha] at h1
 obtain ⟨us, e1, h1⟩ := h1
 have h2 := hR.lk i
 rw [hi] at h2
 have h2 := tv_of (x := .int kk (k : Int)) h2
 obtain ⟨u, hu, hv⟩ := ARL_get h1 hb
 exact ⟨u, fun W' => rn_indexA hA e1 h2 hk hu, hv⟩
theorem bA {t n : Nat} {ti : Bool} {sz : Nat} {z : List Value} {kd : TK} {ps : Array (Nat × Operand)} {l : List AV} (hA : TyAr x.P t n) (k : WL x ops rest (upF g d (.agg l)) ob Q) (hT : TTok x.P ttab := by exact ttok) (ht : ttGet ttab t = some ⟨ti, sz, z, kd⟩ := by rfl) (h : filR (z.map tv) (ps.toList.map fun p => (p.1, lk x.n g p.2)) = some l := by rfl) (hw : wantA ops x.n g gd = some true := by rfl) :
  WL x ops (⟨some d, .build t ps, ty, pos, af, gd⟩ :: rest) g ob Q := w_os (os_bA hT ht hA h) hw (by rintro _ _ ⟨rfl, rfl⟩; exact k)
theorem ixA {t n k : Nat} {a i : Operand} {l : List AV} {kk : IntKind} {b : AV} (hA : TyAr x.P t n) (hk : k < n) (hb : l[k]? = some b) (kk' : WL x ops rest (upF g d (.one b)) ob Q) (ha : lk x.n g a = .agg l := by rfl) (hi : lk x.n g i = .one (tv (.int kk (k : Int))) := by rfl) (hw : wantA ops x.n g gd = some true := by rfl) :
  WL x ops (⟨some d, .index t a i, ty, pos, af, gd⟩ :: rest) g ob Q := w_os (os_ix hA ha hi hk hb) hw (by rintro _ _ ⟨rfl, rfl⟩; exact kk')
theorem clc {fresh : Bool} {f : FuncId} {lent lent' : List Lt} {al : List FV} {fst caps : List Tr} {r : FV} {os : List Ob} {cf : Operand} {aa : Array Operand} {ats : Array TypeId} (key : Nat) (K : List Nat) (args : List FV) (hc : lk x.n g cf = .one (.t (.f f fst caps))) (hS : Spec fresh x.P f lent al (Rt lent' r)) (hf : CallOk x.P f) (hK : lentOk ob K K lent) (ha : alK x.n g K aa.toList args) {ok : List (Option Ob)} (hbk : backOk K lent' ok) (k : WL x ops rest (upF g d v) (putO ob K ok ++ os.map some) Q) (hw : wantA ops x.n g gd = some true := by rfl) (hk : keyOk ob key = true := by rfl) (hnd : K.Nodup := by decide) (hb : bnd key r = some (v, os) := by rfl) (he : capF fst ++ args ++ capF caps = al := by rfl) :
  WL x ops (⟨some d, .call ⟨.value cf, aa, ats⟩, ty, pos, af, gd⟩ :: rest) g ob Q := by
 subst he
 refine w_os (os_callL hS hf (clo_t hc) hK hnd ha hk (by rintro _ _ ⟨rfl, rfl⟩ _; exact ⟨by rw [hb]; rfl, ok, hbk⟩)) hw ?_
 rintro _ _ ⟨l, r', v', os', ok', ⟨rfl, rfl⟩, _, h, h9, rfl, rfl⟩
 obtain rfl := backOk_eq hbk h9
 rw [hb] at h
 injection h with h
 injection h with h1 h2
 subst h1 h2
 exact k
inductive PutL (K : List Nat) : List AV → List AV → Prop
 | nil : PutL K [] []
 | sl {i k o n : Nat} {l l' : List AV} (h : K[i]? = some k) (h' : PutL K l l') : PutL K (.sl i o n :: l) (.sl k o n :: l')
theorem os_callRA {fresh : Bool} {f : FuncId} {args : List FV} {lent lent' : List Lt} {K : List Nat} {aa : Array Operand} {ats : Array TypeId} {cf : Operand} {fst caps : List Tr} {av1 av2 : List AV} {ok : List (Option Ob)} (hS : Spec fresh x.P f lent (capF fst ++ args ++ capF caps) (Rt lent' (.agg av1))) (hf : CallOk x.P f) (hc : Clo x g cf f fst caps) (hK : lentOk ob K K lent) (hnd : K.Nodup) (ha : alK x.n g K aa.toList args) (hi : PutL K av1 av2) (hbk : backOk K lent' ok) :
  OS x ⟨some d, .call ⟨.value cf, aa, ats⟩, ty, pos, af, gd⟩ g ob K (fun g' ob' => g' = upF g d (.agg av2) ∧ ob' = putO ob K ok) := by
 intro cs ts W hR K' Q kk
 obtain ⟨us0, us, e0, hfst, hcap⟩ := hc ob cs ts W hR
 unfold Oper.wp
 rw [run_callV hf e0]
 refine (callL_core hS hK hnd ha hfst hcap hR).mono fun e W' hE => ?_
 obtain ⟨v, lent9, r, ys, cl, N2, rfl, ⟨rfl, rfl⟩, hl1, hl2, hro, hok, hndy, fin⟩ := hE
 obtain ⟨hN, hfin⟩ := fin ok hbk [] [] rfl (fun b => by simp [ress]) (by simp [ress])
 obtain ⟨m1, m2⟩ := hfin (fun i o h => by simp at h)
 simp only [List.map_nil, List.append_nil] at m1 m2
 refine kk _ _ _ _ _ ⟨rfl, rfl⟩ (m1.put d ?_) ((m2 (some d)).then_put v)
 obtain ⟨rfl, hz⟩ := hro
 refine ⟨_, rfl, ?_⟩
 have key : ∀ {av1 av2 : List AV} {ys : List VT}, PutL K av1 av2 → CRL W' N2 cl av1 ys → ∀ N9, ARL W' N9 (putC cs K cl) av2 (ys.map VT.val) := by
  intro av1 av2 ys hp
  induction hp generalizing ys with
  | nil =>
   intro hz N9
   simp only [CRL] at hz
   subst hz
   simp [ARL]
  | @sl i k o n l l' hi h' ih =>
   intro hz N9
   cases ys with
   | nil => simp only [CRL] at hz
   | cons y ys =>
    simp only [CRL] at hz
    have hkl : k < cs.length := by
     obtain ⟨a, l', _, _, h2⟩ := lentOk_get hK hi
     have := (List.getElem?_eq_some_iff.1 h2).1
     rw [← hR.len]
     exact this
    simp only [List.map_cons, ARL]
    refine ⟨?_, ih hz.2 N9⟩
    cases y with
    | s b c t z n l => simp only [CR] at hz; exact hz.1.elim
    | p b t l => simp only [CR] at hz; exact hz.1.elim
    | w u =>
     have hz1 := hz.1
     simp only [CR, AR] at hz1
     simp only [AR, VT.val]
     rw [putC_in hnd hl2 hi hkl]
     exact ⟨by rw [putC_len]; exact hkl, hz1.2⟩
 exact key hi hz _
theorem clra {fresh : Bool} {f : FuncId} {args : List FV} {lent lent' : List Lt} {aa : Array Operand} {ats : Array TypeId} {av1 av2 : List AV} (K : List Nat) (hS : Spec fresh x.P f lent args (Rt lent' (.agg av1))) (hf : CallOk x.P f) (hK : lentOk ob K K lent) (ha : alK x.n g K aa.toList args) (hi : PutL K av1 av2) {ok : List (Option Ob)} (hbk : backOk K lent' ok) (k : WL x ops rest (upF g d (.agg av2)) (putO ob K ok) Q) (hw : wantA ops x.n g gd = some true := by rfl) (hnd : K.Nodup := by decide) :
  WL x ops (⟨some d, .call ⟨.value (.func f), aa, ats⟩, ty, pos, af, gd⟩ :: rest) g ob Q := by
 have e : capF [] ++ args ++ capF [] = args := by simp [capF]
 exact w_os (os_callRA (by rw [e]; exact hS) hf (clo_f f) hK hnd ha hi hbk) hw (by rintro _ _ ⟨rfl, rfl⟩; exact k)
variable {late : Nat → Bool} {K fr : List Nat} {on : Bool} {fuel : Nat} {listed : Array Bool}
theorem dbA {t n : Nat} {ti : Bool} {sz : Nat} {z : List Value} {kd : TK} {ps : Array (Nat × Operand)} {l : List AV} (i : Nat) (hA : TyAr x.P t n) (hi : ops[i]? = some ⟨some d, .build t ps, ty, pos, af, gd⟩) (h : filR (z.map tv) (ps.toList.map fun p => (p.1, lk x.n g p.2)) = some l) (k : WD x ops Q late K (d :: fr) true fuel (listed.setIfInBounds i true) (upF g d (.agg l)) ob) (hT : TTok x.P ttab := by exact ttok) (ht : ttGet ttab t = some ⟨ti, sz, z, kd⟩ := by rfl) (hr : Region.ready .any ops listed = [i] := by kernel_rfl) (hw : wantA ops x.n g gd = some true := by rfl) : WD x ops Q late K fr true (fuel + 1) listed g ob :=
 d_os (v := .agg l) i hr hi rfl hw (os_bA hT ht hA h) (by rintro _ _ ⟨rfl, rfl⟩; exact ⟨rfl, fun _ _ => rfl⟩) (by rintro _ _ ⟨rfl, rfl⟩; exact k)
theorem olda {t ky o t' z' : Nat} {ti : TI} {a : Operand} {l us : List AV} (i : Nat) (hx : (l.drop o).take us.length = us) (k : WD x ops Q late K (d :: fr) true fuel (listed.setIfInBounds i true) (upF g d (.agg us)) ob) (hT : TTok x.P ttab := by exact ttok) (hi : ops[i]? = some ⟨some d, .load t a, ty, pos, af, gd⟩ := by rfl) (hw : wantA ops x.n g gd = some true := by rfl) (hti : ttGet ttab t = some ti := by rfl) (hlk : lk x.n g a = .one (.pt ky o) := by rfl) (ho : obAt ob ky = some ⟨t', z', l⟩ := by rfl) (ha : ti.agg = true := by rfl) (hn : us.length = ti.size := by rfl) (h0 : us ≠ [] := by exact fun h => by cases h) (hr : rdL us = true := by rfl) : WO x ops Q late K fr true fuel listed i g ob :=
 o_os (v := .agg us) i hi rfl hw (os_ld hT hti (by rw [hlk]; exact evL_us ho hx ha hn h0 hr)) (by rintro _ _ ⟨rfl, rfl⟩; exact ⟨rfl, fun _ _ => rfl⟩) (by rintro _ _ ⟨rfl, rfl⟩; exact k)
theorem dston {t key o t' z' : Nat} {ti : TI} {a b : Operand} {l l' us : List AV} (i : Nat) (hl : putA l o us = l') (hle : o + us.length ≤ l.length) (k : WD x ops Q late K fr true fuel (listed.setIfInBounds i true) g (ob.set key (some ⟨t', z', l'⟩))) (hT : TTok x.P ttab := by exact ttok) (hr : Region.ready .any ops listed = [i] := by kernel_rfl) (hi : ops[i]? = some ⟨none, .store t a b, ty, pos, af, gd⟩ := by rfl) (hw : wantA ops x.n g gd = some true := by rfl) (hti : ttGet ttab t = some ti := by rfl)
  (hlk : lk x.n g a = .one (.pt key o) := by rfl) (ho : obAt ob key = some ⟨t', z', l⟩ := by rfl) (hb : celF (lk x.n g b) = some us := by rfl) (hlo : loneL us = true := by rfl) (hsz : Nat.beq us.length ti.size = true := by rfl) (hK : K.contains key = false := by rfl) : WD x ops Q late K fr true (fuel + 1) listed g ob := by
 have hne : ∀ j ∈ K, j ≠ key := fun j hj e => by
  subst e
  have : K.contains j = true := by simpa using hj
  rw [hK] at this
  cases this
 refine do_ i hr hi hw (os_str (ty := ty) (pos := pos) (af := af) (gd := gd) hT hti hlk hb hlo hsz ho hle hl) true (fun _ => ⟨rfl, fun j hj hm => ?_⟩) (fun _ => rfl) (fun _ g' ob' hR => ?_) fun g' ob' hR => ?_
 ·rw [List.mem_singleton] at hm
  exact hne j hj hm
 ·obtain ⟨rfl, rfl⟩ := hR
  exact ⟨fun _ _ => rfl, fun j hj => List.getElem?_set_ne (fun e => hne j hj e.symm)⟩
 obtain ⟨rfl, rfl⟩ := hR
 exact k
end
abbrev SubQ (x : Cx) (Q : Post) : Post := fun e g ob => ∃ g' ob', Sub x g ob g' ob' ∧ Q e g' ob'
theorem WP.subQ {x : Cx} {c : Code} {g : Nat → FV} {ob : List (Option Ob)} {Q : Post} (h : WP x c g ob (SubQ x Q)) : WP x c g ob Q := fun ts W hR => wp_mono (h ts W hR) fun e a w hq => by
 cases e with
 | panic c => exact hq
 | _ =>
  obtain ⟨g, ob, ts, rfl, h1, g', ob', hs, h2⟩ := hq
  exact ⟨g', ob', ts, rfl, hs _ _ h1, h2⟩
theorem enS {x : Cx} {e : Exit} {g g' : Nat → FV} {ob ob' : List (Option Ob)} {Q : Post} (h : Sub x g ob g' ob') (k : SubQ x Q e g' ob') : SubQ x Q e g ob := by
 obtain ⟨g2, ob2, h2, h3⟩ := k
 exact ⟨g2, ob2, fun ts W hR => h2 ts W (h ts W hR), h3⟩
theorem enS0 {x : Cx} {e : Exit} {g : Nat → FV} {ob : List (Option Ob)} {Q : Post} (h : Q e g ob) : SubQ x Q e g ob := ⟨g, ob, fun _ _ h => h, h⟩
theorem fnLs {T : List (Nat × TI)} {fresh : Bool} {P : Program} {f : FuncId} {fn : Func} {c : Code} {n : Nat} {rv : List ResultVar} {lent : List Lt} {args : List FV} {R : List Lt → FV → Prop} (hf : P.funcs[f]? = some fn) (hb : fn.body = some c) (hn : fn.ntmps = n) (hrv : fn.results.toList = rv) (hT : TTok P T) (hle : Nat.ble args.length n = true)
  (h : ∀ N M w c0, c0.length = lent.length → WP ⟨P, N, M, w, n, c0⟩ c (frL (argL 0 args)) (lobs lent) (SubQ ⟨P, N, M, w, n, c0⟩ (EndQ ⟨P, N, M, w, n, c0⟩ T rv fresh lent R))) : Spec fresh P f lent args R :=
 fnL hf hb hn hrv hT hle fun N M w c0 h0 => (h N M w c0 h0).subQ
theorem fn0s {T : List (Nat × TI)} {fresh : Bool} {P : Program} {f : FuncId} {fn : Func} {c : Code} {n : Nat} {rv : List ResultVar} {args : List FV} {R : List Lt → FV → Prop} (hf : P.funcs[f]? = some fn) (hb : fn.body = some c) (hn : fn.ntmps = n) (hrv : fn.results.toList = rv) (hT : TTok P T) (hle : Nat.ble args.length n = true)
  (h : ∀ N w c0, c0.length = 0 → WP ⟨P, N, [], w, n, c0⟩ c (frL (argL 0 args)) [] (SubQ ⟨P, N, [], w, n, c0⟩ (EndQ ⟨P, N, [], w, n, c0⟩ T rv fresh [] R))) : Spec fresh P f [] args R :=
 fn0 hf hb hn hrv hT hle fun N w c0 h0 => (h N w c0 h0).subQ
def rdV : AV → AV
 | .t y => .t (rdT y)
 | a => a
def rdF : FV → FV
 | .one a => .one (rdV a)
 | .agg l => .agg (l.map rdV)
 | v => v
theorem AR_rdV {W : World} {N : Nat → Prop} {cs : List Co} : ∀ {a : AV} {u : Value}, AR W N cs a u → AR W N cs (rdV a) u
 | .t y, u, h => by
  simp only [AR, rdV] at *
  exact FR_rdT y u h
 | .sl .., u, h | .pt .., u, h | .ef .., u, h | .fn .., u, h => h
theorem ARL_rdV {W : World} {N : Nat → Prop} {cs : List Co} : ∀ {l : List AV} {us : List Value}, ARL W N cs l us → ARL W N cs (l.map rdV) us
 | [], us, h => by simpa [ARL] using h
 | a :: l, [], h => by simp only [ARL] at h
 | a :: l, u :: us, h => by
  simp only [ARL, List.map_cons] at h ⊢
  exact ⟨AR_rdV h.1, ARL_rdV h.2⟩
theorem rdS {x : Cx} {g : Nat → FV} {ob : List (Option Ob)} {i : Nat} {fv : FV} (hi : Nat.blt i x.n = true) (h : rdF (g i) = fv) : Sub x g ob (upF g i fv) ob := sub_re hi fun W N cs u hu => by
 subst h
 revert hu
 cases g i with
 | one a => exact fun hu => AR_rdV hu
 | agg l =>
  rintro ⟨us, e, hu⟩
  exact ⟨us, e, ARL_rdV hu⟩
 | any => exact fun h => h
 | tup l => exact fun h => h
theorem OR_rd {W : World} {N : Nat → Prop} : ∀ {y : Tr} {v : VT}, rdA (.t y) = true → OR W N y v → OR W N (rdT y) v
 | .v _, _, _, h => by simpa only [rdT] using h
 | .s true .., _, h, _ => by cases h
 | .s false t z n l, .w u, _, h => by
  simp only [OR, rdT] at h ⊢
  rcases h with h | h
  ·exact absurd h.1 (by simp)
  have h2 := FR_rdT _ u h.2
  simp only [rdT] at h2
  exact .inr ⟨trivial, h2⟩
 | .s false .., .s .., _, h => by
  simp only [OR] at h
  exact absurd h.1 (by simp)
 | .s .., .p .., _, h => by simp only [OR] at h
 | .p true .., _, h, _ => by cases h
 | .p false t l, .w u, _, h => by
  simp only [OR, rdT] at h ⊢
  have h2 := FR_rdT _ u h.2
  simp only [rdT] at h2
  exact ⟨trivial, h2⟩
 | .p false .., .p .., _, h => by
  simp only [OR] at h
  exact absurd h.1 (by simp)
 | .p .., .s .., _, h => by simp only [OR] at h
 | .f .., _, _, h => by simpa only [rdT] using h
 | .a .., _, _, h => by simpa only [rdT] using h
theorem rdO {x : Cx} {g : Nat → FV} {ob : List (Option Ob)} {j p t z : Nat} {l l' : List AV} {y : Tr} (ho : obAt ob j = some ⟨t, z, l⟩) (hp : l[p]? = some (.t y)) (hq : rdA (.t y) = true) (hl : l.set p (.t (rdT y)) = l') : Sub x g ob g (ob.set j (some ⟨t, z, l'⟩)) := by
 subst hl
 rintro ts W ⟨cs, hR⟩
 have hj := obAt_eq ho
 have hlt := (List.getElem?_eq_some_iff.1 hj).1
 have hlen := hR.len
 have hjl : j < cs.length := by omega
 have hcl := hR.crl hj
 obtain ⟨v, hy, hr⟩ := CRL_get hcl hp
 simp only [CR] at hr
 have hr2 := OR_rd hq hr
 have hrs : ress (ob.set j (some ⟨t, z, l.set p (.t (rdT y))⟩)) cs = ress ob cs := by
  apply List.ext_getElem?
  intro i
  by_cases hi : i < ob.length
  ·by_cases eji : j = i
   ·subst eji
    rw [ress_get (by simpa using hlen) (List.getElem?_set_self hlt), ress_get hlen hj]
    exact congrArg some (resC_l _ _)
   have h1 := List.getElem?_set_ne (l := ob) (a := some (⟨t, z, l.set p (.t (rdT y))⟩ : Ob)) eji
   rw [List.getElem?_eq_getElem hi] at h1
   rw [ress_get (by simpa using hlen) h1, ress_get hlen (List.getElem?_eq_getElem hi)]
  rw [List.getElem?_eq_none (by rw [ress_len (by simpa using hlen)]; omega), List.getElem?_eq_none (by rw [ress_len hlen]; omega)]
 have m := hR.recut (ob' := ob.set j (some ⟨t, z, l.set p (.t (rdT y))⟩)) (cs' := cs) (fun b => by unfold ownd; rw [hrs]; exact Nat.le_refl _) (fun r hr => hR.2.res r (by rw [hrs] at hr; exact hr)) (fun hN => by
  refine ⟨by simpa using hlen, fun i o hi => ?_⟩
  by_cases eji : j = i
  ·subst eji
   rw [List.getElem?_set_self hlt] at hi
   injection hi with hi
   injection hi with hi
   subst hi
   have h2 := hR.obs.2 j _ hj
   have h3 := CRL_set (a := .t (rdT y)) (y := v) (by simpa only [CR] using OR_keep (fun _ _ => rfl) hN _ _ hr2) (p := p) (CRL_keep (W' := W) (fun _ _ => rfl) hN .refl _ _ h2.1)
   have e9 : (co cs j).l.set p v = (co cs j).l := by
    obtain ⟨q1, q2⟩ := List.getElem?_eq_some_iff.1 hy
    rw [← q2]
    exact List.set_getElem_self q1
   rw [e9] at h3
   exact ⟨h3, fun hb => by
    have := h2.2 hb
    dsimp only at this ⊢
    rw [this.1]
    exact ⟨rfl, this.2⟩⟩
  rw [List.getElem?_set_ne eji] at hi
  have h2 := hR.obs.2 i o hi
  exact ⟨CRL_keep (fun _ _ => rfl) hN .refl _ _ h2.1, h2.2⟩) .refl
 exact ⟨cs, m.1⟩
theorem m_room {M : Mx} {N y : Nat} {rs : List Rw} {us : List Us} {L : Tr} (hy : y < rs.length) (hyN : y < N) (hr : Sz 400 (M.ring y)) (hm : Sz 400 (nthR rs y).m) (hu : Sz 400 (nthR rs y).u) (hl : rs.length ≤ 1073741823) (hN : N ≤ 1073741823) : Spec false Tryz.prog 124 [⟨92, 0, flC M N (.t (sRw true false rs)) (.t (sUs true false us)) (.t L)⟩] [.one (.pt 0 0), .one (tv (.int .i64 ((y : Nat) : Int)))] (Rt [⟨92, 0, flC M N (.t (sRw true false rs)) (.t (sUs true false us)) (.t L)⟩] (qF (.of (abv ((nthR rs y).m - (M.ring y + (nthR rs y).u)))))) := by
 refine fnLs Tryz.func124 rfl Tryz.ntmps124 rfl ttok rfl fun N9 M9 w9 c0 h0 => ?_
 refine WP.sub (opn (j := 0) (key := 1) (p := 0) (e := 66) (z := 24) (n := rs.length) (trs := rs.flatMap (rtr false)) (l' := flC M N (.sl 1 0 rs.length) (.t (sUs true false us)) (.t L)) rfl rfl rfl rfl rfl) ?_
 have hyl : (yrs M N).length = N := yrs_len M N
 have hs1 : Sz 68719476736 (M.ring y + (nthR rs y).u) := (add_sz hr hu).mono (by omega)
 have hs2 : Sz 68719476736 ((nthR rs y).m - (M.ring y + (nthR rs y).u)) := (sub_sz hm (add_sz hr hu)).mono (by omega)
 have hr1 : Sz 68719476736 (M.ring y) := hr.mono (by omega)
 have hm1 : Sz 68719476736 (nthR rs y).m := hm.mono (by omega)
 have hu1 : Sz 68719476736 (nthR rs y).u := hu.mono (by omega)
 refine sq ?_; refine rl ?_; refine al 2 ?_; refine nl ?_; refine sq ?_; refine rd [0, 1, 2] (fun i => [29].contains i) mixed ?_
 refine dv 0 ?_; refine dv 1 ?_; refine dv 2 ?_; refine dv 3 ?_; refine dld 4 ?_; refine dv 5 ?_; refine dv 6 ?_; refine dv 7 ?_
 refine dlda 8 (flat_subM (f := (rtr false)) (z := 24) (o := 4) (us := (Fr4.of (nthR rs (y)).m).tr false) (rtr_len false) (nthR_get (by omega)) (Nat.le_of_ble_eq_true rfl) rfl) ?_
 refine dv 9 ?_; refine dv 10 ?_; refine dv 11 ?_; refine dld 12 ?_; refine dv 13 ?_; refine dv 14 ?_; refine dv 15 ?_
 refine dlr 16 ((Fr4.of (M.ring (y))).tr false) (flat_sub' (f := ytr) (z := 8) (o := 4) ytr_len (yrs_get (by omega)) (Nat.le_of_ble_eq_true rfl) rfl) ?_
 refine dv 17 ?_; refine dv 18 ?_; refine dv 19 ?_; refine dv 20 ?_; refine dld 21 ?_; refine dv 22 ?_; refine dv 23 ?_; refine dv 24 ?_
 refine dlda 25 (flat_subM (f := (rtr false)) (z := 24) (o := 8) (us := (Fr4.of (nthR rs (y)).u).tr false) (rtr_len false) (nthR_get (by omega)) (Nat.le_of_ble_eq_true rfl) rfl) ?_
 refine dca 26 rfl (p_Add (Qn.of (p := (M.ring (y))) (by assumption)) (Qn.of (p := (nthR rs (y)).u) (by assumption))) ok70 ⟨a1g rfl, a1g rfl, rfl⟩ (qF (.of ((M.ring (y)) + (nthR rs (y)).u))) ?_
 refine dca 27 rfl (p_Sub (Qn.of (p := (nthR rs (y)).m) (by assumption)) (Qn.of (p := ((M.ring (y)) + (nthR rs (y)).u)) (by assumption))) ok71 ⟨a1g rfl, a1g rfl, rfl⟩ (qF (.of ((nthR rs (y)).m - ((M.ring (y)) + (nthR rs (y)).u)))) ?_
 refine dca 28 rfl (m_above (Qn.of (p := ((nthR rs (y)).m - ((M.ring (y)) + (nthR rs (y)).u))) (by assumption))) ok83 ⟨a1g rfl, rfl⟩ (qF (.of (abv ((nthR rs (y)).m - ((M.ring (y)) + (nthR rs (y)).u))))) ?_
 refine dst 29 ?_; refine dz0 ?_; refine rt ?_
 refine enS (cls (j := 0) (k := 1) (p := 0) (e := 66) (z := 24) (n := rs.length) (trs := rs.flatMap (rtr false)) (l' := flC M N (.t (.s true 66 24 (rs.length) (rs.flatMap (rtr false)))) (.t (sUs true false us)) (.t L)) rfl rfl rfl (rfl) rfl (take_self _ _ (rflat_len _ _)) (rflat_len _ _) rfl) ?_
 exact enS0 <| enL (lent' := [⟨92, 0, flC M N (.t (sRw true false rs)) (.t (sUs true false us)) (.t L)⟩]) (.inl rfl) rfl (pk1 (.agg (.cons (.id rfl) (.cons (.id rfl) (.cons (.id rfl) (.cons (.id rfl) .nil)))))) (by decide) (fun _ h => by cases h) ⟨⟨rfl, rfl⟩, trivial⟩ ⟨rfl, trivial⟩ ⟨rfl, trivial⟩ (fun h => by cases h) ⟨rfl, rfl⟩
theorem m_room2 {M : Mx} {N y : Nat} {rs : List Rw} {us : List Us} {o1 : Lt} (ho1 : refCs 2 o1.l = true) (hy : y < rs.length) (hyN : y < N) (hr : Sz 400 (M.ring y)) (hm : Sz 400 (nthR rs y).m) (hu : Sz 400 (nthR rs y).u) (hl : rs.length ≤ 1073741823) (hN : N ≤ 1073741823) : Spec false Tryz.prog 124 [⟨92, 0, flC M N (.t (sRw true false rs)) (.t (sUs true false us)) (.pt 1 0)⟩, o1] [.one (.pt 0 0), .one (tv (.int .i64 ((y : Nat) : Int)))] (Rt [⟨92, 0, flC M N (.t (sRw true false rs)) (.t (sUs true false us)) (.pt 1 0)⟩, o1] (qF (.of (abv ((nthR rs y).m - (M.ring y + (nthR rs y).u)))))) := by
 refine fnLs Tryz.func124 rfl Tryz.ntmps124 rfl ttok rfl fun N9 M9 w9 c0 h0 => ?_
 refine WP.sub (opn (j := 0) (key := 2) (p := 0) (e := 66) (z := 24) (n := rs.length) (trs := rs.flatMap (rtr false)) (l' := flC M N (.sl 2 0 rs.length) (.t (sUs true false us)) (.pt 1 0)) rfl rfl rfl rfl rfl) ?_
 have hyl : (yrs M N).length = N := yrs_len M N
 have hs1 : Sz 68719476736 (M.ring y + (nthR rs y).u) := (add_sz hr hu).mono (by omega)
 have hs2 : Sz 68719476736 ((nthR rs y).m - (M.ring y + (nthR rs y).u)) := (sub_sz hm (add_sz hr hu)).mono (by omega)
 have hr1 : Sz 68719476736 (M.ring y) := hr.mono (by omega)
 have hm1 : Sz 68719476736 (nthR rs y).m := hm.mono (by omega)
 have hu1 : Sz 68719476736 (nthR rs y).u := hu.mono (by omega)
 refine sq ?_; refine rl ?_; refine al 3 ?_; refine nl ?_; refine sq ?_; refine rd [0, 2, 3] (fun i => [29].contains i) mixed ?_
 refine dv 0 ?_; refine dv 1 ?_; refine dv 2 ?_; refine dv 3 ?_; refine dld 4 ?_; refine dv 5 ?_; refine dv 6 ?_; refine dv 7 ?_
 refine dlda 8 (flat_subM (f := (rtr false)) (z := 24) (o := 4) (us := (Fr4.of (nthR rs (y)).m).tr false) (rtr_len false) (nthR_get (by omega)) (Nat.le_of_ble_eq_true rfl) rfl) ?_
 refine dv 9 ?_; refine dv 10 ?_; refine dv 11 ?_; refine dld 12 ?_; refine dv 13 ?_; refine dv 14 ?_; refine dv 15 ?_
 refine dlr 16 ((Fr4.of (M.ring (y))).tr false) (flat_sub' (f := ytr) (z := 8) (o := 4) ytr_len (yrs_get (by omega)) (Nat.le_of_ble_eq_true rfl) rfl) ?_
 refine dv 17 ?_; refine dv 18 ?_; refine dv 19 ?_; refine dv 20 ?_; refine dld 21 ?_; refine dv 22 ?_; refine dv 23 ?_; refine dv 24 ?_
 refine dlda 25 (flat_subM (f := (rtr false)) (z := 24) (o := 8) (us := (Fr4.of (nthR rs (y)).u).tr false) (rtr_len false) (nthR_get (by omega)) (Nat.le_of_ble_eq_true rfl) rfl) ?_
 refine dca 26 rfl (p_Add (Qn.of (p := (M.ring (y))) (by assumption)) (Qn.of (p := (nthR rs (y)).u) (by assumption))) ok70 ⟨a1g rfl, a1g rfl, rfl⟩ (qF (.of ((M.ring (y)) + (nthR rs (y)).u))) ?_
 refine dca 27 rfl (p_Sub (Qn.of (p := (nthR rs (y)).m) (by assumption)) (Qn.of (p := ((M.ring (y)) + (nthR rs (y)).u)) (by assumption))) ok71 ⟨a1g rfl, a1g rfl, rfl⟩ (qF (.of ((nthR rs (y)).m - ((M.ring (y)) + (nthR rs (y)).u)))) ?_
 refine dca 28 rfl (m_above (Qn.of (p := ((nthR rs (y)).m - ((M.ring (y)) + (nthR rs (y)).u))) (by assumption))) ok83 ⟨a1g rfl, rfl⟩ (qF (.of (abv ((nthR rs (y)).m - ((M.ring (y)) + (nthR rs (y)).u))))) ?_
 refine dst 29 ?_; refine dz0 ?_; refine rt ?_
 refine enS (cls (j := 0) (k := 2) (p := 0) (e := 66) (z := 24) (n := rs.length) (trs := rs.flatMap (rtr false)) (l' := flC M N (.t (.s true 66 24 (rs.length) (rs.flatMap (rtr false)))) (.t (sUs true false us)) (.pt 1 0)) rfl rfl rfl (rfl) rfl (take_self _ _ (rflat_len _ _)) (rflat_len _ _) rfl) ?_
 exact enS0 <| enL (lent' := [⟨92, 0, flC M N (.t (sRw true false rs)) (.t (sUs true false us)) (.pt 1 0)⟩, o1]) (.inl rfl) rfl (pk1 (.agg (.cons (.id rfl) (.cons (.id rfl) (.cons (.id rfl) (.cons (.id rfl) .nil)))))) (by decide) (fun _ h => by cases h) ⟨⟨rfl, rfl⟩, ⟨rfl, rfl⟩, trivial⟩ ⟨rfl, rfl, trivial⟩ ⟨rfl, ho1, trivial⟩ (fun h => by cases h) ⟨rfl, rfl⟩
theorem m_use {M : Mx} {N y : Nat} {v : Int} {m : Rat} {rs : List Rw} {us : List Us} {L : Tr} (hy : y < rs.length) (hm : Sz 400 m) (hu : Sz 400 (nthR rs y).u) (ht : Sz 400 (nthR rs y).t) (hl : rs.length ≤ 1073741823) (hlu : us.length ≤ 1073741822) : Spec false Tryz.prog 125 [flO M N rs us L] [.one (.pt 0 0), .one (tv (.int .i64 v)), .one (tv (.int .i64 ((y : Nat) : Int))), qF (.of m)] (Rt [flO M N (useR rs y m) (useU rs us v y m) L] (.tup [])) := by
 refine fnLs Tryz.func125 rfl Tryz.ntmps125 rfl ttok rfl fun N9 M9 w9 c0 h0 => ?_
 refine WP.sub (opn (j := 0) (key := 1) (p := 0) (e := 66) (z := 24) (n := rs.length) (trs := rs.flatMap (rtr false)) (l' := flC M N (.sl 1 0 rs.length) (.t (sUs true false us)) (.t L)) rfl rfl rfl rfl rfl) ?_
 refine WP.sub (opn (j := 0) (key := 2) (p := 1) (e := 46) (z := 14) (n := us.length) (trs := us.flatMap (utr false)) (l' := flC M N (.sl 1 0 rs.length) (.sl 2 0 us.length) (.t L)) rfl rfl rfl rfl rfl) ?_
 have hm1 : Sz 68719476736 m := hm.mono (by omega)
 have hu1 : Sz 68719476736 (nthR rs y).u := hu.mono (by omega)
 have ht1 : Sz 68719476736 (nthR rs y).t := ht.mono (by omega)
 have hs1 : Sz 68719476736 ((nthR rs y).u + m) := (add_sz hu hm).mono (by omega)
 have hs2 : Sz 68719476736 ((nthR rs y).t - m) := (sub_sz ht hm).mono (by omega)
 refine sq ?_; refine rl ?_; refine bx 3 ?_; refine nl ?_; refine sq ?_; refine sq ?_; refine rl ?_; refine ld ?_
 refine ca (p_Sign (Qn.of (p := m) (by assumption))) ok80 ⟨a1g rfl, rfl⟩ (.one (tv (.int .i64 m.num.sign))) ?_
 refine o1 ?_; refine nl ?_; refine cdp rfl (fun h1 => ?_) (fun h1 => ?_)
 ·refine rt ?_
  refine enS (cls (j := 0) (k := 1) (p := 0) (e := 66) (z := 24) (n := rs.length) (trs := rs.flatMap (rtr false)) (l' := flC M N (.t (.s true 66 24 (rs.length) (rs.flatMap (rtr false)))) (.sl 2 0 us.length) (.t L)) rfl rfl rfl (rfl) rfl (take_self _ _ (rflat_len _ _)) (rflat_len _ _) rfl) ?_
  refine enS (cls (j := 0) (k := 2) (p := 1) (e := 46) (z := 14) (n := us.length) (trs := us.flatMap (utr false)) (l' := flC M N (.t (sRw true false rs)) (.t (.s true 46 14 (us.length) (us.flatMap (utr false)))) (.t L)) rfl rfl rfl (rfl) rfl (take_self _ _ (uflat_len _ _)) (uflat_len _ _) rfl) ?_
  have hp0 : ¬ 0 < m := fun h9 => by have h8 := (sgn_pos m).2 h9; omega
  have e1 : useR rs y m = rs := if_neg hp0
  have e2 : useU rs us v y m = us := if_neg hp0
  exact enS0 <| enL (lent' := [flO M N (useR rs y m) (useU rs us v y m) L]) (.inl rfl) rfl (pk0) (by decide) (fun _ h => by cases h) ⟨⟨rfl, rfl⟩, trivial⟩ ⟨by unfold flO; rw [e1, e2]; rfl, trivial⟩ ⟨rfl, trivial⟩ (fun h => by cases h) ⟨rfl, rfl⟩
 refine sk ?_; refine sq ?_; refine rl ?_; (iterate 4 refine o1 ?_); refine ld ?_; (iterate 3 refine o1 ?_); refine nl ?_; refine sq ?_; refine rd [0, 1, 3] (fun i => [15].contains i) mixed ?_
 refine dv 0 ?_; refine dv 1 ?_; refine dld 2 ?_; refine dv 3 ?_; refine dv 4 ?_; refine dv 5 ?_
 refine dlda 6 (flat_subM (f := (rtr false)) (z := 24) (o := 12) (us := (Fr4.of (nthR rs (y)).t).tr false) (rtr_len false) (nthR_get (by omega)) (Nat.le_of_ble_eq_true rfl) rfl) ?_
 refine dv 7 ?_; refine dv 8 ?_; refine dv 9 ?_
 refine dlda 10 (flat_subM (f := (rtr false)) (z := 24) (o := 12) (us := (Fr4.of (nthR rs (y)).t).tr false) (rtr_len false) (nthR_get (by omega)) (Nat.le_of_ble_eq_true rfl) rfl) ?_
 refine dld 11 ?_; refine WO.two (i := 12) (j := 14) (by kernel_rfl) ?_ ?_
 ·refine oca 12 rfl (p_Sub (Qn.of (p := (nthR rs (y)).t) (by assumption)) (Qn.of (p := m) (by assumption))) ok71 ⟨a1g rfl, a1g rfl, rfl⟩ (qF (.of ((nthR rs (y)).t - m))) ?_
  refine df 13 ?_; refine d_al (key := 4) 14 (by kernel_rfl) rfl rfl ttok rfl ⟨rfl, rfl, rfl, trivial⟩ ?_
  refine dst 15 ?_; refine dz0 ?_; refine sq ?_; refine rd [0, 3, 4] (fun i => [].contains i) mixed ?_
  refine dv 0 ?_; refine dv 1 ?_; refine dv 2 ?_; refine dv 3 ?_; refine dv 4 ?_; refine dld 6 ?_; refine dv 8 ?_; refine dld 9 ?_
  refine WO.one (by kernel_rfl) (olda 5 (flat_subM (f := (rtr false)) (z := 24) (o := 8) (us := (Fr4.of (nthR rs (y)).u).tr false) (rtr_len false) (nthR_get (by omega)) (Nat.le_of_ble_eq_true rfl) rfl) ?_)
  refine dca 7 rfl (p_Add (Qn.of (p := (nthR rs (y)).u) (by assumption)) (Qn.of (p := m) (by assumption))) ok70 ⟨a1g rfl, a1g rfl, rfl⟩ (qF (.of ((nthR rs (y)).u + m))) ?_
  refine dv 10 ?_; refine dv 11 ?_
  refine dston 12 (flat_putM (xs := rs) (k := y) (x := (nthR rs (y))) (f := (rtr false)) (z := 24) (o := 8) (x' := (⟨(nthR rs (y)).l, (nthR rs (y)).m, ((nthR rs (y)).u + m), (nthR rs (y)).t, (nthR rs (y)).e, (nthR rs (y)).c⟩ : Rw)) (us := (Fr4.of ((nthR rs (y)).u + m)).tr false) (rtr_len false) (nthR_get (by omega)) (Nat.le_of_ble_eq_true rfl) rfl) (flat_le (xs := rs) (k := y) (f := (rtr false)) (z := 24) (o := 8) (us := (Fr4.of ((nthR rs (y)).u + m)).tr false) (rtr_len false) (by omega) (Nat.le_of_ble_eq_true rfl)) ?_
  refine dv 13 ?_; refine dv 14 ?_
  refine dston 15 (flat_putM (xs := (rs.set (y) (⟨(nthR rs (y)).l, (nthR rs (y)).m, ((nthR rs (y)).u + m), (nthR rs (y)).t, (nthR rs (y)).e, (nthR rs (y)).c⟩ : Rw))) (k := y) (x := (⟨(nthR rs (y)).l, (nthR rs (y)).m, ((nthR rs (y)).u + m), (nthR rs (y)).t, (nthR rs (y)).e, (nthR rs (y)).c⟩ : Rw)) (f := (rtr false)) (z := 24) (o := 12) (x' := (⟨(nthR rs (y)).l, (nthR rs (y)).m, ((nthR rs (y)).u + m), ((nthR rs (y)).t - m), (nthR rs (y)).e, (nthR rs (y)).c⟩ : Rw)) (us := (Fr4.of ((nthR rs (y)).t - m)).tr false) (rtr_len false) (List.getElem?_set_self (by omega)) (Nat.le_of_ble_eq_true rfl) rfl) (flat_le (xs := (rs.set (y) (⟨(nthR rs (y)).l, (nthR rs (y)).m, ((nthR rs (y)).u + m), (nthR rs (y)).t, (nthR rs (y)).e, (nthR rs (y)).c⟩ : Rw))) (k := y) (f := (rtr false)) (z := 24) (o := 12) (us := (Fr4.of ((nthR rs (y)).t - m)).tr false) (rtr_len false) (by simp only [List.length_set]; omega) (Nat.le_of_ble_eq_true rfl)) ?_
  refine dz0 ?_; refine rd [0, 3, 4] (fun i => [12].contains i) mixed ?_
  refine dv 0 ?_; refine dv 1 ?_; refine dv 2 ?_; refine dv 3 ?_; refine dv 4 ?_; refine dld 5 ?_; refine dld 6 ?_
  refine d_bs (key := 5) 7 (by kernel_rfl) rfl rfl ttok rfl ⟨rfl, rfl, rfl, trivial⟩ ?_
  refine d_appK (j := 6) (n := us.length) (l := ucl us) 8 rfl ttok rfl rfl rfl (.sl rfl (ucl_len _)) (.sl rfl rfl rfl) rfl rfl (by omega) (by omega) rfl ⟨rfl, rfl, rfl, trivial⟩ rfl (by kernel_rfl) rfl ?_
  refine d_v 9 (by kernel_rfl) rfl rfl ttok rfl (by trivial) ?_ (fun h => by first | rfl | cases h)
  refine d_v 10 (by kernel_rfl) rfl rfl ttok rfl (by trivial) ?_ (fun h => by first | rfl | cases h)
  refine df 11 ?_; refine dst 12 ?_; refine dz0 ?_; have hp0 : 0 < m := (sgn_pos m).1 (by omega)
  have e1 : useR rs y m = (rs.set y (⟨(nthR rs y).l, (nthR rs y).m, (nthR rs y).u + m, (nthR rs y).t - m, (nthR rs y).e, (nthR rs y).c⟩ : Rw)) := if_pos hp0
  have e2 : useU rs us v y m = us ++ [(⟨v, (y : Int), m, (nthR rs y).t, (nthR rs y).t - m⟩ : Us)] := if_pos hp0
  have e3 : ((rs.set (y) (⟨(nthR rs (y)).l, (nthR rs (y)).m, ((nthR rs (y)).u + m), (nthR rs (y)).t, (nthR rs (y)).e, (nthR rs (y)).c⟩ : Rw)).set (y) (⟨(nthR rs (y)).l, (nthR rs (y)).m, ((nthR rs (y)).u + m), ((nthR rs (y)).t - m), (nthR rs (y)).e, (nthR rs (y)).c⟩ : Rw)) = (rs.set y (⟨(nthR rs y).l, (nthR rs y).m, (nthR rs y).u + m, (nthR rs y).t - m, (nthR rs y).e, (nthR rs y).c⟩ : Rw)) := by rw [List.set_set]
  refine enS (cls (j := 0) (k := 1) (p := 0) (e := 66) (z := 24) (n := rs.length) (trs := (rs.set y (⟨(nthR rs y).l, (nthR rs y).m, (nthR rs y).u + m, (nthR rs y).t - m, (nthR rs y).e, (nthR rs y).c⟩ : Rw)).flatMap (rtr false)) (l' := flC M N (.t (.s true 66 24 (rs.length) ((rs.set y (⟨(nthR rs y).l, (nthR rs y).m, (nthR rs y).u + m, (nthR rs y).t - m, (nthR rs y).e, (nthR rs y).c⟩ : Rw)).flatMap (rtr false)))) (.sl 6 0 (us.length + 1)) (.t L)) rfl rfl rfl (congrArg (fun l : List Rw => some (⟨66, 24, (l.flatMap (rtr false)).map .t⟩ : Ob)) e3) rfl (take_self _ _ (by rw [rflat_len, List.length_set])) (by rw [rflat_len, List.length_set]) rfl) ?_
  refine enS (cls (j := 0) (k := 6) (p := 1) (e := 46) (z := 14) (n := us.length + 1) (trs := (us ++ [(⟨v, (y : Int), m, (nthR rs y).t, (nthR rs y).t - m⟩ : Us)]).flatMap (utr false)) (l' := flC M N (.t (.s true 66 24 rs.length ((rs.set y (⟨(nthR rs y).l, (nthR rs y).m, (nthR rs y).u + m, (nthR rs y).t - m, (nthR rs y).e, (nthR rs y).c⟩ : Rw)).flatMap (rtr false)))) (.t (.s true 46 14 (us.length + 1) ((us ++ [(⟨v, (y : Int), m, (nthR rs y).t, (nthR rs y).t - m⟩ : Us)]).flatMap (utr false)))) (.t L)) rfl rfl rfl (congrArg (fun l : List AV => some (⟨46, 14, l⟩ : Ob)) (ucl_snoc us (⟨v, (y : Int), m, (nthR rs y).t, (nthR rs y).t - m⟩ : Us))) rfl (take_self _ _ (by rw [uflat_len, List.length_append]; rfl)) (by rw [uflat_len, List.length_append]; rfl) rfl) ?_
  exact enS0 <| enL (lent' := [flO M N (useR rs y m) (useU rs us v y m) L]) (.inr rfl) rfl (pk0) (by decide) (fun _ h => by cases h) ⟨⟨rfl, rfl⟩, trivial⟩ ⟨by unfold flO; rw [e1, e2, show sRw true false (rs.set y (⟨(nthR rs y).l, (nthR rs y).m, (nthR rs y).u + m, (nthR rs y).t - m, (nthR rs y).e, (nthR rs y).c⟩ : Rw)) = .s true 66 24 rs.length ((rs.set y (⟨(nthR rs y).l, (nthR rs y).m, (nthR rs y).u + m, (nthR rs y).t - m, (nthR rs y).e, (nthR rs y).c⟩ : Rw)).flatMap (rtr false)) by rw [sRw, List.length_set], show sUs true false (us ++ [(⟨v, (y : Int), m, (nthR rs y).t, (nthR rs y).t - m⟩ : Us)]) = .s true 46 14 (us.length + 1) ((us ++ [(⟨v, (y : Int), m, (nthR rs y).t, (nthR rs y).t - m⟩ : Us)]).flatMap (utr false)) by rw [sUs, List.length_append]; rfl]; rfl, trivial⟩ ⟨rfl, trivial⟩ (fun h => by cases h) ⟨rfl, rfl⟩
 refine o_al (key := 4) 14 rfl rfl ttok rfl ⟨rfl, rfl, rfl, trivial⟩ ?_
 refine dca 12 rfl (p_Sub (Qn.of (p := (nthR rs (y)).t) (by assumption)) (Qn.of (p := m) (by assumption))) ok71 ⟨a1g rfl, a1g rfl, rfl⟩ (qF (.of ((nthR rs (y)).t - m))) ?_
 refine df 13 ?_; refine dst 15 ?_; refine dz0 ?_; refine sq ?_; refine rd [0, 3, 4] (fun i => [].contains i) mixed ?_
 refine dv 0 ?_; refine dv 1 ?_; refine dv 2 ?_; refine dv 3 ?_; refine dv 4 ?_; refine dld 6 ?_; refine dv 8 ?_; refine dld 9 ?_
 refine WO.one (by kernel_rfl) (olda 5 (flat_subM (f := (rtr false)) (z := 24) (o := 8) (us := (Fr4.of (nthR rs (y)).u).tr false) (rtr_len false) (nthR_get (by omega)) (Nat.le_of_ble_eq_true rfl) rfl) ?_)
 refine dca 7 rfl (p_Add (Qn.of (p := (nthR rs (y)).u) (by assumption)) (Qn.of (p := m) (by assumption))) ok70 ⟨a1g rfl, a1g rfl, rfl⟩ (qF (.of ((nthR rs (y)).u + m))) ?_
 refine dv 10 ?_; refine dv 11 ?_
 refine dston 12 (flat_putM (xs := rs) (k := y) (x := (nthR rs (y))) (f := (rtr false)) (z := 24) (o := 8) (x' := (⟨(nthR rs (y)).l, (nthR rs (y)).m, ((nthR rs (y)).u + m), (nthR rs (y)).t, (nthR rs (y)).e, (nthR rs (y)).c⟩ : Rw)) (us := (Fr4.of ((nthR rs (y)).u + m)).tr false) (rtr_len false) (nthR_get (by omega)) (Nat.le_of_ble_eq_true rfl) rfl) (flat_le (xs := rs) (k := y) (f := (rtr false)) (z := 24) (o := 8) (us := (Fr4.of ((nthR rs (y)).u + m)).tr false) (rtr_len false) (by omega) (Nat.le_of_ble_eq_true rfl)) ?_
 refine dv 13 ?_; refine dv 14 ?_
 refine dston 15 (flat_putM (xs := (rs.set (y) (⟨(nthR rs (y)).l, (nthR rs (y)).m, ((nthR rs (y)).u + m), (nthR rs (y)).t, (nthR rs (y)).e, (nthR rs (y)).c⟩ : Rw))) (k := y) (x := (⟨(nthR rs (y)).l, (nthR rs (y)).m, ((nthR rs (y)).u + m), (nthR rs (y)).t, (nthR rs (y)).e, (nthR rs (y)).c⟩ : Rw)) (f := (rtr false)) (z := 24) (o := 12) (x' := (⟨(nthR rs (y)).l, (nthR rs (y)).m, ((nthR rs (y)).u + m), ((nthR rs (y)).t - m), (nthR rs (y)).e, (nthR rs (y)).c⟩ : Rw)) (us := (Fr4.of ((nthR rs (y)).t - m)).tr false) (rtr_len false) (List.getElem?_set_self (by omega)) (Nat.le_of_ble_eq_true rfl) rfl) (flat_le (xs := (rs.set (y) (⟨(nthR rs (y)).l, (nthR rs (y)).m, ((nthR rs (y)).u + m), (nthR rs (y)).t, (nthR rs (y)).e, (nthR rs (y)).c⟩ : Rw))) (k := y) (f := (rtr false)) (z := 24) (o := 12) (us := (Fr4.of ((nthR rs (y)).t - m)).tr false) (rtr_len false) (by simp only [List.length_set]; omega) (Nat.le_of_ble_eq_true rfl)) ?_
 refine dz0 ?_; refine rd [0, 3, 4] (fun i => [12].contains i) mixed ?_
 refine dv 0 ?_; refine dv 1 ?_; refine dv 2 ?_; refine dv 3 ?_; refine dv 4 ?_; refine dld 5 ?_; refine dld 6 ?_
 refine d_bs (key := 5) 7 (by kernel_rfl) rfl rfl ttok rfl ⟨rfl, rfl, rfl, trivial⟩ ?_
 refine d_appK (j := 6) (n := us.length) (l := ucl us) 8 rfl ttok rfl rfl rfl (.sl rfl (ucl_len _)) (.sl rfl rfl rfl) rfl rfl (by omega) (by omega) rfl ⟨rfl, rfl, rfl, trivial⟩ rfl (by kernel_rfl) rfl ?_
 refine d_v 9 (by kernel_rfl) rfl rfl ttok rfl (by trivial) ?_ (fun h => by first | rfl | cases h)
 refine d_v 10 (by kernel_rfl) rfl rfl ttok rfl (by trivial) ?_ (fun h => by first | rfl | cases h)
 refine df 11 ?_; refine dst 12 ?_; refine dz0 ?_; have hp0 : 0 < m := (sgn_pos m).1 (by omega)
 have e1 : useR rs y m = (rs.set y (⟨(nthR rs y).l, (nthR rs y).m, (nthR rs y).u + m, (nthR rs y).t - m, (nthR rs y).e, (nthR rs y).c⟩ : Rw)) := if_pos hp0
 have e2 : useU rs us v y m = us ++ [(⟨v, (y : Int), m, (nthR rs y).t, (nthR rs y).t - m⟩ : Us)] := if_pos hp0
 have e3 : ((rs.set (y) (⟨(nthR rs (y)).l, (nthR rs (y)).m, ((nthR rs (y)).u + m), (nthR rs (y)).t, (nthR rs (y)).e, (nthR rs (y)).c⟩ : Rw)).set (y) (⟨(nthR rs (y)).l, (nthR rs (y)).m, ((nthR rs (y)).u + m), ((nthR rs (y)).t - m), (nthR rs (y)).e, (nthR rs (y)).c⟩ : Rw)) = (rs.set y (⟨(nthR rs y).l, (nthR rs y).m, (nthR rs y).u + m, (nthR rs y).t - m, (nthR rs y).e, (nthR rs y).c⟩ : Rw)) := by rw [List.set_set]
 refine enS (cls (j := 0) (k := 1) (p := 0) (e := 66) (z := 24) (n := rs.length) (trs := (rs.set y (⟨(nthR rs y).l, (nthR rs y).m, (nthR rs y).u + m, (nthR rs y).t - m, (nthR rs y).e, (nthR rs y).c⟩ : Rw)).flatMap (rtr false)) (l' := flC M N (.t (.s true 66 24 (rs.length) ((rs.set y (⟨(nthR rs y).l, (nthR rs y).m, (nthR rs y).u + m, (nthR rs y).t - m, (nthR rs y).e, (nthR rs y).c⟩ : Rw)).flatMap (rtr false)))) (.sl 6 0 (us.length + 1)) (.t L)) rfl rfl rfl (congrArg (fun l : List Rw => some (⟨66, 24, (l.flatMap (rtr false)).map .t⟩ : Ob)) e3) rfl (take_self _ _ (by rw [rflat_len, List.length_set])) (by rw [rflat_len, List.length_set]) rfl) ?_
 refine enS (cls (j := 0) (k := 6) (p := 1) (e := 46) (z := 14) (n := us.length + 1) (trs := (us ++ [(⟨v, (y : Int), m, (nthR rs y).t, (nthR rs y).t - m⟩ : Us)]).flatMap (utr false)) (l' := flC M N (.t (.s true 66 24 rs.length ((rs.set y (⟨(nthR rs y).l, (nthR rs y).m, (nthR rs y).u + m, (nthR rs y).t - m, (nthR rs y).e, (nthR rs y).c⟩ : Rw)).flatMap (rtr false)))) (.t (.s true 46 14 (us.length + 1) ((us ++ [(⟨v, (y : Int), m, (nthR rs y).t, (nthR rs y).t - m⟩ : Us)]).flatMap (utr false)))) (.t L)) rfl rfl rfl (congrArg (fun l : List AV => some (⟨46, 14, l⟩ : Ob)) (ucl_snoc us (⟨v, (y : Int), m, (nthR rs y).t, (nthR rs y).t - m⟩ : Us))) rfl (take_self _ _ (by rw [uflat_len, List.length_append]; rfl)) (by rw [uflat_len, List.length_append]; rfl) rfl) ?_
 exact enS0 <| enL (lent' := [flO M N (useR rs y m) (useU rs us v y m) L]) (.inr rfl) rfl (pk0) (by decide) (fun _ h => by cases h) ⟨⟨rfl, rfl⟩, trivial⟩ ⟨by unfold flO; rw [e1, e2, show sRw true false (rs.set y (⟨(nthR rs y).l, (nthR rs y).m, (nthR rs y).u + m, (nthR rs y).t - m, (nthR rs y).e, (nthR rs y).c⟩ : Rw)) = .s true 66 24 rs.length ((rs.set y (⟨(nthR rs y).l, (nthR rs y).m, (nthR rs y).u + m, (nthR rs y).t - m, (nthR rs y).e, (nthR rs y).c⟩ : Rw)).flatMap (rtr false)) by rw [sRw, List.length_set], show sUs true false (us ++ [(⟨v, (y : Int), m, (nthR rs y).t, (nthR rs y).t - m⟩ : Us)]) = .s true 46 14 (us.length + 1) ((us ++ [(⟨v, (y : Int), m, (nthR rs y).t, (nthR rs y).t - m⟩ : Us)]).flatMap (utr false)) by rw [sUs, List.length_append]; rfl]; rfl, trivial⟩ ⟨rfl, trivial⟩ (fun h => by cases h) ⟨rfl, rfl⟩
theorem m_roomM {M : Mx} {N n y : Nat} {U : List Us} {e c : Nat → Rat} (hOk : M.Ok N) (hI : M.Iv N U) (hy : y < n) (hn : n ≤ N) {L : Tr} : Spec false Tryz.prog 124 [⟨92, 0, flC M N (.t (sRw true false (M.rows U e c n))) (.t (sUs true false U)) (.t L)⟩] [.one (.pt 0 0), .one (tv (.int .i64 ((y : Nat) : Int)))] (Rt [⟨92, 0, flC M N (.t (sRw true false (M.rows U e c n))) (.t (sUs true false U)) (.t L)⟩] (qF (.of (M.room U y)))) := by
 have hN := hOk.n
 have h := m_room (M := M) (N := N) (y := y) (rs := M.rows U e c n) (us := U) (L := L) (by rw [rows_len]; exact hy) (by omega) ((hOk.sz_ring (by omega)).mono (by omega)) (by rw [rows_nth hy]; exact (hOk.sz_lim (by omega)).mono (by omega)) (by rw [rows_nth hy]; exact (hI.sz_in hOk (by omega)).mono (by omega)) (by rw [rows_len]; omega) (by omega)
 rw [rows_nth hy] at h
 exact h
theorem m_room2M {M : Mx} {N n y : Nat} {U : List Us} {e c : Nat → Rat} (hOk : M.Ok N) (hI : M.Iv N U) (hy : y < n) (hn : n ≤ N) {o1 : Lt} (ho1 : refCs 2 o1.l = true) : Spec false Tryz.prog 124 [⟨92, 0, flC M N (.t (sRw true false (M.rows U e c n))) (.t (sUs true false U)) (.pt 1 0)⟩, o1] [.one (.pt 0 0), .one (tv (.int .i64 ((y : Nat) : Int)))] (Rt [⟨92, 0, flC M N (.t (sRw true false (M.rows U e c n))) (.t (sUs true false U)) (.pt 1 0)⟩, o1] (qF (.of (M.room U y)))) := by
 have hN := hOk.n
 have h := m_room2 (M := M) (N := N) (y := y) (rs := M.rows U e c n) (us := U) ho1 (by rw [rows_len]; exact hy) (by omega) ((hOk.sz_ring (by omega)).mono (by omega)) (by rw [rows_nth hy]; exact (hOk.sz_lim (by omega)).mono (by omega)) (by rw [rows_nth hy]; exact (hI.sz_in hOk (by omega)).mono (by omega)) (by rw [rows_len]; omega) (by omega)
 rw [rows_nth hy] at h
 exact h
theorem m_useM {M : Mx} {N n y : Nat} {U : List Us} {e c : Nat → Rat} (hOk : M.Ok N) (hI : M.Iv N U) (hy : y < n) (hn : n ≤ N) {v : Int} {m : Rat} {L : Tr} (hm : Sz 330 m) (hU : U.length ≤ 2000) : Spec false Tryz.prog 125 [flO M N (M.rows U e c n) U L] [.one (.pt 0 0), .one (tv (.int .i64 v)), .one (tv (.int .i64 ((y : Nat) : Int))), qF (.of m)] (Rt [flO M N (M.rows (M.us U v y m) e c n) (M.us U v y m) L] (.tup [])) := by
 have hN := hOk.n
 have h := m_use (M := M) (N := N) (y := y) (v := v) (m := m) (rs := M.rows U e c n) (us := U) (L := L) (by rw [rows_len]; exact hy) (hm.mono (by omega)) (by rw [rows_nth hy]; exact (hI.sz_in hOk (by omega)).mono (by omega)) (by rw [rows_nth hy]; exact (hI.sz_tax hOk (by omega)).mono (by omega)) (by rw [rows_len]; omega) (by omega)
 rw [rows_use hy, uses_use hy] at h
 exact h
theorem sgn_neg (q : Rat) : q.num.sign < 0 ↔ q < 0 := by
 rw [Int.sign_neg_iff]
 have := Rat.num_nonneg (q := q)
 constructor
 ·intro h
  rcases Rat.le_total (a := 0) (b := q) with h1 | h1
  ·have := this.2 h1; omega
  rcases Rat.le_iff_lt_or_eq.1 h1 with h2 | h2
  ·exact h2
  rw [h2] at h; cases h
 intro h
 rcases Int.lt_or_le q.num 0 with h1 | h1
 ·exact h1
 have := this.1 h1; grind
section
variable {M : Mx} {N v y n k : Nat} {U : List Us} {m : Rat}
open Mx
theorem us_len {v : Int} : (M.us U v y m).length ≤ U.length + 1 := by
 unfold Mx.us Mx.app
 split <;> simp
theorem fold_len {α : Type} {f : List Us → α → List Us} : ∀ (I : List α) (U : List Us), (∀ U x, (f U x).length ≤ U.length + 1) → (I.foldl f U).length ≤ U.length + I.length
 | [], U, _ => Nat.le_refl _
 | x :: I, U, h => by
  have h1 := h U x
  have h2 := fold_len I (f U x) h
  rw [List.foldl_cons, List.length_cons]
  omega
theorem back_len : (M.back U y k).length ≤ U.length + k := by
 have := fold_len (f := fun U x => M.use U y x) (List.range' (y - M.b) k) U fun _ _ => us_len
 rwa [List.length_range'] at this
theorem step_len (hb : M.b ≤ 3) (hw : M.w ≤ 40) : (M.step U y).length ≤ U.length + 40 := by
 unfold Mx.step
 split
 ·have := back_len (M := M) (U := U) (y := y) (k := y - (y - M.b))
  omega
 have := fold_len (f := fun U v => M.use U v y) (List.range' (y - M.w) (y - (y - M.w))) U fun _ _ => us_len
 rw [List.length_range'] at this
 unfold Mx.fwd
 omega
theorem run_len (hb : M.b ≤ 3) (hw : M.w ≤ 40) : ∀ k, (M.run k).length ≤ 40 * k
 | 0 => Nat.le_refl _
 | k + 1 => by
  have h1 := run_len hb hw k
  have h2 := step_len (U := M.run k) (y := k) hb hw
  show (M.step (M.run k) k).length ≤ _
  omega
theorem inY_use_ne (h : y ≠ n) : inY (M.use U v y) n = inY U n := by
 by_cases hp : 0 < qmin (M.left U v) [M.room U y]
 ·rw [use_yes hp]; exact inY_app_ne h
 rw [use_no hp]
theorem inY_fold {f : List Us → Nat → List Us} : ∀ (I : List Nat) (U : List Us), (∀ U x, x ∈ I → inY (f U x) n = inY U n) → inY (I.foldl f U) n = inY U n
 | [], U, _ => rfl
 | x :: I, U, h => by
  rw [List.foldl_cons, inY_fold I _ fun U z hz => h U z (List.mem_cons_of_mem _ hz)]
  exact h U x (List.mem_cons_self ..)
theorem inY_step (h : y < n) : inY (M.step U y) n = inY U n := by
 unfold Mx.step
 split
 ·exact inY_fold _ _ fun U x hx => by have := List.mem_range'_1.1 hx; exact inY_use_ne (by omega)
 exact inY_fold _ _ fun U x _ => inY_use_ne (by omega)
theorem inY_run : ∀ {k : Nat}, k ≤ n → inY (M.run k) n = 0
 | 0, _ => rfl
 | k + 1, h => by
  show inY (M.step (M.run k) k) n = 0
  rw [inY_step (by omega), inY_run (by omega)]
theorem putE_okM {q : Rat} {y last : Int} {put : Bool} (h0 : 0 ≤ q) (hl : put = true → last < y) : putE (rightQ (Fr4.of q).s (Fr4.of q).x (Fr4.of q).t (Fr4.of q).y) q y last put = 0 := by
 have h1 : rightQ (Fr4.of q).s (Fr4.of q).x (Fr4.of q).t (Fr4.of q).y = true := rightQ_dg q
 have h2 : ¬ q.num.sign < 0 := by
  have := Rat.num_nonneg.2 h0
  rw [Int.not_lt]
  exact Int.sign_nonneg_iff.2 this
 unfold putE
 rw [h1, if_neg (by simp), if_neg (by simp [h2])]
 cases put with
 | false => rfl
 | true => rw [if_neg (by have := hl rfl; simp; omega)]
theorem putL_ok {q : Rat} {y : Int} {vs : List (Int × Rat)} : putL 0 q y vs = vs ++ (if 0 < q then [(y, q)] else []) := by
 unfold putL
 rw [if_pos rfl]
 by_cases h : 0 < q
 ·rw [if_pos (decide_eq_true ((sgn_pos q).2 h)), if_pos h]
 rw [if_neg (by simpa using fun h9 => h ((sgn_pos q).1 h9)), if_neg h, List.append_nil]
theorem wl_one : wl M U [v] = if 0 < M.left U v then [((v : Int), M.left U v)] else [] := by
 by_cases h : 0 < M.left U v
 ·rw [wl_yes h, if_pos h]; rfl
 rw [wl_no h, if_neg h]; rfl
theorem wl_zero (h : M.left U v ≤ 0) : wl M U [v] = [] := by rw [wl_one, if_neg (by grind)]
theorem wl_ok {I : List Nat} (h : ∀ i ∈ I, Sz 330 (M.left U i)) : StOk (wl M U I) I.length (331 * I.length) := by
 induction I with
 | nil => exact ⟨fun x hx => (by cases hx), Nat.le_refl _, Nat.le_refl _⟩
 | cons i I ih =>
  obtain ⟨h1, h2, h3⟩ := ih fun j hj => h j (List.mem_cons_of_mem _ hj)
  by_cases hp : 0 < M.left U i
  ·rw [wl_yes hp]
   have h4 := sz_iff.1 (h i (List.mem_cons_self ..))
   refine ⟨fun x hx => ?_, by simp only [List.length_cons]; omega, ?_⟩
   ·rcases List.mem_cons.1 hx with rfl | hx
    ·exact hp
    exact h1 x hx
   simp only [List.map_cons, wts, List.sum_cons, List.length_cons, wt] at h3 ⊢
   omega
  rw [wl_no hp]
  exact ⟨h1, by simp only [List.length_cons]; omega, by simp only [List.length_cons]; omega⟩
theorem useL_len2 (fr : Int) : ∀ (l : List (Int × Rat)) (p : Rat), (useL fr l p).2.1.length ≤ l.length
 | [], _ => Nat.le_refl _
 | x :: l, p => by
  by_cases h : fr ≤ x.1 ∧ 0 < p
  ·rw [useL_yes h.1 h.2]
   have := useL_len2 fr l (p - qmin x.2 [p])
   simp only [List.length_cons]
   omega
  rw [useL_no h]
  have := useL_len2 fr l p
  simp only [List.length_cons]
  omega
theorem fwd_iv {fr : Int} (hy : y < N) : ∀ (I : List Nat) (U : List Us), M.Iv N U → M.Ok N → I.Nodup → (∀ i ∈ I, fr ≤ (i : Int) ∧ i < N) →
  (∀ x ∈ (useL fr (wl M U I) (M.room U y)).2.1, Sz 330 x.2 ∧ ∃ i ∈ I, x.1 = (i : Int)) ∧ ∀ j, M.Iv N (((useL fr (wl M U I) (M.room U y)).2.1.take j).foldl (fun U x => M.us U x.1 y x.2) U)
 | [], U, hI, _, _, _ => ⟨fun x hx => (by cases hx), fun j => by rw [show (useL fr (wl M U []) (M.room U y)).2.1 = [] from rfl, List.take_nil]; exact hI⟩
 | i :: I, U, hI, hOk, hn, hf => by
  obtain ⟨hi, hn⟩ := List.nodup_cons.1 hn
  have hf' : ∀ i ∈ I, fr ≤ (i : Int) ∧ i < N := fun j hj => hf j (List.mem_cons_of_mem _ hj)
  obtain ⟨hfi, hiN⟩ := hf i (List.mem_cons_self ..)
  have ne : ∀ j ∈ I, i ≠ j := fun j hj e => hi (e ▸ hj)
  have hI2 := hI.use hiN hy
  obtain ⟨ih1, ih2⟩ := fwd_iv (fr := fr) hy I (M.use U i y) hI2 hOk hn hf'
  have hw : wl M (M.use U i y) I = wl M U I := wl_same fun j hj => left_use_ne (ne j hj)
  rw [hw] at ih1 ih2
  by_cases hp : 0 < M.left U i
  ·rw [wl_yes hp]
   by_cases hr : 0 < M.room U y
   ·have hm : 0 < qmin (M.left U i) [M.room U y] := by rw [qmin2]; split <;> assumption
    have hroom : M.room (M.use U i y) y = M.room U y - qmin (M.left U i) [M.room U y] := by rw [use_yes hm]; exact room_app hm (qmin_le2 _ _)
    rw [useL_yes (x := ((i : Int), M.left U i)) hfi hr]
    rw [hroom] at ih1 ih2
    dsimp only
    refine ⟨fun x hx => ?_, fun j => ?_⟩
    ·rcases List.mem_cons.1 hx with rfl | hx
     ·exact ⟨qmin_sz (hI.sz_left hOk hiN) (fun q hq => by rw [List.mem_singleton] at hq; rw [hq]; exact hI.sz_room hOk hy), i, List.mem_cons_self .., rfl⟩
     obtain ⟨h1, j, hj, h2⟩ := ih1 x hx
     exact ⟨h1, j, List.mem_cons_of_mem _ hj, h2⟩
    cases j with
    | zero => exact hI
    | succ j =>
     rw [List.take_succ_cons, List.foldl_cons]
     exact ih2 j
   have hno : M.use U i y = U := use_no (by have := qmin_le2 (M.left U i) (M.room U y); grind)
   rw [useL_no (x := ((i : Int), M.left U i)) (fun h => hr h.2)]
   rw [hno] at ih1 ih2
   dsimp only
   refine ⟨fun x hx => ?_, ih2⟩
   obtain ⟨h1, j, hj, h2⟩ := ih1 x hx
   exact ⟨h1, j, List.mem_cons_of_mem _ hj, h2⟩
  have hno : M.use U i y = U := use_no (by have := qmin_le1 (M.left U i) (M.room U y); grind)
  rw [hno] at ih1 ih2
  rw [wl_no hp]
  refine ⟨fun x hx => ?_, ih2⟩
  obtain ⟨h1, j, hj, h2⟩ := ih1 x hx
  exact ⟨h1, j, List.mem_cons_of_mem _ hj, h2⟩
def Mx.ex (M : Mx) (k : Nat) (i : Nat) : Rat := if i + M.w < k then M.left (M.run k) i else 0
def Mx.cl (M : Mx) (N : Nat) (i : Nat) : Rat := if i + M.w < N then 0 else M.left (M.run N) i
def noteE (xs : List (Int × Rat)) (e : Nat → Rat) (i : Nat) : Rat := match xs.find? (fun x => decide (x.1 = (i : Int))) with
 | some x => x.2
 | none => e i
theorem note_wl {J : List Nat} {e : Nat → Rat} {i : Nat} : noteE (wl M U J) e i = if i ∈ J ∧ 0 < M.left U i then M.left U i else e i := by
 unfold noteE
 induction J with
 | nil => simp [wl]
 | cons j J ih =>
  by_cases hp : 0 < M.left U j
  ·rw [wl_yes hp, List.find?_cons]
   by_cases hj : j = i
   ·subst hj
    simp [hp]
   have : decide (((j : Nat) : Int) = ((i : Nat) : Int)) = false := decide_eq_false (by omega)
   simp only [this]
   rw [ih]
   simp [Ne.symm hj]
  rw [wl_no hp, ih]
  by_cases hj : j = i
  ·subst hj
   simp [hp]
  simp [Ne.symm hj]
theorem note_snoc {xs : List (Int × Rat)} {x : Int × Rat} {e : Nat → Rat} {i : Nat} (hd : ∀ z ∈ xs, z.1 ≠ x.1) : noteE (xs ++ [x]) e i = if x.1 = (i : Int) then x.2 else noteE xs e i := by
 unfold noteE
 rw [List.find?_append]
 by_cases h : x.1 = (i : Int)
 ·have h1 : xs.find? (fun z => decide (z.1 = (i : Int))) = none := by
   rw [List.find?_eq_none]
   intro z hz h9
   exact hd z hz (by rw [of_decide_eq_true h9, h])
  rw [h1, if_pos h]
  simp [h]
 have h2 : [x].find? (fun z => decide (z.1 = (i : Int))) = none := by simp [h]
 rw [h2, if_neg h]
 cases xs.find? (fun z => decide (z.1 = (i : Int))) <;> rfl
theorem wl_fst {I : List Nat} (h : I.Nodup) : ((wl M U I).map Prod.fst).Nodup := by
 induction I with
 | nil => simp [wl]
 | cons i I ih =>
  obtain ⟨hi, hn⟩ := List.nodup_cons.1 h
  by_cases hp : 0 < M.left U i
  ·rw [wl_yes hp, List.map_cons, List.nodup_cons]
   refine ⟨fun h9 => ?_, ih hn⟩
   obtain ⟨x, hx, e⟩ := List.mem_map.1 h9
   obtain ⟨j, hj, rfl, _⟩ := wl_mem hx
   dsimp only at e
   exact hi (by rwa [show i = j by omega])
  rw [wl_no hp]
  exact ih hn
theorem nodup_take {xs : List (Int × Rat)} {k : Nat} (h : (xs.map Prod.fst).Nodup) (hk : k < xs.length) : ∀ z ∈ xs.take k, z.1 ≠ (nthV xs k).1 := by
 intro z hz e
 obtain ⟨j, hj, rfl⟩ := List.getElem_of_mem hz
 rw [List.length_take] at hj
 rw [List.getElem_take] at e
 have e2 : nthV xs k = xs[k] := by
  have := nthV_get hk
  rw [List.getElem?_eq_getElem hk] at this
  injection this with this
  exact this.symm
 rw [e2] at e
 have h3 := List.pairwise_iff_getElem.1 h j k (by rw [List.length_map]; omega) (by rw [List.length_map]; omega) (by omega)
 rw [List.getElem_map, List.getElem_map] at h3
 exact h3 e
theorem keep1 : keepV (fun x : Int × Rat => decide (x.1 < (y : Int) - (M.w : Int) + 1)) (wl M U (M.I y ++ [y])) = wl M U (M.I (y + 1)) := by
 unfold keepV
 rw [wl_filter (p := fun z => !decide (z < (y : Int) - (M.w : Int) + 1)), I_succ]
def Mx.J (M : Mx) (y : Nat) : List Nat := (M.I y ++ [y]).filter fun (i : Nat) => !(!decide ((i : Int) < (y : Int) - (M.w : Int) + 1))
theorem keep2 : keepV (fun x : Int × Rat => !decide (x.1 < (y : Int) - (M.w : Int) + 1)) (wl M U (M.I y ++ [y])) = wl M U (M.J y) := by
 unfold keepV
 rw [wl_filter (p := fun z => !(!decide (z < (y : Int) - (M.w : Int) + 1)))]
 rfl
theorem J_mem {i : Nat} : i ∈ M.J y ↔ i + M.w = y := by
 unfold Mx.J
 rw [List.mem_filter, List.mem_append, I_mem, List.mem_singleton]
 simp only [Bool.not_not, decide_eq_true_eq]
 omega
theorem J_nodup : (M.J y).Nodup := by
 refine List.Pairwise.filter _ ?_
 show List.Nodup _
 rw [List.nodup_append]
 refine ⟨I_nodup, by simp, fun a ha b hb => ?_⟩
 have := I_mem.1 ha
 rw [List.mem_singleton] at hb
 omega
def Mx.lp (M : Mx) : Nat → Int × Bool
 | 0 => (0, false)
 | y + 1 => if M.inc y < 0 then ((y : Int), true) else M.lp y
theorem lp_lt : ∀ y : Nat, (M.lp y).2 = true → (M.lp y).1 < (y : Int)
 | 0, h => by cases h
 | y + 1, h => by
  unfold Mx.lp at h ⊢
  split
  ·dsimp only; omega
  rename_i h9
  rw [if_neg h9] at h
  have := lp_lt y h
  omega
theorem ex_step (hI : M.Iv N (M.run (y + 1))) (hy : y < N) {i : Nat} (hi : i < y + 1) : noteE (wl M (M.run (y + 1)) (M.J y)) (M.ex y) i = M.ex (y + 1) i := by
 rw [note_wl]
 simp only [J_mem]
 have h0 := (hI.v i (by omega)).1.1
 unfold Mx.ex
 by_cases h : i + M.w = y
 ·rw [if_neg (show ¬ i + M.w < y by omega), if_pos (show i + M.w < y + 1 by omega)]
  by_cases hp : 0 < M.left (M.run (y + 1)) i
  ·rw [if_pos ⟨h, hp⟩]
  rw [if_neg (fun h9 => hp h9.2)]
  grind
 rw [if_neg (fun h9 => h h9.1)]
 by_cases h2 : i + M.w < y
 ·rw [if_pos h2, if_pos (by omega)]
  exact (left_old h2).symm
 rw [if_neg h2, if_neg (by omega)]
theorem row_new {e c : Nat → Rat} (hy : inY U y = 0) (he : e y = 0) (hc : c y = 0) : (⟨abv (-(M.inc y)), M.cap * abv (M.inc y), ((0 : Int) : Rat), abv (M.inc y) - M.ring y, ((0 : Int) : Rat), ((0 : Int) : Rat)⟩ : Rw) = M.row U e c y := by
 unfold Mx.row Mx.los Mx.lim Mx.tax
 rw [hy, he, hc, show -(M.inc y) = 0 - M.inc y by grind, show M.ring y + 0 = M.ring y by grind]
 rfl
theorem led_back (h : M.inc y < 0) : wl M U (M.I y) ++ wl M (M.back U y k) [y] = wl M (M.back U y k) (M.I y ++ [y]) := by
 rw [wl_append]
 congr 1
 refine wl_same fun i hi => ?_
 have := I_mem.1 hi
 exact (left_back_ne (by omega)).symm
theorem led_fwd (h : ¬ M.inc y < 0) (hl : M.left U y = M.los y) (hk : k ≤ y - (y - M.w)) : wl M (M.fwd U y k) (M.I y) = wl M (M.fwd U y k) (M.I y ++ [y]) := by
 rw [wl_append, wl_zero (v := y), List.append_nil]
 unfold Mx.fwd
 rw [left_fold_ne _ _ (fun hm => by have := List.mem_range'_1.1 hm; omega), hl, left_noneg h]
 grind
theorem cl_end (hI : M.Iv N (M.run N)) {i : Nat} (hi : i < N) : noteE (wl M (M.run N) (M.I N)) (fun _ => 0) i = M.cl N i := by
 rw [note_wl]
 simp only [I_mem]
 have h0 := (hI.v i hi).1.1
 unfold Mx.cl
 by_cases h : i + M.w < N
 ·rw [if_pos h, if_neg (fun h9 => by omega)]
 rw [if_neg h]
 by_cases hp : 0 < M.left (M.run N) i
 ·rw [if_pos ⟨⟨hi, by omega⟩, hp⟩]
 rw [if_neg (fun h9 => hp h9.2)]
 grind
def UsOk (U : List Us) : Prop := ∀ u ∈ U, Sz 700 u.n ∧ Sz 700 u.p ∧ Sz 700 u.q
theorem UsOk.use (h : UsOk U) (hI : M.Iv N U) (hOk : M.Ok N) (hv : v < N) (hy : y < N) : UsOk (M.use U v y) := by
 by_cases hp : 0 < qmin (M.left U v) [M.room U y]
 ·rw [use_yes hp]
  intro u hu
  rcases List.mem_append.1 hu with hu | hu
  ·exact h u hu
  rw [List.mem_singleton] at hu
  subst hu
  have h1 : Sz 330 (qmin (M.left U v) [M.room U y]) := qmin_sz (hI.sz_left hOk hv) (fun q hq => by rw [List.mem_singleton] at hq; rw [hq]; exact hI.sz_room hOk hy)
  have h2 := hI.sz_tax hOk hy
  exact ⟨h1.mono (by omega), h2.mono (by omega), (sub_sz h2 h1).mono (by omega)⟩
 rw [use_no hp]
 exact h
theorem UsOk.fold {f : List Us → Nat → List Us} (hOk : M.Ok N) : ∀ (I : List Nat) {U : List Us}, UsOk U → M.Iv N U → (∀ U x, x ∈ I → UsOk U → M.Iv N U → UsOk (f U x) ∧ M.Iv N (f U x)) → UsOk (I.foldl f U)
 | [], _, h, _, _ => h
 | x :: I, U, h, hI, hf => by
  rw [List.foldl_cons]
  obtain ⟨h1, h2⟩ := hf U x (List.mem_cons_self ..) h hI
  exact UsOk.fold hOk I h1 h2 fun U z hz => hf U z (List.mem_cons_of_mem _ hz)
theorem UsOk.run (hOk : M.Ok N) : ∀ {k : Nat}, k ≤ N → UsOk (M.run k)
 | 0, _ => fun u hu => by cases hu
 | k + 1, hk => by
  have h1 := UsOk.run hOk (k := k) (by omega)
  have h2 := hOk.run (k := k) (by omega)
  show UsOk (M.step (M.run k) k)
  unfold Mx.step
  split
  ·exact UsOk.fold hOk _ h1 h2 fun U x hx h hI => by
    have := List.mem_range'_1.1 hx
    exact ⟨h.use hI hOk (by omega) (by omega), hI.use (by omega) (by omega)⟩
  exact UsOk.fold hOk _ h1 h2 fun U x hx h hI => by
   have := List.mem_range'_1.1 hx
   exact ⟨h.use hI hOk (by omega) (by omega), hI.use (by omega) (by omega)⟩
theorem row_sz {e c : Nat → Rat} (hOk : M.Ok N) (hI : M.Iv N U) (hy : y < N) (he : Sz 330 (e y)) (hc : Sz 330 (c y)) : Sz 330 (M.row U e c y).l ∧ Sz 330 (M.row U e c y).m ∧ Sz 330 (M.row U e c y).u ∧ Sz 330 (M.row U e c y).t ∧ Sz 330 (M.row U e c y).e ∧ Sz 330 (M.row U e c y).c :=
 ⟨hOk.sz_los hy, hOk.sz_lim hy, hI.sz_in hOk hy, hI.sz_tax hOk hy, he, hc⟩
theorem ex_sz (hOk : M.Ok N) (hk : k ≤ N) (hy : y < N) : Sz 330 (M.ex k y) := by
 unfold Mx.ex
 split
 ·exact (hOk.run hk).sz_left hOk hy
 exact (int_sz (z := 0) (by omega) (by omega)).mono (by omega)
theorem cl_sz (hOk : M.Ok N) (hy : y < N) : Sz 330 (M.cl N y) := by
 unfold Mx.cl
 split
 ·exact (int_sz (z := 0) (by omega) (by omega)).mono (by omega)
 exact (hOk.run (Nat.le_refl _)).sz_left hOk hy
theorem ofV_run (h : k ≤ v) : ofV (M.run k) v = 0 := by
 have := left_run (M := M) h
 unfold Mx.left at this
 grind
end
theorem p_clone {y : Int} {a : Fr4} {p : Rat} (ha : Qn a p) : Spec true Tryz.prog 132 [] [.agg (((Tr.v (.int .i64 y) :: a.tr false) : List Tr).map .t)] (Ret (.agg ((vtr true (y, p)).map .t))) := by
 refine fn0 Tryz.func132 rfl Tryz.ntmps132 rfl ttok rfl fun N w c0 h0 => ?_
 refine sq ?_; refine rl ?_; refine bx 0 ?_; refine al 1 ?_; refine nl ?_; refine sq ?_; refine rd [0, 1] (fun i => [7].contains i) mixed ?_
 refine dv 0 ?_; refine dld 1 ?_; refine dv 2 ?_; refine dld 3 ?_; refine dca 4 rfl (c_rWhole (z := 0) (by omega) (by omega)) ok69 ⟨a1 rfl, rfl⟩ (qF (.of ((0 : Int) : Rat))) ?_
 refine dck 2 5 rfl (p_Add0 ha) ok70 ⟨a1g rfl, a1g rfl, rfl⟩ ?_; refine df 6 ?_; refine dst 7 ?_; refine dz0 ?_; refine rt ?_
 exact en (.inl rfl) rfl (pk1 (.agg (.cons (.id rfl) (.cons (.id rfl) (.cons (.sl (trs := u32T (dg 4294967296 p.num.natAbs)) rfl rfl (tk_u32 _) (ln_u32 _)) (.cons (.id rfl) (.cons (.sl (trs := u32T (dg 4294967296 p.den)) rfl rfl (tk_u32 _) (ln_u32 _)) .nil))))))) (by decide) (fun _ => nofr_vtr (y, p)) rfl
theorem p_rows {vs : List (Int × Rat)} {rest : List Tr} (hz : ∀ x ∈ vs, Sz 68719476736 x.2) (hl : vs.length ≤ 1073741823) : Spec true Tryz.prog 88 [] [.one (.ef (sV 97 false vs :: rest) 0)] (Ret (.one (.t (sO 97 vs)))) := by
 refine fn0 Tryz.func88 rfl Tryz.ntmps88 rfl ttok rfl fun N w c0 h0 => ?_
 refine sq ?_; refine rl ?_; refine o1 ?_; refine nl ?_; refine sq ?_; refine rl ?_; refine o1 ?_; refine nl ?_; refine sq ?_; refine sq ?_; refine rl ?_; (iterate 3 refine o1 ?_)
 refine ldf ([(sV 97 false vs)]) rfl ?_; refine o1 ?_; refine o1 ?_; refine nl ?_; refine bl ?_
 refine lp (γ := Nat) (fun k => frL [(3, .one (.sl 0 0 k)), (9, .one (.t (sV 97 false vs))), (10, .one (tv (.int .i64 ((vs.length : Nat) : Int)))), (11, .one (tv (.int .i64 ((k : Nat) : Int))))]) (fun k => [({ t := 97, z := 5, l := vco (vs.take k) } : Ob)].map some) (fun k => k ≤ vs.length) (fun k => vs.length - k) 0 (Nat.zero_le _) ((nr (i := 3) 0 97 5 rfl rfl rfl rfl).trans (su0 h0 [0] _ _ (by decide) ⟨rfl, rfl, rfl, rfl, trivial⟩ ⟨oe rfl rfl, rfl⟩)) fun k hk => ?_
 refine sq ?_; refine rl ?_; refine o1 ?_; refine nl ?_; refine sq ?_; refine cdp rfl (fun h1 => ?_) (fun h1 => ?_)
 ·refine sk ?_; refine sq ?_; refine bl ?_; refine sq ?_; refine rl ?_; refine o1 ?_; refine ldf (vtr false (nthV vs (k))) (vin_at false (by omega)) ?_
  refine al 1 ?_; refine st ?_; refine nl ?_; refine rl ?_; refine o1 ?_; refine ld ?_
  refine cak 2 (p_clone (y := (nthV vs (k)).1) (Qn.of (p := (nthV vs (k)).2) (hz _ (nthV_mem (by omega))))) ok132 ⟨a1g rfl, rfl⟩ ?_
  refine bs 4 ?_; refine w_app (j := 5) ttok rfl rfl rfl rfl (.sl rfl (by rw [vco_len, List.length_take, Nat.min_eq_left hk])) (.sl rfl rfl rfl) rfl rfl rfl (by omega) (by omega) ?_
  refine o1 ?_; refine nl ?_; refine rl ?_; refine o1 ?_; refine WL.cast (t := 20) (u' := .int .i64 ((k + 1 : Nat) : Int)) rfl (cint (by omega)) ?_
  refine o1 ?_; refine nl ?_; have hst : vco (vs.take (k + 1)) = vco (vs.take k ++ [((nthV vs k).1, (nthV vs k).2)]) := by rw [take_v (by omega)]
  exact ⟨k + 1, by omega, by omega, (pkV (j := 5) (k1 := 2) (k2 := 3) (us := vs.take k) rfl rfl rfl rfl rfl rfl).trans (su0 h0 [5] _ _ (by decide) ⟨rfl, rfl, rfl, rfl, trivial⟩ ⟨oet (congrArg (fun l => some (⟨97, 5, l⟩ : Ob)) hst.symm), rfl⟩)⟩
 refine ex ?_; refine sq ?_; refine rl ?_; refine o1 ?_; refine o1 ?_; refine nl ?_; refine rt ?_; have hkk : vs.take k = vs := List.take_of_length_le (by omega)
 have hkn : k = vs.length := by omega
 exact en (.inl rfl) rfl (pk1 (.one (.sl (trs := (vs.take k).flatMap (vtr true)) rfl rfl (by rw [List.take_of_length_le (by rw [vco_len, List.length_take]; omega)]; rfl) (by rw [vflat_len, List.length_take, Nat.min_eq_left hk])))) (by decide) (fun _ => by rw [hkk]; exact .inl ⟨rfl, nofr_vo vs⟩) (by rw [hkk, hkn]; rfl)
theorem p_Rows {vs : List (Int × Rat)} {rest : List Tr} (hz : ∀ x ∈ vs, Sz 68719476736 x.2) (hl : vs.length ≤ 1073741823) : Spec true Tryz.prog 38 [] [.one (.ef (sV 97 false vs :: rest) 0)] (Ret (.one (.t (sO 97 vs)))) := by
 refine fn0 Tryz.func38 rfl Tryz.ntmps38 rfl ttok rfl fun N w c0 h0 => ?_
 refine sq ?_; refine rl ?_; refine o1 ?_; refine nl ?_; refine sq ?_; refine sq ?_; refine rl ?_; refine o1 ?_; refine o1 ?_; refine nl ?_; refine cdf rfl ?_; refine sk ?_; refine sq ?_; refine rl ?_
 (iterate 3 refine o1 ?_); refine cak 0 (p_rows hz hl) ok88 ⟨a1o rfl .ef, rfl⟩ ?_; refine o1 ?_; refine nl ?_; refine rt ?_
 exact en (.inl rfl) rfl (pk1 (.one (.sl (trs := vs.flatMap (vtr true)) rfl rfl (take_self _ _ (vflat_len true vs)) (vflat_len true vs)))) (by decide) (fun _ => nofr_sO _ _) rfl
theorem p_New : Spec true Tryz.prog 36 [] [] (Ret (.one (.t (.p true 136 [sR 97 [], .v (.int .i64 0), .v (.bool false)])))) := by
 refine fn0 Tryz.func36 rfl Tryz.ntmps36 rfl ttok rfl fun N w c0 h0 => ?_
 refine sq ?_; refine rl ?_; refine o1 ?_; refine nl ?_; refine sq ?_; refine rl ?_; refine o1 ?_; refine bx 0 ?_
 refine WL.sub ((nro (j := 0) (key := 1) (e := 97) (z := 5) rfl rfl rfl (.sl (.id (.id .nil)))).trans (cls (j := 0) (k := 1) (p := 0) (n := 0) (trs := []) rfl rfl rfl rfl rfl rfl rfl rfl)) ?_
 refine o1 ?_; refine nl ?_; refine rt ?_
 exact en (.inl rfl) rfl (pk1 (.one (.pt (k := 0) (trs := [sR 97 [], .v (.int .i64 0), .v (.bool false)]) rfl))) (by decide) (fun _ => ⟨rfl, .inl ⟨rfl, trivial⟩, trivial, trivial, trivial⟩) rfl
theorem p_IndexFunc {vs : List (Int × Rat)} {dl : Int × Rat → Bool} {fd : FuncId} {fst caps : List Tr} (hok : CallOk Tryz.prog fd) (hd : ∀ x ∈ vs, Spec true Tryz.prog fd [] (capF fst ++ [.agg ((vtr false x).map .t)] ++ capF caps) (Ret (.one (tv (.bool (dl x)))))) (hl : vs.length ≤ 1073741823) : Spec true Tryz.prog 178 [] [.one (.t (sV 97 false vs)), .one (.t (.f fd fst caps))] (Ret (.one (tv (.int .i64 (if ixV dl vs = vs.length then -1 else (ixV dl vs : Int)))))) := by
 refine fn0 Tryz.func178 rfl Tryz.ntmps178 rfl ttok rfl fun N w c0 h0 => ?_
 refine sq ?_; refine rl ?_; refine o1 ?_; refine nl ?_; refine sq ?_; refine sq ?_; refine rl ?_; (iterate 3 refine o1 ?_); refine nl ?_; refine bl ?_
 refine lp (γ := Nat) (fun k => frL [(0, .one (.t (sV 97 false vs))), (1, .one (.t (.f fd fst caps))), (7, .one (tv (.int .i64 ((vs.length : Nat) : Int)))), (8, .one (tv (.int .i64 ((k : Nat) : Int))))]) (fun k => [].map some) (fun k => k ≤ vs.length ∧ k ≤ ixV dl vs) (fun k => vs.length - k) 0 (⟨Nat.zero_le _, Nat.zero_le _⟩) (su0 h0 [] _ _ (by decide) ⟨rfl, rfl, rfl, rfl, trivial⟩ rfl) fun k hk => ?_
 refine sq ?_; refine rl ?_; refine o1 ?_; refine nl ?_; refine sq ?_; refine cdp rfl (fun h1 => ?_) (fun h1 => ?_)
 ·refine sk ?_; refine sq ?_; refine bl ?_; refine sq ?_; refine rl ?_; refine o1 ?_; refine o1 ?_; refine nl ?_; refine sq ?_; refine rl ?_; (iterate 4 refine o1 ?_)
  refine ldf (vtr false (nthV vs (k))) (vin_at false (by omega)) ?_
  refine ce 0 [.agg ((vtr false (nthV vs k)).map .t)] rfl (hd (nthV vs k) (nthV_mem (by omega))) hok ⟨rfl, rfl⟩ ?_
  refine nl ?_; refine cdq rfl (fun h2 => ?_) (fun h2 => ?_)
  ·refine sq ?_; refine rl ?_; refine o1 ?_; refine o1 ?_; refine nl ?_; refine rt ?_; have hx9 := (ixV_step hk.2 (by omega)).1 h2
   exact en (.inl rfl) rfl (pk1 (pkv _)) (by decide) (fun _ => trivial) (congrArg (fun z => FV.one (tv (.int .i64 z))) (by rw [hx9, if_neg (by omega)]))
  refine sk ?_; refine rl ?_; refine o1 ?_; refine WL.cast (t := 18) (u' := .int .i64 ((k + 1 : Nat) : Int)) rfl (cint (by omega)) ?_
  refine o1 ?_; refine nl ?_; exact ⟨k + 1, by omega, ⟨by omega, (ixV_step hk.2 (by omega)).2 h2⟩, su0 h0 [] _ _ (by decide) ⟨rfl, rfl, rfl, rfl, trivial⟩ rfl⟩
 refine ex ?_; refine sq ?_; refine rl ?_; refine o1 ?_; refine nl ?_; refine rt ?_; have hx9 := ixV_le (dl := dl) vs
 exact en (.inl rfl) rfl (pk1 (pkv _)) (by decide) (fun _ => trivial) (congrArg (fun z => FV.one (tv (.int .i64 z))) (by rw [if_pos (by omega)]))
theorem p_Index_hit {vs : List (Int × Rat)} {dl : Int × Rat → Bool} {fd : FuncId} {fst caps : List Tr} (hok : CallOk Tryz.prog fd) (hd : ∀ x ∈ vs, Spec true Tryz.prog fd [] (capF fst ++ [.agg ((vtr false x).map .t)] ++ capF caps) (Ret (.one (tv (.bool (dl x)))))) (hl : vs.length ≤ 1073741823) (hix : ixV dl vs < vs.length) : Spec true Tryz.prog 178 [] [.one (.t (sV 97 false vs)), .one (.t (.f fd fst caps))] (Ret (.one (tv (.int .i64 ((ixV dl vs : Nat) : Int))))) := by
 have h9 := p_IndexFunc hok hd hl
 rwa [if_neg (by omega)] at h9
theorem p_Index_none {vs : List (Int × Rat)} {dl : Int × Rat → Bool} {fd : FuncId} {fst caps : List Tr} (hok : CallOk Tryz.prog fd) (hd : ∀ x ∈ vs, Spec true Tryz.prog fd [] (capF fst ++ [.agg ((vtr false x).map .t)] ++ capF caps) (Ret (.one (tv (.bool (dl x)))))) (hl : vs.length ≤ 1073741823) (hix : ixV dl vs = vs.length) : Spec true Tryz.prog 178 [] [.one (.t (sV 97 false vs)), .one (.t (.f fd fst caps))] (Ret (.one (tv (.int .i64 (-1))))) := by
 have h9 := p_IndexFunc hok hd hl
 rwa [if_pos hix] at h9
theorem p_DeleteFunc {vs : List (Int × Rat)} {dl : Int × Rat → Bool} {fd : FuncId} {fst caps : List Tr} (hok : CallOk Tryz.prog fd) (hd : ∀ x ∈ vs, Spec true Tryz.prog fd [] (capF fst ++ [.agg ((vtr false x).map .t)] ++ capF caps) (Ret (.one (tv (.bool (dl x)))))) (hl : vs.length ≤ 1073741823) : Spec false Tryz.prog 165 [⟨97, 5, vcl vs⟩] [.one (.sl 0 0 vs.length), .one (.t (.f fd fst caps))] (Rt [⟨97, 5, (swept vs (keepV dl vs)).map .t⟩] (.one (.sl 0 0 (keepV dl vs).length))) := by
 refine fnL Tryz.func165 rfl Tryz.ntmps165 rfl ttok rfl fun N M w c0 h0 => ?_
 have hix0 := ixV_le (dl := dl) vs
 rcases Nat.lt_or_ge (ixV dl vs) vs.length with hix | hix
 ·refine sq ?_; refine rl ?_; refine o1 ?_; refine nl ?_; refine sq ?_; refine rl ?_; refine o1 ?_; refine o1 ?_
  refine ca (p_Index_hit hok hd hl hix) ok178 ⟨a1o rfl (.sl rfl rfl (take_self _ _ rfl) (vflat_len false vs)), a1 rfl, rfl⟩ (.one (tv (.int .i64 ((ixV dl vs : Nat) : Int)))) ?_; refine o1 ?_
  refine nl ?_; refine sq ?_; refine sq ?_; refine rl ?_; refine o1 ?_; refine o1 ?_; refine nl ?_; refine cdp rfl (fun h1 => ?_) (fun h1 => ?_)
  ·exact absurd h1 (by omega)
  refine sk ?_; refine sq ?_; refine sq ?_; refine rl ?_; refine o1 ?_; refine o1 ?_; refine WL.cast (t := 15) (u' := .int .i64 ((ixV dl vs + 1 : Nat) : Int)) rfl (cint (by omega)) ?_
  refine o1 ?_; refine nl ?_; refine bl ?_
  refine lp (γ := Nat × Nat × List (Int × Rat)) (fun s => frL [(0, .one (.sl 0 0 vs.length)), (1, .one (.t (.f fd fst caps))), (5, .one (tv (.int .i64 ((s.1 : Nat) : Int)))), (6, .one (tv (.int .i64 ((s.2.1 : Nat) : Int))))]) (fun s => [({ t := 97, z := 5, l := vcl s.2.2 } : Ob)].map some) (fun s => s.1 ≤ s.2.1 ∧ s.2.1 ≤ vs.length ∧ s.2.2.length = vs.length ∧ s.2.2.take s.1 = (vs.take s.2.1).filter (fun x => !dl x) ∧ ∀ m, s.2.1 ≤ m → nthV s.2.2 m = nthV vs m) (fun s => vs.length - s.2.1) (ixV dl vs, ixV dl vs + 1, vs) ⟨by dsimp only; omega, by dsimp only; omega, rfl, del_start hix, fun _ _ => rfl⟩ (suL h0 [0] _ _ (by decide) rfl ⟨rfl, rfl, rfl, rfl, trivial⟩ ⟨oet rfl, rfl⟩) ?_
  rintro ⟨i, j, us⟩ ⟨hij, hj, hul, hpre, hsuf⟩; dsimp only at hij hj hul hpre hsuf ⊢; refine sq ?_; refine sq ?_; refine rl ?_; (iterate 4 refine o1 ?_); refine nl ?_
  refine cdp rfl (fun h2 => ?_) (fun h2 => ?_)
  ·refine sk ?_; refine sq ?_; refine bl ?_; refine sq ?_; have hsj : nthV us j = nthV vs j := hsuf j (Nat.le_refl _)
   refine rl ?_; (iterate 3 refine o1 ?_); refine lda (row_at (us := us) (k := j) (by omega)) ?_
   refine al 1 ?_; refine st ?_; refine nl ?_; refine sq ?_; refine rl ?_; refine o1 ?_; refine ld ?_
   refine ce 2 [.agg ((vtr false (nthV us j)).map .t)] rfl (hd (nthV us j) (by rw [hsj]; exact nthV_mem (by omega))) hok ⟨rfl, rfl⟩ ?_
   refine WL.splitb (t := 28) rfl (fun h3 => ?_) (fun h3 => ?_)
   ·refine o1 ?_; refine nl ?_; refine cdf rfl ?_; refine sk ?_; refine rl ?_; refine o1 ?_; refine o1 ?_
    refine WL.cast (t := 21) (u' := .int .i64 ((j + 1 : Nat) : Int)) rfl (cint (by omega)) ?_
    refine o1 ?_; refine nl ?_
    exact ⟨(i, j + 1, us), by dsimp only; omega, ⟨by dsimp only; omega, by dsimp only; omega, hul, by dsimp only; exact del_drop hpre (by omega) (by rw [← hsj]; exact h3), fun m hm => hsuf m (by dsimp only at hm; omega)⟩, suL h0 [0] _ _ (by decide) rfl ⟨rfl, rfl, rfl, rfl, trivial⟩ ⟨oet rfl, rfl⟩⟩
   refine o1 ?_; refine nl ?_; refine cdt rfl ?_; refine sq ?_; refine rl ?_; refine o1 ?_; refine o1 ?_; refine ld ?_; refine o1 ?_
   refine sto (put_v (us := us) (k := i) (x := ((nthV us (j)).1, (nthV us (j)).2)) (by omega)) (row_le (us := us) (k := i) (by omega)) ?_
   refine nl ?_; refine rl ?_; refine o1 ?_; refine o1 ?_; refine WL.cast (t := 35) (u' := .int .i64 ((i + 1 : Nat) : Int)) rfl (cint (by omega)) ?_
   refine o1 ?_; refine nl ?_; refine rl ?_; refine o1 ?_; refine o1 ?_; refine WL.cast (t := 21) (u' := .int .i64 ((j + 1 : Nat) : Int)) rfl (cint (by omega)) ?_
   refine o1 ?_; refine nl ?_
   exact ⟨(i + 1, j + 1, us.set i (nthV us j)), by dsimp only; omega, ⟨by dsimp only; omega, by dsimp only; omega, by dsimp only; rw [List.length_set]; exact hul, by dsimp only; rw [hsj]; exact del_keep hpre (by omega) (by rw [← hsj]; exact h3) (by omega), fun m hm => by dsimp only at hm ⊢; rw [nth_ne (by omega)]; exact hsuf m (by omega)⟩, suL h0 [0] _ _ (by decide) rfl ⟨rfl, rfl, rfl, rfl, trivial⟩ ⟨oet rfl, rfl⟩⟩
  refine ex ?_; refine sq ?_; refine rl ?_; (iterate 3 refine o1 ?_); have hF : us.take i = keepV dl vs := by rw [hpre, List.take_of_length_le (by omega)]; rfl
  refine clear (o := 0 + i * 5) (n := vs.length - i) (z := 5) (zz := .agg zV.toArray) (l := vcl us) (l' := (swept vs (keepV dl vs)).map .t) (by rw [vcl_len]; omega) ((by rw [← hul] : putA (vcl us) (0 + i * 5) ((zRow zV (vs.length - i)).map tv) = putA (vcl us) (0 + i * 5) ((zRow zV (us.length - i)).map tv)).trans (swept_end hul (by omega) hF)) ?_
  refine nl ?_; refine sq ?_; refine rl ?_; (iterate 4 refine o1 ?_); refine nl ?_; refine rt ?_; have hFl : (keepV dl vs).length = i := by rw [← hF, List.length_take]; omega
  exact enL (lent' := [⟨97, 5, (swept vs (keepV dl vs)).map .t⟩]) (.inl rfl) rfl (pk1 (.one (.rf rfl rfl))) (by decide) (fun _ h => by cases h) ⟨⟨rfl, rfl⟩, trivial⟩ ⟨rfl, trivial⟩ ⟨refC_t _, trivial⟩ (fun h => by cases h) ⟨rfl, by rw [hFl]⟩
 replace hix : ixV dl vs = vs.length := by omega
 refine sq ?_; refine rl ?_; refine o1 ?_; refine nl ?_; refine sq ?_; refine rl ?_; refine o1 ?_; refine o1 ?_
 refine ca (p_Index_none hok hd hl hix) ok178 ⟨a1o rfl (.sl rfl rfl (take_self _ _ rfl) (vflat_len false vs)), a1 rfl, rfl⟩ (.one (tv (.int .i64 (-1)))) ?_; refine o1 ?_; refine nl ?_; refine sq ?_
 refine sq ?_; refine rl ?_; refine o1 ?_; refine o1 ?_; refine nl ?_; refine cdp rfl (fun h4 => ?_) (fun h4 => ?_)
 ·refine sq ?_; refine rl ?_; refine o1 ?_; refine o1 ?_; refine nl ?_; refine rt ?_
  exact enL (lent' := [⟨97, 5, (swept vs (keepV dl vs)).map .t⟩]) (.inl rfl) rfl (pk1 (.one (.rf rfl rfl))) (by decide) (fun _ h => by cases h) ⟨⟨rfl, rfl⟩, trivial⟩ ⟨congrArg (fun l => some (⟨97, 5, l⟩ : Ob)) (swept_all (keep_all hix)), trivial⟩ ⟨refC_t _, trivial⟩ (fun h => by cases h) ⟨rfl, by rw [keep_all hix]⟩
 exact absurd h4 (by omega)
theorem p_CloneS {vs : List (Int × Rat)} (hl : vs.length ≤ 1073741823) : Spec false Tryz.prog 129 [⟨97, 5, vcl vs⟩] [.one (.sl 0 0 vs.length)] (Rt [⟨97, 5, vcl vs⟩] (.one (.t (sR 97 vs)))) := by
 refine fnL Tryz.func129 rfl Tryz.ntmps129 rfl ttok rfl fun N M w c0 h0 => ?_
 refine sq ?_; refine rl ?_; refine o1 ?_; refine nl ?_; refine sq ?_; refine sq ?_; refine rl ?_; refine o1 ?_; refine nq (fun hn0 => ?_) ?_
 ·refine nl ?_; refine cdt rfl ?_; refine sq ?_; refine rl ?_; refine o1 ?_; refine nl ?_; refine rt ?_; have hv0 : vs = [] := List.eq_nil_of_length_eq_zero hn0
  exact enL (lent' := [⟨97, 5, vcl vs⟩]) (.inl rfl) rfl (pk1 (.one (.nil (t := 97) (z := 5)))) (by decide) (fun _ h => by cases h) ⟨⟨rfl, rfl⟩, trivial⟩ ⟨rfl, trivial⟩ ⟨refC_t _, trivial⟩ (fun h => by cases h) ⟨rfl, by rw [hv0]; rfl⟩
 refine nl ?_; refine cdf rfl ?_; refine sk ?_; refine sq ?_; refine rl ?_; refine bs0 1 ?_; refine o1 ?_
 refine w_app (j := 2) (n := 0) (m := vs.length) (news := vcl vs) ttok rfl rfl rfl rfl (.sl rfl rfl) (.sl rfl (List.take_of_length_le (Nat.le_of_eq (vcl_len vs))) (vcl_len vs)) (rd_v vs) (lone_v vs) rfl (by omega) (by omega) ?_
 refine o1 ?_; refine nl ?_; refine rt ?_
 exact enL (lent' := [⟨97, 5, vcl vs⟩]) (.inl rfl) rfl (pk1 (.one (.sl (trs := vs.flatMap (vtr false)) rfl rfl (by rw [List.nil_append, Nat.zero_add]; exact List.take_of_length_le (Nat.le_of_eq (vcl_len vs))) (by rw [vflat_len, Nat.zero_add])))) (by decide) (by simp) ⟨⟨rfl, rfl⟩, trivial⟩ ⟨rfl, trivial⟩ ⟨refC_t _, trivial⟩ (fun h => by cases h) ⟨rfl, by rw [Nat.zero_add]; rfl⟩
theorem p_sweep {t0 : Nat} {rest : List Tr} {vs : List (Int × Rat)} {dl : Int × Rat → Bool} {fd : FuncId} {fst caps : List Tr} (hok : CallOk Tryz.prog fd) (hd : ∀ x ∈ vs, Spec true Tryz.prog fd [] (capF fst ++ [.agg ((vtr false x).map .t)] ++ capF caps) (Ret (.one (tv (.bool (dl x)))))) (hl : vs.length ≤ 1073741823) : Spec false Tryz.prog 130 [⟨t0, 0, .t (sR 97 vs) :: rest.map .t⟩] [.one (.pt 0 0), .one (.t (.f fd fst caps))] (Rt [⟨t0, 0, .t (sR 97 (keepV dl vs)) :: rest.map .t⟩] (.tup [])) := by
 refine fnL Tryz.func130 rfl Tryz.ntmps130 rfl ttok rfl fun N M w c0 h0 => ?_
 refine WP.sub (opn (j := 0) (key := 1) (p := 0) (e := 97) (z := 5) (n := vs.length) (trs := vs.flatMap (vtr false)) rfl rfl rfl rfl rfl) ?_; refine rl ?_; (iterate 4 refine o1 ?_); refine ld ?_
 refine o1 ?_; refine clr [1] (p_DeleteFunc hok hd hl) ok165 ⟨oet rfl, rfl⟩ ⟨rfl, rfl, rfl⟩ (ok := [some ⟨97, 5, (swept vs (keepV dl vs)).map .t⟩]) ⟨oet rfl, rfl⟩ ?_; refine o1 ?_; refine o1 ?_
 refine sto (o := 0) (us := [.sl 1 0 (keepV dl vs).length]) (l := .sl 1 0 vs.length :: rest.map .t) rfl (by simp) ?_
 refine WL.sub (cls (j := 0) (k := 1) (p := 0) (n := (keepV dl vs).length) (trs := (keepV dl vs).flatMap (vtr false)) rfl rfl rfl rfl rfl (swept_take _ _) (vflat_len _ _) rfl) ?_; refine nl ?_
 exact enL (lent' := [⟨t0, 0, .t (sR 97 (keepV dl vs)) :: rest.map .t⟩]) (.inr rfl) rfl pk0 (by decide) (fun _ h => by cases h) ⟨⟨rfl, rfl⟩, trivial⟩ ⟨rfl, trivial⟩ ⟨refC_t (sR _ _ :: rest), trivial⟩ (fun h => by cases h) ⟨rfl, rfl⟩
end Go.Proofs.YtofllcodkcjajaaGreat
