/- Part 14 of a proof: B15 to B15. -/
import Derived.Test.YtogaallfhifngaaGreatM13
set_option maxRecDepth 100000
set_option linter.unusedVariables false
set_option linter.unusedSimpArgs false
namespace Go.Proofs.YtogaallfhifngaaGreat
open Go Go.RowKit
theorem n_Put {y : Int} {a : Fr4} : Spec true Tryz.prog 22 [] [.one (tv (.pointer none)), .one (tv (.int .i64 y)), qF a] (Ret (.one (tv (.int .i64 1)))) := by
  refine fn0 Tryz.func22 rfl Tryz.ntmps22 rfl ttok rfl fun N w c0 h0 => ?_
  refine sq ?_; refine rl ?_; refine bx 0 ?_; refine o1 ?_; refine nl ?_; refine sq ?_; refine bl ?_; refine sq ?_; refine rl ?_; (iterate 3 refine o1 ?_); refine nl ?_; refine cdt rfl ?_; refine sq ?_
  refine rl ?_; refine o1 ?_; refine nl ?_; refine rt ?_; exact en (.inl rfl) rfl (pk1 (pkv _)) (by decide) (fun _ => trivial) rfl
theorem n_Use {y : Int} {a : Fr4} : Spec true Tryz.prog 15 [] [.one (tv (.pointer none)), .one (tv (.int .i64 y)), qF a] (Ret (.one (tv (.slice none 0 0)))) := by
  refine fn0 Tryz.func15 rfl Tryz.ntmps15 rfl ttok rfl fun N w c0 h0 => ?_
  refine sq ?_; refine rl ?_; refine bx 0 ?_; refine o1 ?_; refine nl ?_; refine sq ?_; refine sq ?_; refine rl ?_; refine o1 ?_; refine o1 ?_; refine nl ?_; refine cdt rfl ?_; refine sq ?_
  refine rl ?_; refine o1 ?_; refine nl ?_; refine rt ?_; exact en (.inl rfl) rfl (pk1 (pkv _)) (by decide) (fun _ => trivial) rfl
theorem n_Expire {y : Int} : Spec true Tryz.prog 21 [] [.one (tv (.pointer none)), .one (tv (.int .i64 y))] (Ret (.one (tv (.slice none 0 0)))) := by
  refine fn0 Tryz.func21 rfl Tryz.ntmps21 rfl ttok rfl fun N w c0 h0 => ?_
  refine sq ?_; refine rl ?_; refine bx 0 ?_; refine o1 ?_; refine nl ?_; refine sq ?_; refine sq ?_; refine rl ?_; refine o1 ?_; refine o1 ?_; refine nl ?_; refine cdt rfl ?_; refine sq ?_
  refine rl ?_; refine o1 ?_; refine nl ?_; refine rt ?_; exact en (.inl rfl) rfl (pk1 (pkv _)) (by decide) (fun _ => trivial) rfl
theorem n_Rows : Spec true Tryz.prog 16 [] [.one (tv (.pointer none))] (Ret (.one (tv (.slice none 0 0)))) := by
  refine fn0 Tryz.func16 rfl Tryz.ntmps16 rfl ttok rfl fun N w c0 h0 => ?_
  refine sq ?_; refine rl ?_; refine o1 ?_; refine nl ?_; refine sq ?_; refine sq ?_; refine rl ?_; refine o1 ?_; refine o1 ?_; refine nl ?_; refine cdt rfl ?_; refine sq ?_; refine rl ?_; refine o1 ?_
  refine nl ?_; refine rt ?_; exact en (.inl rfl) rfl (pk1 (pkv _)) (by decide) (fun _ => trivial) rfl
theorem n_Balance : Spec true Tryz.prog 28 [] [.one (tv (.pointer none))] (Ret (qO ((0 : Int) : Rat))) := by
  refine fn0 Tryz.func28 rfl Tryz.ntmps28 rfl ttok rfl fun N w c0 h0 => ?_
  refine sq ?_; refine rl ?_; refine al 0 ?_; refine nl ?_; refine sq ?_; refine sq ?_; refine rl ?_; refine o1 ?_; refine o1 ?_; refine nl ?_; refine cdt rfl ?_; refine sq ?_; refine rl ?_
  refine cak 1 (c_rWhole (z := 0) (by omega) (by omega)) ok46 ⟨a1 rfl, rfl⟩ ?_
  refine st ?_; refine nl ?_; refine rt ?_
  exact en (.inl rfl) rfl (pk1 (.agg (.cons (.id rfl) (.cons (.sl (trs := u32T (dg 4294967296 ((0 : Int) : Rat).num.natAbs)) rfl rfl (tk_u32 _) (ln_u32 _)) (.cons (.id rfl) (.cons (.sl (trs := u32T (dg 4294967296 ((0 : Int) : Rat).den)) rfl rfl (tk_u32 _) (ln_u32 _)) .nil)))))) (by decide) (fun _ => nofr_q _) rfl
theorem aflat_len (xs : List At) : (xs.flatMap atr).length = xs.length * 6 := flat_len (f := atr) (z := 6) (fun _ => rfl) xs
def KnA (a : At) : Prop := a.2.2.ok ∧ -9223372036854775808 ≤ a.2.1
theorem l_AgainK {ws : List (Int × Rat)} {al : List At} (h6 : al.length = 6) (hw : ∀ x ∈ ws, Sz 2 x.2) (ha : ∀ a ∈ al, KnA a) : Spec true Tryz.prog 5 [] [.one (.t (sV 57 false ws)), .one (.t (.s false 38 6 3 ((al.flatMap atr).take (3 * 6)))), .one (.t (.s false 38 6 (al.length - 3) ((al.flatMap atr).drop (3 * 6))))] (Ret (.one (tv (.bool true)))) := by
  have h := l_LossAgain (gs := toG ws) (xs := al.take 3) (zs := al.drop 3) (fun x hx _ => by
    obtain ⟨z, hz, rfl⟩ := List.mem_map.1 hx
    exact (Qn.of (hw z hz)).1) (fun x hx _ => (ha x (List.mem_of_mem_take hx)).1) fun x hx _ => (ha x (List.mem_of_mem_drop hx)).1
  rw [sG_toG] at h
  have e1 : sAc 38 (al.take 3) = .s false 38 6 3 ((al.flatMap atr).take (3 * 6)) := by
    unfold sAc
    rw [flat_tk (f := atr) (z := 6) fun _ => rfl, List.length_take, h6]
    rfl
  have e2 : sAc 38 (al.drop 3) = .s false 38 6 (al.length - 3) ((al.flatMap atr).drop (3 * 6)) := by
    unfold sAc
    rw [flat_dr (f := atr) (z := 6) fun _ => rfl, List.length_drop]
  rwa [e1, e2] at h
theorem nil_acts : ∀ x ∈ ([(0, 5, nilF), (2, 0, nilF)] : List At), x.2.2.x.length ≤ 6 ∧ x.2.2.y.length ≤ 6 → x.2.2.ok := by
  have h : nilF.ok := by
    refine ⟨?_, ?_, Nat.zero_le _, Nat.zero_le _⟩ <;> exact fun d hd => absurd hd (List.not_mem_nil)
  intro x hx _
  rcases List.mem_cons.1 hx with rfl | hx
  · exact h
  · rw [List.mem_singleton.1 hx]
    exact h
set_option maxHeartbeats 1000000 in
theorem l_LossKnown : Spec true Tryz.prog 6 [] [] (Ret (.one (tv (.bool true)))) := by
  refine fn0 Tryz.func6 rfl Tryz.ntmps6 rfl ttok rfl fun N w c0 h0 => ?_
  refine sq ?_; refine rl ?_; refine o1 ?_; refine nl ?_; refine sq ?_; refine sq ?_; refine rl ?_; refine o1 ?_; refine nl ?_; refine bl ?_
  refine lp (γ := Nat) (fun n => frL [(1, .one (tv (.int .i64 ((n : Nat) : Int))))]) (fun _ => ([] : List Ob).map some) (fun n => n ≤ 4098) (fun n => 4200 - n) 0 (by omega) (su0 h0 [] _ _ (by decide) ⟨rfl, trivial⟩ rfl) fun n hn => ?_
  refine sq ?_; refine sq ?_; refine rl ?_; refine o1 ?_; refine o1 ?_; refine nl ?_; refine cdp rfl (fun h1 => ?_) (fun h1 => ?_)
  ·
    refine sk ?_; refine sq ?_; refine bl ?_; refine sq ?_; refine rl ?_; refine o1 ?_; refine nl ?_; refine sq ?_; refine rl ?_; refine o1 ?_; refine o1 ?_; refine nl ?_; refine sq ?_; refine sq ?_
    refine rl ?_; refine o1 ?_; refine nl ?_; refine bl ?_
    refine lp (γ := Nat × Nat × List At) (fun s => frL [(1, .one (tv (.int .i64 ((n : Nat) : Int)))), (2, .one (.sl 0 0 s.1)), (3, .one (tv (.int .i64 ((s.2.1 : Nat) : Int)))), (4, .one (tv (.int .i64 ((s.1 : Nat) : Int))))]) (fun s => [(⟨38, 6, (s.2.2.flatMap atr).map .t⟩ : Ob)].map some) (fun s => s.1 ≤ 6 ∧ s.2.1 ≤ 5000 ∧ s.2.2.length = s.1 ∧ ∀ a ∈ s.2.2, KnA a) (fun s => 6 - s.1) (0, n, []) ⟨by omega, by dsimp only; omega, rfl, fun _ h => by cases h⟩ ((nr (i := 2) 0 38 6 rfl rfl rfl rfl).trans (su0 h0 [0] _ _ (by decide) ⟨rfl, rfl, rfl, rfl, trivial⟩ ⟨oe rfl rfl, rfl⟩)) ?_
    rintro ⟨i, kk, al⟩ ⟨hi, hkk, hal, hkn⟩; dsimp only at hi hkk hal hkn ⊢; refine sq ?_; refine sq ?_; refine rl ?_; refine o1 ?_; refine o1 ?_; refine nl ?_
    refine cdp rfl (fun h2 => ?_) (fun h2 => ?_)
    ·
      refine sk ?_; refine sq ?_; refine bl ?_; refine sq ?_
      have hna : KnA (((kk % 4 : Nat) : Int), ((((2000 : Int) + ((i : Nat) : Int)) + ((kk / 4 % 2 : Nat) : Int)) - ((kk / 2 % 2 : Nat) : Int)), Fr4.of (Rat.divInt (((kk % 5 : Nat) : Int) - 1) 2)) := ⟨(Qn.of ((by_sz (n := (((kk % 5 : Nat) : Int) - 1)) (d := 2) (by omega) (by omega) (by omega) (by omega)).mono (M := 68719476736) (by omega))).1, by dsimp only; omega⟩
      refine rl ?_; (iterate 3 refine o1 ?_); refine WL.cast (t := 17) (u' := .int .i64 ((kk % 4 : Nat) : Int)) rfl (cint (rem_nat _ 4)) ?_; (iterate 3 refine o1 ?_)
      refine o1 ?_ (hC := (quo_in 4 (by omega) (by simp only [InR]; omega)))
      refine WL.cast (t := 21) (u' := .int .i64 ((kk / 4 : Nat) : Int)) rfl (cint (quo_nat _ 4)) ?_; refine o1 ?_
      refine WL.cast (t := 22) (u' := .int .i64 ((kk / 4 % 2 : Nat) : Int)) rfl (cint (rem_nat _ 2)) ?_; refine o1 ?_; refine o1 ?_
      refine o1 ?_ (hC := (quo_in 2 (by omega) (by simp only [InR]; omega)))
      refine WL.cast (t := 25) (u' := .int .i64 ((kk / 2 : Nat) : Int)) rfl (cint (quo_nat _ 2)) ?_; refine o1 ?_
      refine WL.cast (t := 26) (u' := .int .i64 ((kk / 2 % 2 : Nat) : Int)) rfl (cint (rem_nat _ 2)) ?_; (iterate 3 refine o1 ?_)
      refine WL.cast (t := 29) (u' := .int .i64 ((kk % 5 : Nat) : Int)) rfl (cint (rem_nat _ 5)) ?_; refine o1 ?_
      refine ca (f_By (n := (((kk % 5 : Nat) : Int) - 1)) (d := (2 : Int)) (by omega) (by omega) (by omega) (by omega)) ok26 ⟨a1 rfl, a1 rfl, rfl⟩ (qF (.of (Rat.divInt (((kk % 5 : Nat) : Int) - 1) (2 : Int)))) ?_
      refine o1 ?_; refine bs 1 ?_; refine w_app (j := 2) ttok rfl rfl rfl rfl (.sl rfl (by rw [List.length_map, aflat_len, hal])) (.sl rfl rfl rfl) rfl rfl rfl (by omega) (by omega) ?_
      refine o1 ?_; refine nl ?_; refine rl ?_; refine o1 ?_; refine o1 ?_ (hC := (quo_in 4 (by omega) (by simp only [InR]; omega)))
      refine WL.cast (t := 36) (u' := .int .i64 ((kk / 4 : Nat) : Int)) rfl (cint (quo_nat _ 4)) ?_; refine o1 ?_; refine o1 ?_
      refine WL.cast (t := 38) (u' := .int .i64 ((kk / 4 + i : Nat) : Int)) rfl (cint (by omega)) ?_
      refine o1 ?_; refine nl ?_; refine rl ?_; refine o1 ?_; refine o1 ?_; refine WL.cast (t := 14) (u' := .int .i64 ((i + 1 : Nat) : Int)) rfl (cint (by omega)) ?_
      refine o1 ?_; refine nl ?_
      exact ⟨(i + 1, kk / 4 + i, al ++ [(((kk % 4 : Nat) : Int), ((((2000 : Int) + ((i : Nat) : Int)) + ((kk / 4 % 2 : Nat) : Int)) - ((kk / 2 % 2 : Nat) : Int)), Fr4.of (Rat.divInt (((kk % 5 : Nat) : Int) - 1) 2))]), by dsimp only; omega, ⟨by dsimp only; omega, by dsimp only; omega, by dsimp only; rw [List.length_append, hal]; rfl, fun a ha => (List.mem_append.1 ha).elim (hkn a) fun h9 => (List.mem_singleton.1 h9) ▸ hna⟩, su0 h0 [2] _ _ (by decide) ⟨rfl, rfl, rfl, rfl, trivial⟩ ⟨oet (congrArg (fun l => some (⟨38, 6, l⟩ : Ob)) (show (al.flatMap atr).map AV.t ++ (atr (((kk % 4 : Nat) : Int), ((((2000 : Int) + ((i : Nat) : Int)) + ((kk / 4 % 2 : Nat) : Int)) - ((kk / 2 % 2 : Nat) : Int)), Fr4.of (Rat.divInt (((kk % 5 : Nat) : Int) - 1) 2))).map .t = ((al ++ [(((kk % 4 : Nat) : Int), ((((2000 : Int) + ((i : Nat) : Int)) + ((kk / 4 % 2 : Nat) : Int)) - ((kk / 2 % 2 : Nat) : Int)), Fr4.of (Rat.divInt (((kk % 5 : Nat) : Int) - 1) 2))]).flatMap atr).map .t by simp [List.flatMap_append])), rfl⟩⟩
    ·
      refine ex ?_; refine sq ?_; obtain rfl : al.length = i := hal
      have h6 : al.length = 6 := by omega
      refine WP.sub (fzg (i := 2) (k := 0) (t := 38) (z := 6) (n := al.length) (l := al.flatMap atr) rfl rfl rfl (aflat_len _) (.one .sl)) ?_; refine rd [] (fun i => [].contains i) mixed ?_
      refine dv 0 ?_; refine dca 1 rfl (l_LossPlays (xs := al) (fun x hx _ => (hkn x hx).1)) ok3 ⟨a1 rfl, rfl⟩ (.one (tv (.bool true))) ?_
      refine df 2 ?_; refine df 3 ?_; refine dv 4 ?_; refine dca 5 rfl (l_LossWhole (xs := al) (fun x hx _ => (hkn x hx).1) fun x hx => (hkn x hx).2) ok4 ⟨a1 rfl, rfl⟩ (.one (tv (.bool true))) ?_
      refine df 6 ?_; refine df 7 ?_; refine df 8 ?_; refine dv 9 ?_; refine dv 10 ?_; refine WD.cast (t := 49) (u' := .int .i64 ((n % 5 : Nat) : Int)) rfl (cint (rem_nat _ 5)) ?_; refine dv 11 ?_
      refine dv 12 ?_; refine WD.split (t := 51) rfl rfl (fun h3 => ?_) (fun h3 => ?_)
      ·
        refine dv 13 ?_; refine dv 14 ?_; refine WD.cast (t := 53) (u' := .int .i64 ((n % 3 : Nat) : Int)) rfl (cint (rem_nat _ 3)) ?_; refine dv 17 ?_; refine dv 18 ?_
        refine WD.cast (t := 57) (u' := .int .i64 ((n % 2 : Nat) : Int)) rfl (cint (rem_nat _ 2)) ?_; refine dv 22 ?_; refine dv 23 ?_; refine dv 24 ?_; refine dv 25 ?_
        refine dca 15 rfl (f_By (n := (1 : Int)) (d := (2 : Int)) (by omega) (by omega) (by omega) (by omega)) ok26 ⟨a1 rfl, a1 rfl, rfl⟩ (qF (.of (Rat.divInt (1 : Int) (2 : Int)))) ?_
        refine df 16 ?_
        refine dca 19 rfl (f_By (n := ((n % 2 : Nat) : Int)) (d := (3 : Int)) (by omega) (by omega) (by omega) (by omega)) ok26 ⟨a1 rfl, a1 rfl, rfl⟩ (qF (.of (Rat.divInt ((n % 2 : Nat) : Int) (3 : Int)))) ?_
        refine df 20 ?_; refine d_bs (key := 1) 21 (by kernel_rfl) rfl rfl ttok rfl trivial ?_
        refine dca 26 rfl (l_AgainK (ws := [(((n % 3 : Nat) : Int), (Rat.divInt (1 : Int) (2 : Int))), (1, (Rat.divInt ((n % 2 : Nat) : Int) (3 : Int)))]) h6 (by simp only [List.forall_mem_cons]; exact ⟨by_sz (by omega) (by omega) (by omega) (by omega), by_sz (by omega) (by omega) (by omega) (by omega), fun _ h => by cases h⟩) hkn) ok5 ⟨a1o rfl (.sl (trs := ([(((n % 3 : Nat) : Int), (Rat.divInt (1 : Int) (2 : Int))), (1, (Rat.divInt ((n % 2 : Nat) : Int) (3 : Int)))] : List (Int × Rat)).flatMap (vtr false)) rfl rfl rfl rfl), a1 rfl, a1 rfl, rfl⟩ (.one (tv (.bool true))) ?_
        refine df 27 ?_; refine df 28 ?_; refine df 29 ?_; refine dz0 ?_; refine cdf rfl ?_; refine sk ?_; refine rl ?_; refine o1 ?_; refine o1 ?_
        refine WL.cast (t := 9) (u' := .int .i64 ((n + 3 : Nat) : Int)) rfl (cint (by omega)) ?_
        refine o1 ?_; refine nl ?_; exact ⟨n + 3, by omega, by omega, su0 h0 [] _ _ (by decide) ⟨rfl, trivial⟩ rfl⟩
      ·
        refine dno 13 ?_; refine dno 14 ?_; refine dno 17 ?_; refine dno 18 ?_; refine dno 22 ?_; refine dno 23 ?_; refine dno 24 ?_; refine dno 25 ?_; refine dno 15 ?_; refine dno 16 ?_
        refine dno 19 ?_; refine dno 20 ?_; refine dno 21 ?_; refine dno 26 ?_; refine dno 27 ?_; refine dv 28 ?_; refine df 29 ?_; refine dz0 ?_; refine cdf rfl ?_; refine sk ?_; refine rl ?_
        refine o1 ?_; refine o1 ?_; refine WL.cast (t := 9) (u' := .int .i64 ((n + 3 : Nat) : Int)) rfl (cint (by omega)) ?_
        refine o1 ?_; refine nl ?_; exact ⟨n + 3, by omega, by omega, su0 h0 [] _ _ (by decide) ⟨rfl, trivial⟩ rfl⟩
  ·
    refine ex ?_; refine sq ?_; refine rl ?_; refine o1 ?_; refine nl ?_; refine sq ?_; refine rl ?_; refine o1 ?_
    refine ca (f_By (n := (1 : Int)) (d := (1 : Int)) (by omega) (by omega) (by omega) (by omega)) ok26 ⟨a1 rfl, a1 rfl, rfl⟩ (qF (.of (Rat.divInt (1 : Int) (1 : Int)))) ?_
    refine ca (n_Put (y := (1 : Int)) (a := .of (Rat.divInt (1 : Int) (1 : Int)))) ok22 ⟨a1 rfl, a1 rfl, a1g rfl, rfl⟩ (.one (tv (.int .i64 1))) ?_; refine o1 ?_
    refine WL.cast (t := 72) (u' := .bool true) rfl (by rfl) ?_
    refine o1 ?_; refine o1 ?_; refine ca (f_By (n := (1 : Int)) (d := (1 : Int)) (by omega) (by omega) (by omega) (by omega)) ok26 ⟨a1 rfl, a1 rfl, rfl⟩ (qF (.of (Rat.divInt (1 : Int) (1 : Int)))) ?_
    refine ca (n_Use (y := (0 : Int)) (a := .of (Rat.divInt (1 : Int) (1 : Int)))) ok15 ⟨a1 rfl, a1 rfl, a1g rfl, rfl⟩ (.one (tv (.slice none 0 0))) ?_; refine o1 ?_; refine o1 ?_
    refine WL.cast (t := 78) (u' := .bool true) rfl (by rfl) ?_
    (iterate 3 refine o1 ?_); refine ca (n_Expire (y := (9 : Int))) ok21 ⟨a1 rfl, a1 rfl, rfl⟩ (.one (tv (.slice none 0 0))) ?_; refine o1 ?_; refine o1 ?_
    refine WL.cast (t := 84) (u' := .bool true) rfl (by rfl) ?_
    (iterate 3 refine o1 ?_); refine ca (n_Balance) ok28 ⟨a1 rfl, rfl⟩ (qF (.of ((0 : Int) : Rat))) ?_
    refine ca (p_Sign0 (p := ((0 : Int) : Rat)) (by rw [show ((0 : Int) : Rat) = (0 : Rat) by kernel_rfl]; exact sz0 (by omega)) (by kernel_rfl)) ok27 ⟨a1g rfl, rfl⟩ (.one (tv (.int .i64 0))) ?_
    refine o1 ?_; refine WL.cast (t := 90) (u' := .bool true) rfl (by rfl) ?_
    (iterate 3 refine o1 ?_); refine ca (n_Rows) ok16 ⟨a1 rfl, rfl⟩ (.one (tv (.slice none 0 0))) ?_; refine o1 ?_; refine o1 ?_; refine WL.cast (t := 96) (u' := .bool true) rfl (by rfl) ?_
    refine o1 ?_; refine o1 ?_; refine ca (p_Total (vs := []) (B := 2) (by simp) (fun _ h => by cases h) (by simp)) ok17 ⟨a1o rfl .nil, rfl⟩ (qF (.of (qsum (([] : List (Int × Rat)).map Prod.snd)))) ?_
    refine ca (p_Sign0 (p := (qsum (([] : List (Int × Rat)).map Prod.snd))) (by rw [show (qsum (([] : List (Int × Rat)).map Prod.snd)) = (0 : Rat) by kernel_rfl]; exact sz0 (by omega)) (by kernel_rfl)) ok27 ⟨a1g rfl, rfl⟩ (.one (tv (.int .i64 0))) ?_
    refine o1 ?_; refine WL.cast (t := 101) (u' := .bool true) rfl (by rfl) ?_
    (iterate 6 refine o1 ?_); refine bs 0 ?_; refine WL.sub (nrd (j := 0) (p := 3) (e := 104) (z' := 1) rfl rfl rfl) ?_; refine WL.sub (nrd (j := 0) (p := 5) (e := 104) (z' := 1) rfl rfl rfl) ?_
    refine WL.sub (nrd (j := 0) (p := 9) (e := 104) (z' := 1) rfl rfl rfl) ?_; refine WL.sub (nrd (j := 0) (p := 11) (e := 104) (z' := 1) rfl rfl rfl) ?_
    refine ca (l_LossPlays (xs := [(0, 5, nilF), (2, 0, nilF)]) nil_acts) ok3 ⟨a1o rfl (.sl (trs := ([(0, 5, nilF), (2, 0, nilF)] : List At).flatMap atr) rfl rfl rfl rfl), rfl⟩ (.one (tv (.bool true))) ?_
    refine o1 ?_; refine o1 ?_
    refine ca (l_LossAgain (gs := []) (xs := []) (zs := []) (fun _ h => by cases h) (fun _ h => by cases h) fun _ h => by cases h) ok5 ⟨a1o rfl .nil, a1o rfl .nil, a1o rfl .nil, rfl⟩ (.one (tv (.bool true))) ?_
    refine o1 ?_; refine o1 ?_; refine ca (l_works) ok8 rfl (.one (tv (.bool true))) ?_; refine o1 ?_; refine o1 ?_; refine nl ?_; refine rt ?_
    exact en (.inl rfl) rfl (pk1 (pkv _)) (by decide) (fun _ => trivial) rfl
end Go.Proofs.YtogaallfhifngaaGreat
