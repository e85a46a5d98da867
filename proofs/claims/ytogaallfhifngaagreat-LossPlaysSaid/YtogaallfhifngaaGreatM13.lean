/- Part 13 of a proof: B9 to Rd. -/
import Derived.Test.YtogaallfhifngaaGreatM12
import Derived.Test.YtogaallfhifngaaGreatM9
import Derived.ProofKit
import Derived.ChangeOld
import Derived.Deep.Slices
import Derived.Deep.Strs
set_option linter.unusedVariables false
set_option linter.unusedSimpArgs false
/- The law of loss: works. Printed by a program. -/
namespace Go.Proofs.YtogaallfhifngaaGreat
open Go Go.RowKit
theorem p_PutC {vs vs' : List (Int × Rat)} {last last' y e : Int} {put put' : Bool} {q : Rat} (hs : Sz 68719476736 q) (hl : vs.length ≤ 1073741822) (he : putE true q y last put = e) (hv : putL e q y vs = vs') (hy : putY e y last = last') (hp : putP e put = put') : Spec false Tryz.prog 22 [⟨76, 0, [.t (sR 57 vs), tv (.int .i64 last), tv (.bool put)]⟩] [.one (.pt 0 0), .one (tv (.int .i64 y)), qF (.of q)] (Rt [⟨76, 0, [.t (sR 57 vs'), tv (.int .i64 last'), tv (.bool put')]⟩] (.one (tv (.int .i64 e)))) := by
  have h := p_Put (vs := vs) (last := last) (y := y) (put := put) (Qn.of hs) hl
  have e1 : rightQ (Fr4.of q).s (Fr4.of q).x (Fr4.of q).t (Fr4.of q).y = true := rightQ_dg q
  rwa [e1, he, hv, hy, hp] at h
theorem p_SameE {p q : Rat} (hp : Sz 68719476736 p) (hq : Sz 68719476736 q) (h : p = q) : Spec true Tryz.prog 30 [] [qF (.of p), qF (.of q)] (Ret (.one (tv (.bool true)))) := by
  have h9 := p_Same (Qn.of hp) (Qn.of hq)
  rwa [decide_eq_true h] at h9
theorem p_Sign0 {p : Rat} (hp : Sz 68719476736 p) (h : p.num.sign = 0) : Spec true Tryz.prog 27 [] [qF (.of p)] (Ret (.one (tv (.int .i64 0)))) := by
  have h9 := p_Sign (Qn.of hp)
  rwa [h] at h9
set_option maxRecDepth 100000 in
theorem l_works : Spec true Tryz.prog 8 [] [] (Ret (.one (tv (.bool true)))) := by
  refine fn0 Tryz.func8 rfl Tryz.ntmps8 rfl ttok rfl fun N w c0 h0 => ?_
  refine sq ?_; refine rl ?_; refine o1 ?_; refine nl ?_; refine sq ?_; refine rl ?_; refine cak 0 p_New ok9 rfl ?_; refine o1 ?_; refine nl ?_; refine sq ?_; refine rl ?_; refine o1 ?_
  refine ca (f_By (n := 10) (d := 1) (by omega) (by omega) (by omega) (by omega)) ok26 ⟨a1 rfl, a1 rfl, rfl⟩ (qF (.of (Rat.divInt 10 1))) ?_
  refine cl 1 [0] (p_PutC (vs := ([] : List (Int × Rat))) (vs' := [((2020 : Int), (Rat.divInt 10 1))]) (last := 0) (last' := 2020) (y := 2020) (put := false) (put' := true) (q := (Rat.divInt 10 1)) ((by_sz (n := 10) (d := 1) (by omega) (by omega) (by omega) (by omega)).mono (M := 68719476736) (by omega)) (by simp) (e := 0) (by kernel_rfl) (by kernel_rfl) (by kernel_rfl) (by kernel_rfl)) ok22 ⟨oe rfl rfl, rfl⟩ ⟨rfl, rfl, rfl, rfl⟩ (ok := [some ⟨76, 0, [.t (sR 57 [((2020 : Int), (Rat.divInt 10 1))]), tv (.int .i64 2020), tv (.bool true)]⟩]) ⟨oe rfl rfl, rfl⟩ ?_
  refine o1 ?_; refine ca (f_By (n := 5) (d := 1) (by omega) (by omega) (by omega) (by omega)) ok26 ⟨a1 rfl, a1 rfl, rfl⟩ (qF (.of (Rat.divInt 5 1))) ?_
  refine cl 1 [0] (p_PutC (vs := [((2020 : Int), (Rat.divInt 10 1))]) (vs' := [((2020 : Int), (Rat.divInt 10 1)), (2021, (Rat.divInt 5 1))]) (last := 2020) (last' := 2021) (y := 2021) (put := true) (put' := true) (q := (Rat.divInt 5 1)) ((by_sz (n := 5) (d := 1) (by omega) (by omega) (by omega) (by omega)).mono (M := 68719476736) (by omega)) (by simp) (e := 0) (by kernel_rfl) (by kernel_rfl) (by kernel_rfl) (by kernel_rfl)) ok22 ⟨oe rfl rfl, rfl⟩ ⟨rfl, rfl, rfl, rfl⟩ (ok := [some ⟨76, 0, [.t (sR 57 [((2020 : Int), (Rat.divInt 10 1)), (2021, (Rat.divInt 5 1))]), tv (.int .i64 2021), tv (.bool true)]⟩]) ⟨oe rfl rfl, rfl⟩ ?_
  refine o1 ?_; refine o1 ?_; refine nl ?_; refine sq ?_; refine rl ?_; refine o1 ?_
  refine ca (f_By (n := 12) (d := 1) (by omega) (by omega) (by omega) (by omega)) ok26 ⟨a1 rfl, a1 rfl, rfl⟩ (qF (.of (Rat.divInt 12 1))) ?_
  have hok2 : StOk [((2020 : Int), (Rat.divInt 10 1)), (2021, (Rat.divInt 5 1))] 2 8 := ⟨by simp only [List.forall_mem_cons]; exact ⟨by decide +kernel, by decide +kernel, fun _ h => by cases h⟩, Nat.le_refl _, by decide +kernel⟩
  have hu9 := p_Use (vs := [((2020 : Int), (Rat.divInt 10 1)), (2021, (Rat.divInt 5 1))]) (last := 2021) (put := true) (fr := 2020) (Qn.of ((by_sz (n := 12) (d := 1) (by omega) (by omega) (by omega) (by omega)).mono (M := 68719476736) (by omega))) (by simp) (by decide +kernel) (hok2.zU (by decide +kernel))
  rw [show keepV zeroQ (useL 2020 [((2020 : Int), (Rat.divInt 10 1)), (2021, (Rat.divInt 5 1))] (Rat.divInt 12 1)).1 = [((2021 : Int), (Rat.divInt 3 1))] by kernel_rfl] at hu9
  refine cl 1 [0] hu9 ok15 ⟨oe rfl rfl, rfl⟩ ⟨rfl, rfl, rfl, rfl⟩ (ok := [some ⟨76, 0, [.t (sR 57 [((2021 : Int), (Rat.divInt 3 1))]), tv (.int .i64 2021), tv (.bool true)]⟩]) ⟨oe rfl rfl, rfl⟩ ?_
  refine o1 ?_; refine nl ?_; refine sq ?_; refine rl ?_; refine o1 ?_
  refine ca (p_Balance (vs := [((2021 : Int), (Rat.divInt 3 1))]) (rest := [.v (.int .i64 2021), .v (.bool true)]) (B := 2) (by simp) (by simp only [List.forall_mem_cons]; exact ⟨by_sz (n := 3) (d := 1) (by omega) (by omega) (by omega) (by omega), fun _ h => by cases h⟩) (by simp)) ok28 ⟨a1o rfl (.pe (trs := [sR 57 [((2021 : Int), (Rat.divInt 3 1))], .v (.int .i64 2021), .v (.bool true)]) rfl rfl rfl (by simp only [rdTL, rdT, sR, sV, rd_vo])), rfl⟩ (qF (.of (qsum ([((2021 : Int), (Rat.divInt 3 1))].map Prod.snd)))) ?_
  refine al 2 ?_; refine st ?_; refine nl ?_; refine sq ?_; refine rl ?_; refine o1 ?_
  refine ca (f_By (n := 1) (d := 1) (by omega) (by omega) (by omega) (by omega)) ok26 ⟨a1 rfl, a1 rfl, rfl⟩ (qF (.of (Rat.divInt 1 1))) ?_
  refine cl 3 [0] (p_PutC (vs := [((2021 : Int), (Rat.divInt 3 1))]) (vs' := [((2021 : Int), (Rat.divInt 3 1))]) (last := 2021) (last' := 2021) (y := 2021) (put := true) (put' := true) (q := (Rat.divInt 1 1)) ((by_sz (n := 1) (d := 1) (by omega) (by omega) (by omega) (by omega)).mono (M := 68719476736) (by omega)) (by simp) (e := 4) (by kernel_rfl) (by kernel_rfl) (by kernel_rfl) (by kernel_rfl)) ok22 ⟨oe rfl rfl, rfl⟩ ⟨rfl, rfl, rfl, rfl⟩ (ok := [some ⟨76, 0, [.t (sR 57 [((2021 : Int), (Rat.divInt 3 1))]), tv (.int .i64 2021), tv (.bool true)]⟩]) ⟨oe rfl rfl, rfl⟩ ?_
  refine o1 ?_; refine nl ?_; refine sq ?_; refine rl ?_; refine o1 ?_
  have he9 := p_Expire (vs := [((2021 : Int), (Rat.divInt 3 1))]) (last := 2021) (put := true) (b := 2022) (by simp) (by simp only [List.forall_mem_cons]; exact ⟨((by_sz (n := 3) (d := 1) (by omega) (by omega) (by omega) (by omega)).mono (M := 68719476736) (by omega)), fun _ h => by cases h⟩)
  rw [show keepV (fun x : Int × Rat => decide (x.1 < 2022)) [((2021 : Int), (Rat.divInt 3 1))] = ([] : List (Int × Rat)) by kernel_rfl] at he9
  refine cl 3 [0] he9 ok21 ⟨oe rfl rfl, rfl⟩ ⟨rfl, rfl, rfl⟩ (ok := [some ⟨76, 0, [.t (sR 57 ([] : List (Int × Rat))), tv (.int .i64 2021), tv (.bool true)]⟩]) ⟨oe rfl rfl, rfl⟩ ?_; refine o1 ?_
  refine nl ?_; refine sq ?_; refine rd [0, 2] (fun i => [37].contains i) mixed ?_
  refine dv 0 ?_; refine dv 1 ?_; refine dv 2 ?_; refine WD.split (t := 27) rfl rfl (fun h1 => ?_) (fun h1 => ?_)
  ·
    refine dv 3 ?_; refine dv 4 ?_; refine dv 5 ?_; refine dv 6 ?_; refine WD.split (t := 31) rfl rfl (fun h2 => ?_) (fun h2 => ?_)
    ·
      refine dv 7 ?_; refine dca 8 rfl (c_Whole4 (n := 10) (by omega) (by omega)) ok12 ⟨a1 rfl, rfl⟩ (qF (.of ((10 : Int) : Rat))) ?_
      refine df 9 ?_; refine dca 10 rfl (c_Whole4 (n := 2) (by omega) (by omega)) ok12 ⟨a1 rfl, rfl⟩ (qF (.of ((2 : Int) : Rat))) ?_
      refine df 11 ?_; refine d_bs (key := 4) 12 (by kernel_rfl) rfl rfl ttok rfl ⟨rfl, rfl, trivial⟩ ?_
      refine dca 13 rfl (l_same_eq (us := (useL 2020 [((2020 : Int), (Rat.divInt 10 1)), (2021, (Rat.divInt 5 1))] (Rat.divInt 12 1)).2.1) (ws := [((2020 : Int), ((10 : Int) : Rat)), (2021, ((2 : Int) : Rat))]) (by kernel_rfl) (huz hok2 (by decide +kernel)) (hul hok2 (by omega))) ok29 ⟨a1o rfl (.sr (trs := (useL 2020 [((2020 : Int), (Rat.divInt 10 1)), (2021, (Rat.divInt 5 1))] (Rat.divInt 12 1)).2.1.flatMap (vtr true)) rfl rfl (take_self _ _ rfl) (vflat_len true _) (rd_vo true _)), a1o rfl (.sl (trs := ([((2020 : Int), ((10 : Int) : Rat)), (2021, ((2 : Int) : Rat))] : List (Int × Rat)).flatMap (vtr false)) rfl rfl rfl rfl), rfl⟩ (.one (tv (.bool true))) ?_
      refine df 14 ?_; refine df 15 ?_; refine dld 16 ?_
      refine dca 17 rfl (f_By (n := 3) (d := 1) (by omega) (by omega) (by omega) (by omega)) ok26 ⟨a1 rfl, a1 rfl, rfl⟩ (qF (.of (Rat.divInt 3 1))) ?_
      refine dca 18 rfl (p_SameE (p := (qsum ([((2021 : Int), (Rat.divInt 3 1))].map Prod.snd))) (q := (Rat.divInt 3 1)) (by rw [show (qsum ([((2021 : Int), (Rat.divInt 3 1))].map Prod.snd)) = (Rat.divInt 3 1) by kernel_rfl]; exact ((by_sz (n := 3) (d := 1) (by omega) (by omega) (by omega) (by omega)).mono (M := 68719476736) (by omega))) ((by_sz (n := 3) (d := 1) (by omega) (by omega) (by omega) (by omega)).mono (M := 68719476736) (by omega)) (by kernel_rfl)) ok30 ⟨a1g rfl, a1g rfl, rfl⟩ (.one (tv (.bool true))) ?_
      refine df 19 ?_; refine df 20 ?_; refine dv 21 ?_; refine dv 22 ?_; refine df 23 ?_; refine df 24 ?_; refine WD.split (t := 49) rfl rfl (fun h3 => ?_) (fun h3 => ?_)
      ·
        refine dv 25 ?_; refine dca 26 rfl (c_Whole4 (n := 3) (by omega) (by omega)) ok12 ⟨a1 rfl, rfl⟩ (qF (.of ((3 : Int) : Rat))) ?_
        refine df 27 ?_; refine d_bs (key := 5) 28 (by kernel_rfl) rfl rfl ttok rfl ⟨rfl, rfl, trivial⟩ ?_
        refine dca 29 rfl (l_same_eq (us := (keepV (fun x : Int × Rat => !decide (x.1 < 2022)) [((2021 : Int), (Rat.divInt 3 1))])) (ws := [((2021 : Int), ((3 : Int) : Rat))]) (by kernel_rfl) (by simp only [keepV]; exact fun x hx => (show ∀ x ∈ [((2021 : Int), (Rat.divInt 3 1))], Sz 68719476736 x.2 by simp only [List.forall_mem_cons]; exact ⟨((by_sz (n := 3) (d := 1) (by omega) (by omega) (by omega) (by omega)).mono (M := 68719476736) (by omega)), fun _ h => by cases h⟩) x (List.mem_filter.1 hx).1) (Nat.le_trans (List.length_filter_le _ _) (by simp))) ok29 ⟨a1o rfl (.sr (trs := (keepV (fun x : Int × Rat => !decide (x.1 < 2022)) [((2021 : Int), (Rat.divInt 3 1))]).flatMap (vtr true)) rfl rfl (take_self _ _ rfl) (vflat_len true _) (rd_vo true _)), a1o rfl (.sl (trs := ([((2021 : Int), ((3 : Int) : Rat))] : List (Int × Rat)).flatMap (vtr false)) rfl rfl rfl rfl), rfl⟩ (.one (tv (.bool true))) ?_
        refine df 30 ?_; refine df 31 ?_; refine dv 32 ?_
        refine dca 33 rfl (p_Balance (vs := ([] : List (Int × Rat))) (rest := [.v (.int .i64 2021), .v (.bool true)]) (B := 2) (by simp) (fun _ h => by cases h) (by simp)) ok28 ⟨a1o rfl (.pe (trs := [sR 57 ([] : List (Int × Rat)), .v (.int .i64 2021), .v (.bool true)]) rfl rfl rfl (by simp only [rdTL, rdT, sR, sV, rd_vo])), rfl⟩ (qF (.of (qsum (([] : List (Int × Rat)).map Prod.snd)))) ?_
        refine dca 34 rfl (p_Sign0 (p := (qsum (([] : List (Int × Rat)).map Prod.snd))) (by rw [show (qsum (([] : List (Int × Rat)).map Prod.snd)) = Rat.divInt 0 1 by kernel_rfl]; exact ((by_sz (n := 0) (d := 1) (by omega) (by omega) (by omega) (by omega)).mono (M := 68719476736) (by omega))) (by kernel_rfl)) ok27 ⟨a1g rfl, rfl⟩ (.one (tv (.int .i64 0))) ?_
        refine df 35 ?_; refine df 36 ?_; refine d_v 37 (by kernel_rfl) rfl rfl ttok rfl (by trivial) ?_ (fun h => by first | rfl | cases h)
        refine dz0 ?_; refine rt ?_; exact en (.inl rfl) rfl (pk1 (pkv _)) (by decide) (fun _ => trivial) rfl
      ·
        exact absurd rfl h3
    ·
      exact absurd rfl h2
  ·
    exact absurd rfl h1
end Go.Proofs.YtogaallfhifngaaGreat

/- The law of loss: LossPlays. Printed by a program. -/
namespace Go.Proofs.YtogaallfhifngaaGreat
open Go Go.RowKit
set_option maxRecDepth 100000 in
theorem l_LossPlays {xs : List At} (hqa : ∀ x ∈ xs, x.2.2.x.length ≤ 6 ∧ x.2.2.y.length ≤ 6 → x.2.2.ok) : Spec true Tryz.prog 3 [] [.one (.t (sAc 38 xs))] (Ret (.one (tv (.bool true)))) := by
  refine fn0 Tryz.func3 rfl Tryz.ntmps3 rfl ttok rfl fun N w c0 h0 => ?_
  refine sq ?_; refine rl ?_; refine o1 ?_; refine nl ?_; refine sq ?_; refine sq ?_; refine rl ?_; refine o1 ?_
  refine ca (l_few (xs := xs) (top := 40)) ok7 ⟨a1 rfl, a1 rfl, rfl⟩ (.one (tv (.bool (fewB xs 40)))) ?_; refine WL.splitb (t := 9) rfl (fun h1 => ?_) (fun h1 => ?_)
  ·
    refine o1 ?_; refine nl ?_; refine cdf rfl ?_; refine sk ?_; refine sq ?_; refine rl ?_; obtain ⟨hlen, hsh⟩ := few_use h1 (by omega)
    refine cak 0 p_New ok9 rfl ?_; refine o1 ?_; refine nl ?_; refine sq ?_; refine rl ?_; refine al 1 ?_; refine WL.sub (nrd (j := 1) (p := 0) (e := 63) (z' := 5) rfl rfl rfl) ?_; refine nl ?_
    refine sq ?_; refine sq ?_; refine rl ?_; refine o1 ?_; refine nl ?_; refine bl ?_
    refine lp (γ := Nat × List (Int × Rat) × Int × Bool) (fun s => frL [(0, .one (.t (sAc 38 xs))), (3, .one (.pt 0 0)), (4, .one (.pt 1 0)), (5, .one (tv (.int .i64 ((s.1 : Nat) : Int))))]) (fun s => [(⟨76, 0, [.t (sR 57 s.2.1), tv (.int .i64 s.2.2.1), tv (.bool s.2.2.2)]⟩ : Ob), ⟨29, 0, [.t (sV 63 false s.2.1), tv (.int .i64 s.2.2.1), tv (.bool s.2.2.2)]⟩].map some) (fun s => s.1 ≤ xs.length ∧ StOk s.2.1 s.1 (100 * s.1)) (fun s => xs.length - s.1) (0, [], 0, false) ⟨Nat.zero_le _, StOk.nil⟩ (su0 h0 [0, 1] _ _ (by decide) ⟨rfl, rfl, rfl, rfl, trivial⟩ ⟨oe rfl rfl, oe rfl rfl, rfl⟩) ?_
    rintro ⟨k, vs, last, put⟩ ⟨hk, hok⟩; dsimp only at hk hok ⊢; refine sq ?_; refine sq ?_; refine rl ?_; (iterate 4 refine o1 ?_); refine nl ?_; refine cdp rfl (fun h2 => ?_) (fun h2 => ?_)
    ·
      refine sk ?_; refine sq ?_; refine bl ?_
      refine md (γ := List (Int × Rat) × Int × Bool) (fun s => frL [(0, .one (.t (sAc 38 xs))), (3, .one (.pt 0 0)), (4, .one (.pt 1 0)), (5, .one (tv (.int .i64 ((k : Nat) : Int)))), (6, .one (.pt 2 0)), (7, .one (tv (.bool true)))]) (fun s => [(⟨76, 0, [.t (sR 57 s.1), tv (.int .i64 s.2.1), tv (.bool s.2.2)]⟩ : Ob), ⟨29, 0, [.t (sV 63 false vs), tv (.int .i64 last), tv (.bool put)]⟩, ⟨29, 0, [.t (sV 63 false s.1), tv (.int .i64 s.2.1), tv (.bool s.2.2)]⟩].map some) (fun s => StOk s.1 (k + 1) (100 * k + 7 + 2 * k)) ?_ ?_
      ·
        refine rd [1] (fun i => [12].contains i) mixed ?_
        refine dv 0 ?_; refine dld 1 ?_; refine dv 2 ?_; refine dv 3 ?_; refine dv 4 ?_; refine dlr 5 (atr (nthA xs (k))) (act_at (by omega)) ?_
        refine WO.two (i := 6) (j := 10) (by kernel_rfl) ?_ ?_
        ·
          refine oclx 6 2 [0] rfl (l_does (vs := vs) (last := last) (put := put) (a := (nthA xs (k))) (p := (nthA xs (k)).2.2.q) hok (by omega) (by omega) ⟨hqa _ (nthA_mem (by omega)) (hsh _ (nthA_mem (by omega))), rfl⟩ (hsh _ (nthA_mem (by omega))).1 (hsh _ (nthA_mem (by omega))).2) ok10 ⟨oe rfl rfl, rfl⟩ ⟨rfl, rfl, rfl, rfl⟩ ?_
          rintro _ _ ⟨vs1, last1, put1, hok1, rfl, rfl⟩; refine ⟨_, _, [some ⟨76, 0, [.t (sR 57 vs1), tv (.int .i64 last1), tv (.bool put1)]⟩], rfl, ⟨oe rfl rfl, rfl⟩, ⟨rfl, trivial⟩, ?_⟩
          refine df 7 ?_; refine df 8 ?_; refine df 9 ?_; refine d_al (key := 2) 10 (by kernel_rfl) rfl rfl ttok rfl ⟨rfl, trivial⟩ ?_
          refine d_stn 11 (by kernel_rfl) rfl rfl ttok rfl rfl rfl rfl ⟨rfl, trivial⟩ ?_
          refine d_v 12 (by kernel_rfl) rfl rfl ttok rfl (by trivial) ?_ (fun h => by first | rfl | cases h)
          refine dz0 ?_; exact ⟨(vs1, last1, put1), hok1, su0 h0 [0, 1, 2] _ _ (by decide) ⟨rfl, rfl, rfl, rfl, rfl, rfl, trivial⟩ ⟨oe rfl rfl, oe rfl rfl, oe rfl rfl, rfl⟩⟩
        ·
          refine o_al (key := 2) 10 rfl rfl ttok rfl ⟨rfl, trivial⟩ ?_
          refine WO.one (by kernel_rfl) (oclx 6 3 [0] rfl (l_does (vs := vs) (last := last) (put := put) (a := (nthA xs (k))) (p := (nthA xs (k)).2.2.q) hok (by omega) (by omega) ⟨hqa _ (nthA_mem (by omega)) (hsh _ (nthA_mem (by omega))), rfl⟩ (hsh _ (nthA_mem (by omega))).1 (hsh _ (nthA_mem (by omega))).2) ok10 ⟨oe rfl rfl, rfl⟩ ⟨rfl, rfl, rfl, rfl⟩ ?_)
          rintro _ _ ⟨vs1, last1, put1, hok1, rfl, rfl⟩; refine ⟨_, _, [some ⟨76, 0, [.t (sR 57 vs1), tv (.int .i64 last1), tv (.bool put1)]⟩], rfl, ⟨oe rfl rfl, rfl⟩, ⟨rfl, trivial⟩, ?_⟩
          refine df 7 ?_; refine df 8 ?_; refine df 9 ?_; refine d_stn 11 (by kernel_rfl) rfl rfl ttok rfl rfl rfl rfl ⟨rfl, trivial⟩ ?_
          refine d_v 12 (by kernel_rfl) rfl rfl ttok rfl (by trivial) ?_ (fun h => by first | rfl | cases h)
          refine dz0 ?_; exact ⟨(vs1, last1, put1), hok1, su0 h0 [0, 1, 2] _ _ (by decide) ⟨rfl, rfl, rfl, rfl, rfl, rfl, trivial⟩ ⟨oe rfl rfl, oe rfl rfl, oe rfl rfl, rfl⟩⟩
      rintro ⟨vs1, last1, put1⟩ hok1; dsimp only at hok1 ⊢; refine sq ?_; refine rl ?_; refine ld ?_; refine st ?_; refine nl ?_; refine sq ?_; refine rl ?_; (iterate 4 refine o1 ?_); refine ld ?_
      refine ca (l_is (vs := vs1) (rest := [.v (.int .i64 last1), .v (.bool put1)]) (n := k + 1) (last := last1) (was := put1) (B := 100 * k + 7 + 2 * k) hok1 (by omega) (by omega)) ok11 ⟨a1o rfl (.pe (trs := [sR 57 vs1, .v (.int .i64 last1), .v (.bool put1)]) rfl rfl rfl (by simp only [rdTL, rdT, sR, sV, rd_vo])), a1g rfl, rfl⟩ (.one (tv (.bool true))) ?_
      refine o1 ?_; refine o1 ?_; refine nl ?_; refine cdf rfl ?_; refine sk ?_; refine rl ?_; refine o1 ?_; refine o1 ?_
      refine WL.cast (t := 18) (u' := .int .i64 ((k + 1 : Nat) : Int)) rfl (cint (by omega)) ?_
      refine o1 ?_; refine nl ?_
      exact ⟨(k + 1, vs1, last1, put1), by dsimp only; omega, ⟨by dsimp only; omega, by dsimp only; exact hok1.mono (Nat.le_refl _) (by omega)⟩, su0 h0 [0, 1] _ _ (by decide) ⟨rfl, rfl, rfl, rfl, trivial⟩ ⟨oe rfl rfl, oe rfl rfl, rfl⟩⟩
    ·
      refine ex ?_; refine sq ?_; refine rl ?_; refine o1 ?_; refine ld ?_
      refine ca (l_is (vs := vs) (rest := [.v (.int .i64 last), .v (.bool put)]) (n := k) (last := last) (was := put) hok (by omega) (by omega)) ok11 ⟨a1o rfl (.pe (trs := [sR 57 vs, .v (.int .i64 last), .v (.bool put)]) rfl rfl rfl (by simp only [rdTL, rdT, sR, sV, rd_vo])), a1g rfl, rfl⟩ (.one (tv (.bool true))) ?_
      refine o1 ?_; refine ca (l_works) ok8 rfl (.one (tv (.bool true))) ?_; refine o1 ?_; refine o1 ?_; refine nl ?_; refine rt ?_
      exact en (.inl rfl) rfl (pk1 (pkv _)) (by decide) (fun _ => trivial) rfl
  ·
    refine o1 ?_; refine nl ?_; refine cdt rfl ?_; refine sq ?_; refine rl ?_; refine ca (l_works) ok8 rfl (.one (tv (.bool true))) ?_; refine o1 ?_; refine nl ?_; refine rt ?_
    exact en (.inl rfl) rfl (pk1 (pkv _)) (by decide) (fun _ => trivial) rfl
end Go.Proofs.YtogaallfhifngaaGreat

/- What came in, told as trees: booleans, integers, limbs, structs, rows. -/
namespace Go.Proofs.YtogaallfhifngaaGreat
open Go Go.RowKit Go.ChangeShapes

def Old (w : World) (b : Nat) : Prop := b < w.heap.size
/-- whatever is a datum of type t has z cells: trees of the kind T, read in memory that was -/
def Reads (P : Program) (t : TypeId) (z : Nat) (T : List Tr → Prop) : Prop :=
  P.cellsOf t = z ∧ ∀ (H : Type) (enc : TypeId × Value → H) (w : World) (fuel : Nat) (cs : List Value) (x : DataW H × List MemPlace), DataW.trod enc P w 0 (fun _ => true) true fuel t cs = some x → ∃ l, T l ∧ l.length = z ∧ FRL w (Old w) l cs
theorem frl_app {W : World} {N : Nat → Prop} : ∀ {l l' : List Tr} {us us' : List Value}, FRL W N l us → FRL W N l' us' → FRL W N (l ++ l') (us ++ us')
  | [], l', us, us', h, h' => by simp only [FRL] at h; subst h; exact h'
  | x :: l, l', u :: us, us', h, h' => by simp only [FRL, List.cons_append] at *; exact ⟨h.1, frl_app h.2 h'⟩
  | _ :: _, _, [], _, h, _ => by simp only [FRL] at h
theorem frl_get {W : World} {N : Nat → Prop} : ∀ {l : List Tr} {us : List Value} {j : Nat} {x : Tr}, FRL W N l us → l[j]? = some x → ∃ u, us[j]? = some u ∧ FR W N x u
  | [], _, _, _, _, h => by simp at h
  | y :: l, u :: us, 0, x, h, e => by
    simp only [FRL] at h
    simp at e
    subst e
    exact ⟨u, rfl, h.1⟩
  | y :: l, u :: us, j + 1, x, h, e => by
    simp only [FRL] at h
    exact frl_get (j := j) h.2 (by simpa using e)
  | _ :: _, [], _, _, h, _ => by simp only [FRL] at h
section
variable {P : Program} {t e : TypeId} {k : IntKind} {z : Nat} {T T' : List Tr → Prop}
theorem Reads.mono (h : Reads P t z T) (hi : ∀ l, T l → T' l) : Reads P t z T' := ⟨h.1, fun H enc w fuel cs x hx => let ⟨l, a, b⟩ := h.2 H enc w fuel cs x hx; ⟨l, hi l a, b⟩⟩
theorem rd_bool (ht : P.underlying t = some .bool) (hz : P.cellsOf t = 1) : Reads P t 1 (fun l => ∃ b, l = [.v (.bool b)]) := ⟨hz, fun H enc w fuel cs x hx => by
  obtain ⟨b, rfl, _⟩ := DataW.trod_bool ht hx
  exact ⟨_, ⟨b, rfl⟩, rfl, by simp [FRL, FR]⟩⟩
theorem rd_int (ht : P.underlying t = some (.int k)) (hz : P.cellsOf t = 1) : Reads P t 1 (fun l => ∃ n, l = [.v (.int k n)] ∧ k.min ≤ n ∧ n ≤ k.max) := ⟨hz, fun H enc w fuel cs x hx => by
  obtain ⟨n, rfl, _, h⟩ := DataW.trod_int ht hx
  simp only [Lit.wf, Bool.and_eq_true, decide_eq_true_eq] at h
  exact ⟨_, ⟨n, rfl, h⟩, rfl, by simp [FRL, FR]⟩⟩
/-- the fields behind cell o -/
inductive Flds (P : Program) : Nat → List Field → Nat → (List Tr → Prop) → Prop
  | nil {o : Nat} : Flds P o [] 0 (· = [])
  | cons {o z z' : Nat} {f : Field} {fs : List Field} {T T' : List Tr → Prop} (ho : f.offset = o) (h : Reads P f.type z T) (h' : Flds P (o + z) fs z' T') : Flds P o (f :: fs) (z + z') (fun l => ∃ a b, l = a ++ b ∧ T a ∧ T' b)
theorem Flds.read {H : Type} {enc : TypeId × Value → H} {w : World} {n o : Nat} {fs : List Field} (h : Flds P o fs z T) : ∀ {cs : List Value}, o + z ≤ cs.length → (∀ f ∈ fs, ∃ x, DataW.trod enc P w 0 (fun _ => true) true n f.type ((cs.drop f.offset).take (P.cellsOf f.type)) = some x) → ∃ l, T l ∧ l.length = z ∧ FRL w (Old w) l ((cs.drop o).take z) := by
  induction h with
  | nil => exact fun _ _ => ⟨[], rfl, rfl, by simp [FRL]⟩
  | @cons o z z' f fs T T' ho hr _ ih =>
    intro cs hl hf
    obtain ⟨b, h1, h2, h3⟩ := ih (cs := cs) (by omega) fun f hm => hf f (List.mem_cons_of_mem _ hm)
    obtain ⟨x, hx⟩ := hf f List.mem_cons_self
    obtain ⟨a, g1, g2, g3⟩ := hr.2 H enc w n _ x hx
    rw [ho, hr.1] at g3
    refine ⟨a ++ b, ⟨a, b, rfl, g1, h1⟩, by simp [g2, h2], ?_⟩
    rw [List.take_add, List.drop_drop]
    exact frl_app g3 h3
theorem rd_struct {fs : List Field} {z' : Nat} (ht : P.underlying t = some (.struct fs.toArray)) (hz : P.cellsOf t = z) (h : Flds P 0 fs z' T) (e : z' = z := by rfl) : Reads P t z T := ⟨hz, fun H enc w fuel cs x hx => by
  subst e
  obtain ⟨xs, n, _, rfl, hl, hlen, hf⟩ := DataW.trod_struct ht hx
  rw [hz] at hl
  obtain ⟨l, h1, h2, h3⟩ := h.read (H := H) (enc := enc) (w := w) (n := n) (cs := cs) (by omega) fun f hm => by
    obtain ⟨i, hi⟩ := List.mem_iff_getElem?.1 hm
    have h1 := hf i f (by simpa using hi)
    have h2 : i < xs.length := by
      have := (List.getElem?_eq_some_iff.1 hi).1
      simp at hlen
      omega
    rw [List.getElem?_eq_getElem h2] at h1
    exact ⟨_, h1⟩
  refine ⟨l, h1, h2, ?_⟩
  rw [List.drop_zero, List.take_of_length_le (by omega)] at h3
  exact h3⟩
theorem rd_slice (ht : P.underlying t = some (.slice e)) (hz : P.cellsOf t = 1) (hz0 : 0 < z) (h : Reads P e z T) : Reads P t 1 (fun l => ∃ rows : List (List Tr), (∀ r ∈ rows, T r ∧ r.length = z) ∧ l = [.s false e z rows.length rows.flatten]) := ⟨hz, fun H enc w fuel cs x hx => by
  have hlen : ∀ (rows : List (List Tr)), (∀ r ∈ rows, T r ∧ r.length = z) → rows.flatten.length = rows.length * z := by
    intro rows
    induction rows with
    | nil => intro _; simp
    | cons r rows ih =>
      intro hr
      rw [List.flatten_cons, List.length_append, (hr r List.mem_cons_self).2, ih fun r hm => hr r (List.mem_cons_of_mem _ hm), List.length_cons, Nat.succ_mul, Nat.add_comm]
  rcases Deep.open_slice ht hx with ⟨rfl, _⟩ | ⟨a, len, cap, m, n, D, Pl, rfl, _, hl, hm, hmm, _, hel⟩
  · refine ⟨_, ⟨[], fun _ h => (by cases h), rfl⟩, rfl, ?_⟩
    simp only [FRL, FR, and_true]
    exact ⟨none, 0, rfl, Nat.le_refl _, by omega, by simp, .inl rfl⟩
  · have hmc : m = cap := by simpa using hmm
    rw [h.1] at hel
    have hex : ∀ i : Nat, ∃ l : List Tr, i < len → T l ∧ l.length = z ∧ ∀ j y, l[j]? = some y → ∃ u, w.cell? ((a.add (i * z)).add j) = some u ∧ FR w (Old w) y u := fun i => by
      by_cases hi : i < len
      · obtain ⟨cs', h1, h2⟩ := hel i (by omega)
        obtain ⟨l, g1, g2, g3⟩ := h.2 H enc w n cs' _ h2
        obtain ⟨_, h3, h4⟩ := World.cells?_some h1
        refine ⟨l, fun _ => ⟨g1, g2, fun j y hj => ?_⟩⟩
        obtain ⟨u, hu, hy⟩ := frl_get g3 hj
        have hjl := (List.getElem?_eq_some_iff.1 hj).1
        exact ⟨u, by rw [h4 j (by omega), hu], hy⟩
      · exact ⟨[], fun h => absurd h hi⟩
    have hF := fun i => Classical.choose_spec (hex i)
    have hrow : ∀ r ∈ (List.range len).map (fun i => Classical.choose (hex i)), T r ∧ r.length = z := fun r hr => by
      obtain ⟨i, hi, rfl⟩ := List.mem_map.1 hr
      have := hF i (List.mem_range.1 hi)
      exact ⟨this.1, this.2.1⟩
    refine ⟨_, ⟨_, hrow, rfl⟩, rfl, ?_⟩
    have h5 := hlen _ hrow
    simp only [FRL, and_true, FR]
    refine ⟨some a, cap, by simp, by simpa using hl, by unfold maxLen at hm; omega, h5, ?_⟩
    rcases Nat.eq_zero_or_pos len with h0 | h0
    · exact .inl (by simp [h0])
    · refine .inr ⟨a, rfl, ?_, FRc_mk fun j y hj => ?_⟩
      · obtain ⟨_, g2, g3⟩ := hF 0 h0
        obtain ⟨u, hu, _⟩ := g3 0 _ (List.getElem?_eq_getElem (by omega))
        have := World.block_lt_of_cell? w ((a.add (0 * z)).add 0) hu
        rwa [block_add, block_add] at this
      · have hjl := (List.getElem?_eq_some_iff.1 hj).1
        rw [h5, List.length_map, List.length_range] at hjl
        have hi : j / z < len := Nat.div_lt_of_lt_mul (by rw [Nat.mul_comm]; exact hjl)
        obtain ⟨_, g2, g3⟩ := hF (j / z) hi
        have hz1 := Nat.mod_lt j hz0
        have hget : ∀ (rows : List (List Tr)), (∀ r ∈ rows, T r ∧ r.length = z) → ∀ (i o : Nat) (r : List Tr), rows[i]? = some r → o < z → rows.flatten[i * z + o]? = r[o]? := by
          intro rows
          induction rows with
          | nil => intro _ i o r h; simp at h
          | cons r rows ih =>
            intro hr i o r' hi ho
            have hrl := (hr r List.mem_cons_self).2
            cases i with
            | zero =>
              simp at hi
              subst hi
              rw [Nat.zero_mul, Nat.zero_add, List.flatten_cons, List.getElem?_append_left (by omega)]
            | succ i =>
              rw [List.flatten_cons, List.getElem?_append_right (by rw [Nat.succ_mul]; omega), hrl, show (i + 1) * z + o - z = i * z + o by rw [Nat.succ_mul]; omega]
              exact ih (fun r hm => hr r (List.mem_cons_of_mem _ hm)) i o r' (by simpa using hi) ho
        have hd := Nat.div_add_mod j z
        rw [Nat.mul_comm] at hd
        rw [← hd, hget _ hrow (j / z) (j % z) (Classical.choose (hex (j / z))) (by simp [hi]) hz1] at hj
        obtain ⟨u, hu, hy⟩ := g3 _ _ hj
        refine ⟨u, ?_, hy⟩
        rw [Nat.zero_add]
        have e2 : (a.add (j / z * z)).add (j % z) = a.add j := by rw [add_add, hd]
        rwa [e2] at hu⟩
theorem rows_of {α : Type} (f : α → List Tr) (Q : α → Prop) : ∀ {rows : List (List Tr)}, (∀ r ∈ rows, ∃ a, Q a ∧ r = f a) → ∃ xs : List α, (∀ a ∈ xs, Q a) ∧ rows.flatten = xs.flatMap f ∧ rows.length = xs.length
  | [], _ => ⟨[], fun _ h => (by cases h), rfl, rfl⟩
  | r :: rows, h => by
    obtain ⟨a, h1, rfl⟩ := h r List.mem_cons_self
    obtain ⟨xs, h2, h3, h4⟩ := rows_of f Q fun r hm => h r (List.mem_cons_of_mem _ hm)
    exact ⟨a :: xs, fun b hb => (List.mem_cons.1 hb).elim (fun e => e ▸ h1) (h2 b), by simp [h3], by simp [h4]⟩
/-- limbs -/
theorem rd_limbs (ht : P.underlying t = some (.slice e)) (he : P.underlying e = some (.int .u32)) (hz : P.cellsOf t = 1) (hze : P.cellsOf e = 1) (hn : e = 104) : Reads P t 1 (fun l => ∃ xs : List Nat, Lim 4294967296 xs ∧ l = [sU false xs]) :=
  (rd_slice ht hz (by omega) (rd_int he hze)).mono fun l ⟨rows, h1, h2⟩ => by
    obtain ⟨xs, h3, h4, h5⟩ := rows_of (fun n : Nat => [Tr.v (.int .u32 (n : Int))]) (fun n => n < 4294967296) (rows := rows) fun r hr => by
      obtain ⟨⟨n, rfl, h1, h2⟩, _⟩ := h1 r hr
      have e1 : IntKind.u32.min = 0 := rfl
      have e2 : IntKind.u32.max = 4294967295 := rfl
      rw [e1] at h1
      rw [e2] at h2
      exact ⟨n.toNat, by omega, by rw [Int.toNat_of_nonneg h1]⟩
    refine ⟨xs, h3, ?_⟩
    rw [h2, h4, h5, sU, hn]
    have : ∀ xs : List Nat, xs.flatMap (fun n : Nat => [Tr.v (.int .u32 (n : Int))]) = u32T xs := by
      intro xs
      induction xs with
      | nil => rfl
      | cons n xs ih => rw [List.flatMap_cons, ih]; rfl
    rw [this]
/-- a fraction's cells -/
theorem rd_frac (hb : Reads P t z (fun l => ∃ a b, l = a ++ b ∧ (∃ s, a = [.v (.bool s)]) ∧ ∃ b' c', b = b' ++ c' ∧ (∃ xs : List Nat, Lim 4294967296 xs ∧ b' = [sU false xs]) ∧ c' = [])) : Reads P t z (fun l => ∃ (s : Bool) (xs : List Nat), Lim 4294967296 xs ∧ l = [.v (.bool s), sU false xs]) :=
  hb.mono fun l ⟨a, b, h1, ⟨s, h2⟩, b', c', h3, ⟨xs, h4, h5⟩, h6⟩ => ⟨s, xs, h4, by rw [h1, h2, h3, h5, h6]; rfl⟩
end
/-- a fraction whose limbs are limbs -/
def LimF (a : Fr4) : Prop := Lim 4294967296 a.x ∧ Lim 4294967296 a.y
theorem LimF.ok {a : Fr4} (h : LimF a) (h2 : a.x.length ≤ 6 ∧ a.y.length ≤ 6) : a.ok := ⟨h.1, h.2, by omega, by omega⟩
end Go.Proofs.YtogaallfhifngaaGreat

