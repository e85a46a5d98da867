/- Part 13 of a proof: B8 to B14. -/
import Derived.Test.YtogaallfhifngaaGreatM12
set_option maxRecDepth 100000
set_option linter.unusedVariables false
set_option linter.unusedSimpArgs false
namespace Go.Proofs.YtogaallfhifngaaGreat
open Go Go.RowKit
theorem l_same_eq {us ws : List (Int × Rat)} (h : us = ws) (hu : ∀ x ∈ us, Sz 68719476736 x.2) (hl : us.length ≤ 1073741823) : Spec true Tryz.prog 29 [] [.one (.t (sV 57 false us)), .one (.t (sV 63 false ws))] (Ret (.one (tv (.bool true)))) := by
  have h9 := l_same hu (h ▸ hu) hl (h ▸ hl)
  rwa [decide_eq_true h] at h9
theorem f_IsRat_eq {q : Rat} (hq : Sz 68719476736 q) : Spec true Tryz.prog 36 [] [qF (.of q), qF (.of q)] (Ret (.one (tv (.bool true)))) := by
  have hl : (Fr4.of q).len 1099511627776 := ⟨Nat.le_trans hq.1 (by omega), Nat.le_trans hq.2 (by omega)⟩
  have h9 := c_IsRat hl hl
  rwa [decide_eq_true rfl] at h9
theorem qsum_sz {vs : List (Int × Rat)} {B : Nat} (h : ∀ x ∈ vs, Sz B x.2) : Sz (2 + vs.length * (B + 1)) (qsum (vs.map Prod.snd)) := by
  have key : ∀ k, k ≤ vs.length → Sz (2 + k * (B + 1)) (qsum ((vs.take k).map Prod.snd)) := by
    intro k
    induction k with
    | zero => intro _; exact (int_sz (z := 0) (by omega) (by omega)).mono (by omega)
    | succ k ih =>
      intro hk
      rw [take_v (by omega), List.map_append]
      have h1 : qsum ((vs.take k).map Prod.snd ++ [nthV vs k].map Prod.snd) = qsum ((vs.take k).map Prod.snd) + (nthV vs k).2 := qsum_snoc _ _
      rw [h1]
      exact (add_sz (ih (by omega)) (h _ (nthV_mem (by omega)))).mono (by rw [show (k + 1) * (B + 1) = k * (B + 1) + (B + 1) from Nat.succ_mul k (B + 1)]; omega)
  have := key vs.length (Nat.le_refl _)
  rwa [List.take_of_length_le (Nat.le_refl _)] at this
theorem l_is {vs : List (Int × Rat)} {rest : List Tr} {n B : Nat} {last : Int} {was : Bool} (hok : StOk vs n B) (hn : n ≤ 1000) (hB : B ≤ 1000000) : Spec true Tryz.prog 11 [] [.one (.ef (sV 57 false vs :: rest) 0), .agg (([sV 63 false vs, .v (.int .i64 last), .v (.bool was)] : List Tr).map .t)] (Ret (.one (tv (.bool true)))) := by
  refine fn0 Tryz.func11 rfl Tryz.ntmps11 rfl ttok rfl fun N w c0 h0 => ?_
  have hl1 := hok.len
  have hl : vs.length ≤ 1073741823 := by omega
  have hz : ∀ x ∈ vs, Sz 68719476736 x.2 := hok.sz (by omega)
  have hzB : ∀ x ∈ vs, Sz B x.2 := hok.sz (Nat.le_refl _)
  have hmul : vs.length * (B + 1) ≤ 1000 * 1000001 := Nat.mul_le_mul (by omega) (by omega)
  have hB1 : 2 + vs.length * (B + 1) ≤ 68719476736 := by omega
  have hB2 : 2 + vs.length * (B + 1) ≤ 17179869184 := by omega
  have hsum : Sz 68719476736 (qsum (vs.map Prod.snd)) := (qsum_sz hzB).mono (by omega)
  refine sq ?_; refine rl ?_; refine bx 0 ?_; refine o1 ?_; refine nl ?_; refine sq ?_; refine rl ?_; refine o1 ?_; refine cak 1 (p_Rows hz hl) ok16 ⟨a1o rfl .ef, rfl⟩ ?_; refine o1 ?_; refine nl ?_
  refine sq ?_; refine rd [0] (fun i => [20].contains i) mixed ?_
  refine dv 0 ?_; refine dv 1 ?_; refine dld 2 ?_
  refine dca 3 rfl (l_same_eq (us := vs) rfl hz hl) ok29 ⟨a1o rfl (.sr (trs := vs.flatMap (vtr true)) rfl rfl (take_self _ _ rfl) (vflat_len true _) (rd_vo true _)), a1 rfl, rfl⟩ (.one (tv (.bool true))) ?_
  refine df 4 ?_; refine dv 5 ?_; refine dv 7 ?_; refine dld 8 ?_; refine dca 6 rfl (p_Balance (vs := vs) (B := B) hB1 hzB hl) ok28 ⟨a1o rfl .ef, rfl⟩ (qF (.of (qsum (vs.map Prod.snd)))) ?_
  refine dca 9 rfl (c_Total25 (vs := vs) (B := B) hB2 hzB (by omega)) ok37 ⟨a1 rfl, rfl⟩ (qF (.of (qsum (vs.map Prod.snd)))) ?_
  refine dca 10 rfl (f_IsRat_eq hsum) ok36 ⟨a1g rfl, a1g rfl, rfl⟩ (.one (tv (.bool true))) ?_; refine df 11 ?_; refine df 12 ?_; refine dv 13 ?_; refine dv 15 ?_; refine dld 16 ?_
  refine dca 14 rfl (p_Total (vs := vs) (B := B) hB1 hzB hl) ok17 ⟨a1o rfl (.sr (trs := vs.flatMap (vtr true)) rfl rfl (take_self _ _ rfl) (vflat_len true _) (rd_vo true _)), rfl⟩ (qF (.of (qsum (vs.map Prod.snd)))) ?_
  refine dca 17 rfl (c_Total25 (vs := vs) (B := B) hB2 hzB (by omega)) ok37 ⟨a1 rfl, rfl⟩ (qF (.of (qsum (vs.map Prod.snd)))) ?_
  refine dca 18 rfl (f_IsRat_eq hsum) ok36 ⟨a1g rfl, a1g rfl, rfl⟩ (.one (tv (.bool true))) ?_; refine df 19 ?_
  refine d_v 20 (by kernel_rfl) rfl rfl ttok rfl (by trivial) ?_ (fun h => by first | rfl | cases h)
  refine dz0 ?_; refine sq ?_; refine rl ?_; refine o1 ?_; refine clx 2 [1] (l_spoil (n := vs.length) (Spo.vo hz) hl) ok32 ⟨oet rfl, rfl⟩ ⟨rfl, rfl⟩ ?_; rintro _ _ ⟨rfl, trs9, rfl⟩
  refine ⟨_, _, [some ⟨57, 5, trs9.map .t⟩], rfl, ⟨oet rfl, rfl⟩, ?_⟩; refine nl ?_; refine sq ?_; refine rd [0] (fun i => [8].contains i) mixed ?_
  refine dv 0 ?_; refine dv 1 ?_; refine dv 2 ?_; refine dv 4 ?_; refine dld 5 ?_; refine dck 2 3 rfl (p_Rows hz hl) ok16 ⟨a1o rfl .ef, rfl⟩ ?_
  refine dca 6 rfl (l_same_eq (us := vs) rfl hz hl) ok29 ⟨a1o rfl (.sr (trs := vs.flatMap (vtr true)) rfl rfl (take_self _ _ rfl) (vflat_len true _) (rd_vo true _)), a1 rfl, rfl⟩ (.one (tv (.bool true))) ?_
  refine df 7 ?_; refine d_v 8 (by kernel_rfl) rfl rfl ttok rfl (by trivial) ?_ (fun h => by first | rfl | cases h)
  refine dz0 ?_; refine rt ?_; exact en (.inl rfl) rfl (pk1 (pkv _)) (by decide) (fun _ => trivial) rfl
def DoesR (n B : Nat) (vs0 : List (Int × Rat)) (last0 : Int) (put0 : Bool) (l : List Lt) (r : FV) : Prop := ∃ (vs : List (Int × Rat)) (last lastr : Int) (put : Bool), StOk vs (n + 1) (B + 7 + 2 * n) ∧ (put = true → lastr = last) ∧ (LdOk vs0 last0 put0 → LdOk vs last put) ∧ l = [⟨76, 0, [.t (sR 57 vs), tv (.int .i64 last), tv (.bool put)]⟩] ∧ r = .tup [.agg (([sV 63 false vs, .v (.int .i64 lastr), .v (.bool put)] : List Tr).map .t), .one (tv (.bool true))]
theorem c_Put25L {vs : List (Int × Rat)} {last lastr y : Int} {was : Bool} {a : Fr4} {q : Rat} (ha : Qn a q) (hl : vs.length ≤ 1073741823) (hlr : was = true → lastr = last) : Spec false Tryz.prog 34 [] [.agg (([sV 63 false vs, .v (.int .i64 lastr), .v (.bool was)] : List Tr).map .t), .one (tv (.int .i64 y)), qF a] (Ret (.tup [.agg (([sV 63 false (putL (putE (rightQ a.s a.x a.t a.y) q y last was) q y vs), .v (.int .i64 (putY (putE (rightQ a.s a.x a.t a.y) q y last was) y lastr)), .v (.bool (putP (putE (rightQ a.s a.x a.t a.y) q y last was) was))] : List Tr).map .t), .one (tv (.int .i64 (putE (rightQ a.s a.x a.t a.y) q y last was)))])) := by
  have h := c_Put25 (vs := vs) (last := lastr) (y := y) (was := was) ha hl
  rwa [putE_lr hlr] at h
theorem huz {vs : List (Int × Rat)} {n B M : Nat} {fr : Int} {p : Rat} (hok : StOk vs n B) (hB : B + wt p + 2 * n ≤ M) : ∀ x ∈ (useL fr vs p).2.1, Sz M x.2 := by
  have key : ∀ (xs : List (Int × Rat)) (s : List (Int × Rat) × List (Int × Rat) × Rat) (L : Nat), (∀ x ∈ s.2.1, Sz L x.2) → wt s.2.2 + wts (xs.map Prod.snd) + 2 * xs.length ≤ L → ∀ x ∈ (xs.foldl (useS fr) s).2.1, Sz L x.2 := by
    intro xs
    induction xs with
    | nil => intro s L h _; exact h
    | cons x xs ih =>
      intro s L h hL
      have e : wts ((x :: xs).map Prod.snd) = wt x.2 + wts (xs.map Prod.snd) := by simp [wts]
      rw [e, List.length_cons] at hL
      rw [List.foldl_cons]
      by_cases hc : fr ≤ x.1 ∧ 0 < s.2.2.num.sign
      · have h1 := useS_yes (s := s) (y := x.1) (q := x.2) hc.1 hc.2
        have h2 := wt_min2 x.2 s.2.2
        have h3 := wt_min1 x.2 s.2.2
        rw [show useS fr s x = useS fr s (x.1, x.2) from rfl, h1]
        refine ih _ _ (fun z hz => ?_) (by dsimp only; omega)
        rcases List.mem_append.1 hz with hz | hz
        · exact h z hz
        · rw [List.mem_singleton] at hz
          subst hz
          exact sz_iff.2 (by have h9 : wt (qmin x.2 [s.2.2]) = szq (qmin x.2 [s.2.2]) + 1 := rfl; dsimp only; omega)
      · rw [useS_no hc]
        exact ih _ _ h (by dsimp only; omega)
  have h1 := hok.size
  have h2 := hok.len
  exact key vs ([], [], p) _ (fun x hx => by cases hx) (by dsimp only; omega)
theorem hul {vs : List (Int × Rat)} {n B : Nat} {fr : Int} {p : Rat} (hok : StOk vs n B) (hn : n ≤ 1000) : (useL fr vs p).2.1.length ≤ 1073741823 := by
  have key : ∀ (xs : List (Int × Rat)) (s : List (Int × Rat) × List (Int × Rat) × Rat), (xs.foldl (useS fr) s).2.1.length ≤ s.2.1.length + xs.length := by
    intro xs
    induction xs with
    | nil => intro s; simp
    | cons x xs ih =>
      intro s
      rw [List.foldl_cons]
      refine Nat.le_trans (ih _) ?_
      by_cases hc : fr ≤ x.1 ∧ 0 < s.2.2.num.sign
      · rw [show useS fr s x = useS fr s (x.1, x.2) from rfl, useS_yes (s := s) (y := x.1) (q := x.2) hc.1 hc.2]
        dsimp only
        simp only [List.length_append, List.length_cons, List.length_nil]
        omega
      · rw [useS_no hc]
        dsimp only
        simp only [List.length_cons]
        omega
  have := key vs ([], [], p)
  have := hok.len
  unfold useL
  simp at *
  omega
theorem l_does {vs : List (Int × Rat)} {n B : Nat} {last lastr : Int} {put : Bool} {a : At} {p : Rat} (hlr : put = true → lastr = last) (hok : StOk vs n B) (hn : n ≤ 1000) (hB : B ≤ 1000000) (ha : Qn a.2.2 p) (hx6 : a.2.2.x.length ≤ 6) (hy6 : a.2.2.y.length ≤ 6) : Spec false Tryz.prog 10 [⟨76, 0, [.t (sR 57 vs), tv (.int .i64 last), tv (.bool put)]⟩] [.one (.pt 0 0), .agg (([sV 63 false vs, .v (.int .i64 lastr), .v (.bool put)] : List Tr).map .t), .agg ((atr a).map .t)] (DoesR n B vs last put) := by
  refine fnL Tryz.func10 rfl Tryz.ntmps10 rfl ttok rfl fun N M w c0 h0 => ?_
  have hl1 := hok.len
  have hl : vs.length ≤ 1073741823 := by omega
  have hz : ∀ x ∈ vs, Sz 68719476736 x.2 := hok.sz (by omega)
  have hsz1 := hok.size
  have hwp := wt6 ha hx6 hy6
  have hwB : B + wt p + 2 * n ≤ 68719476736 := by omega
  have hlen : a.2.2.len 1099511627776 := ⟨by omega, by omega⟩
  refine sq ?_; refine rl ?_; refine bx 1 ?_; refine bx 2 ?_; refine al 3 ?_; refine o1 ?_; refine nl ?_; refine sq ?_; refine rl ?_; refine o1 ?_; refine ld ?_
  refine ca (c_RefRat hlen) ok14 ⟨a1g rfl, rfl⟩ (qF a.2.2) ?_; refine al 4 ?_; refine st ?_; refine nl ?_; refine sq ?_; refine sq ?_; refine rl ?_; refine o1 ?_; refine ld ?_
  refine ca (f_Pick (i := a.1) (n := 4) (by omega) (by omega)) ok13 ⟨a1 rfl, a1 rfl, rfl⟩ (.one (tv (.int .i64 ((a.1.tmod 4 + 4).tmod 4)))) ?_
  refine nl ?_; refine bl ?_; refine sq ?_; refine rl ?_; refine o1 ?_; refine o1 ?_; refine nl ?_; refine cdp rfl (fun h1 => ?_) (fun h1 => ?_)
  ·
    refine sq ?_; refine rl ?_; refine ld ?_; refine o1 ?_; refine ld ?_; refine ld ?_
    refine ca (c_Use25 ha (by omega) (by omega)) ok31 ⟨a1g rfl, a1 rfl, a1g rfl, rfl⟩ (.tup [.agg (([sV 63 false (refL a.2.1 vs p).1, .v (.int .i64 lastr), .v (.bool put)] : List Tr).map .t), .one (.t (sV 63 false (refL a.2.1 vs p).2.1))]) ?_
    (iterate 3 refine o1 ?_); refine al 5 ?_; refine st ?_; refine o1 ?_; refine nl ?_; refine sq ?_; refine rl ?_; refine o1 ?_; refine o1 ?_; refine ld ?_; refine o1 ?_; refine ld ?_
    refine cl 6 [0] (p_Use (fr := a.2.1) ha hl (by omega) (hok.zU hwB)) ok15 ⟨oe rfl rfl, rfl⟩ ⟨rfl, rfl, rfl, rfl⟩ (ok := [some ⟨76, 0, [.t (sR 57 (keepV zeroQ (useL a.2.1 vs p).1)), tv (.int .i64 last), tv (.bool put)]⟩]) ⟨oe rfl rfl, rfl⟩ ?_
    refine o1 ?_; refine nl ?_; refine sq ?_; refine rl ?_; refine o1 ?_; refine o1 ?_
    refine ca (l_same_eq (us := (useL a.2.1 vs p).2.1) (ws := (refL a.2.1 vs p).2.1) (congrArg Prod.fst (useL_refL hok.pos).2).symm (huz hok hwB) (hul hok hn)) ok29 ⟨a1o rfl (.sr (trs := (useL a.2.1 vs p).2.1.flatMap (vtr true)) rfl rfl (take_self _ _ rfl) (vflat_len true _) (rd_vo true _)), a1 rfl, rfl⟩ (.one (tv (.bool true))) ?_
    refine o1 ?_; refine nl ?_; refine sq ?_; refine rl ?_; refine o1 ?_
    refine clx 7 [6] (l_spoil (n := (useL a.2.1 vs p).2.1.length) (Spo.vo (huz hok hwB)) (hul hok hn)) ok32 ⟨oet rfl, rfl⟩ ⟨rfl, rfl⟩ ?_; rintro _ _ ⟨rfl, trs9, rfl⟩
    refine ⟨_, _, [some ⟨57, 5, trs9.map .t⟩], rfl, ⟨oet rfl, rfl⟩, ?_⟩; refine nl ?_; refine sq ?_; refine rl ?_; refine ld ?_; refine o1 ?_; refine st ?_; refine o1 ?_; refine nl ?_; refine rt ?_
    exact enL (lent' := [⟨76, 0, [.t (sR 57 (keepV zeroQ (useL a.2.1 vs p).1)), tv (.int .i64 last), tv (.bool put)]⟩]) (.inl rfl) rfl (pkt (.cons (.agg (.cons (.id rfl) (.cons (.id rfl) (.cons (.id rfl) .nil)))) (.cons (pkv _) .nil))) (by decide) (fun _ h => by cases h) ⟨⟨rfl, rfl⟩, trivial⟩ ⟨rfl, trivial⟩ ⟨rfl, trivial⟩ (fun h => by cases h) ⟨(refL a.2.1 vs p).1, last, lastr, put, (hok.use (fr := a.2.1) (p := p)).mono (by omega) (by omega), hlr, fun h9 => h9.use _ _ hok.pos, by rw [(useL_refL hok.pos).1]; rfl, rfl⟩
  ·
    refine sq ?_; refine rl ?_; refine o1 ?_; refine o1 ?_; refine nl ?_; refine cdp rfl (fun h2 => ?_) (fun h2 => ?_)
    ·
      refine sq ?_; refine rl ?_; refine ld ?_; refine o1 ?_; refine ld ?_
      refine ca (c_Expire25 (fr := a.2.1) (by omega)) ok33 ⟨a1g rfl, a1 rfl, rfl⟩ (.tup [.agg (([sV 63 false (vs.filter fun x => !decide (x.1 < a.2.1)), .v (.int .i64 lastr), .v (.bool put)] : List Tr).map .t), .one (.t (sV 63 false (vs.filter fun x => decide (x.1 < a.2.1))))]) ?_
      (iterate 3 refine o1 ?_); refine al 5 ?_; refine st ?_; refine o1 ?_; refine nl ?_; refine sq ?_; refine rl ?_; refine o1 ?_; refine o1 ?_; refine ld ?_
      refine cl 6 [0] (p_Expire (b := a.2.1) hl hz) ok21 ⟨oe rfl rfl, rfl⟩ ⟨rfl, rfl, rfl⟩ (ok := [some ⟨76, 0, [.t (sR 57 (keepV (fun x : Int × Rat => decide (x.1 < a.2.1)) vs)), tv (.int .i64 last), tv (.bool put)]⟩]) ⟨oe rfl rfl, rfl⟩ ?_
      refine o1 ?_; refine nl ?_; refine sq ?_; refine rl ?_; refine o1 ?_; refine o1 ?_
      refine ca (l_same_eq (us := keepV (fun x : Int × Rat => !decide (x.1 < a.2.1)) vs) (ws := (vs.filter fun x => decide (x.1 < a.2.1))) (by simp [keepV]) (fun x hx => hz x (List.mem_filter.1 hx).1) (Nat.le_trans (List.length_filter_le _ _) (by omega))) ok29 ⟨a1o rfl (.sr (trs := (keepV (fun x : Int × Rat => !decide (x.1 < a.2.1)) vs).flatMap (vtr true)) rfl rfl (take_self _ _ rfl) (vflat_len true _) (rd_vo true _)), a1 rfl, rfl⟩ (.one (tv (.bool true))) ?_
      refine o1 ?_; refine nl ?_; refine sq ?_; refine rl ?_; refine o1 ?_
      refine clx 7 [6] (l_spoil (n := (keepV (fun x : Int × Rat => !decide (x.1 < a.2.1)) vs).length) (Spo.vo (fun x hx => hz x (List.mem_filter.1 hx).1)) (Nat.le_trans (List.length_filter_le _ _) (by omega))) ok32 ⟨oet rfl, rfl⟩ ⟨rfl, rfl⟩ ?_
      rintro _ _ ⟨rfl, trs9, rfl⟩; refine ⟨_, _, [some ⟨57, 5, trs9.map .t⟩], rfl, ⟨oet rfl, rfl⟩, ?_⟩; refine nl ?_; refine sq ?_; refine rl ?_; refine ld ?_; refine o1 ?_; refine st ?_; refine o1 ?_
      refine nl ?_; refine rt ?_
      exact enL (lent' := [⟨76, 0, [.t (sR 57 (keepV (fun x : Int × Rat => decide (x.1 < a.2.1)) vs)), tv (.int .i64 last), tv (.bool put)]⟩]) (.inl rfl) rfl (pkt (.cons (.agg (.cons (.id rfl) (.cons (.id rfl) (.cons (.id rfl) .nil)))) (.cons (pkv _) .nil))) (by decide) (fun _ h => by cases h) ⟨⟨rfl, rfl⟩, trivial⟩ ⟨rfl, trivial⟩ ⟨rfl, trivial⟩ (fun h => by cases h) ⟨(vs.filter fun x => !decide (x.1 < a.2.1)), last, lastr, put, (hok.filter _).mono (by omega) (by omega), hlr, fun h9 => h9.filter _, rfl, rfl⟩
    ·
      refine sk ?_; refine sq ?_; refine rl ?_; refine ld ?_; refine o1 ?_; refine ld ?_; refine ld ?_
      refine ca (c_Put25L (y := a.2.1) ha (by omega) hlr) ok34 ⟨a1g rfl, a1 rfl, a1g rfl, rfl⟩ (.tup [.agg (([sV 63 false (putL (putE (rightQ a.2.2.s a.2.2.x a.2.2.t a.2.2.y) p a.2.1 last put) p a.2.1 vs), .v (.int .i64 (putY (putE (rightQ a.2.2.s a.2.2.x a.2.2.t a.2.2.y) p a.2.1 last put) a.2.1 lastr)), .v (.bool (putP (putE (rightQ a.2.2.s a.2.2.x a.2.2.t a.2.2.y) p a.2.1 last put) put))] : List Tr).map .t), .one (tv (.int .i64 (putE (rightQ a.2.2.s a.2.2.x a.2.2.t a.2.2.y) p a.2.1 last put)))]) ?_
      (iterate 3 refine o1 ?_); refine al 5 ?_; refine st ?_; refine o1 ?_; refine nl ?_; refine sq ?_; refine rl ?_; refine ld ?_; refine cak 6 (c_OfRat hlen) ok35 ⟨a1g rfl, rfl⟩ ?_; refine al 8 ?_
      refine st ?_; refine nl ?_; refine sq ?_; refine rl ?_; refine o1 ?_; refine o1 ?_; refine ld ?_; refine ld ?_
      refine cl 9 [0, 6, 7] (p_PutL (y := a.2.1) ha (by omega)) ok22 ⟨oe rfl rfl, oet rfl, oet rfl, rfl⟩ ⟨rfl, rfl, rfl, rfl⟩ (ok := [some ⟨76, 0, [.t (sR 57 (putL (putE (rightQ a.2.2.s a.2.2.x a.2.2.t a.2.2.y) p a.2.1 last put) p a.2.1 vs)), tv (.int .i64 (putY (putE (rightQ a.2.2.s a.2.2.x a.2.2.t a.2.2.y) p a.2.1 last put) a.2.1 last)), tv (.bool (putP (putE (rightQ a.2.2.s a.2.2.x a.2.2.t a.2.2.y) p a.2.1 last put) put))]⟩, some ⟨104, 1, (u32T a.2.2.x).map .t⟩, some ⟨104, 1, (u32T a.2.2.y).map .t⟩]) ⟨oe rfl rfl, oet rfl, oet rfl, rfl⟩ ?_
      refine o1 ?_; refine nl ?_; refine sq ?_; refine rl ?_; refine ld ?_; refine o1 ?_; refine bs 9 ?_
      refine WL.sub (cls (j := 9) (k := 6) (p := 2) (n := a.2.2.x.length) (trs := u32T a.2.2.x) rfl rfl rfl rfl rfl (tk_u32 _) (ln_u32 _) rfl) ?_
      refine WL.sub (cls (j := 9) (k := 7) (p := 4) (n := a.2.2.y.length) (trs := u32T a.2.2.y) rfl rfl rfl rfl rfl (tk_u32 _) (ln_u32 _) rfl) ?_
      refine clx 10 [9] (l_spoil (n := 1) (trs0 := [.v (.int .i64 0), .v (.bool a.2.2.s), sU true a.2.2.x, .v (.bool a.2.2.t), sU true a.2.2.y]) ⟨rfl, fun i hi => by obtain rfl : i = 0 := (by omega); exact ⟨a.2.2.x, by omega, rfl⟩⟩ (by omega)) ok32 ⟨oe rfl rfl, rfl⟩ ⟨rfl, rfl⟩ ?_
      rintro _ _ ⟨rfl, trs9, rfl⟩; refine ⟨_, _, [some ⟨57, 5, trs9.map .t⟩], rfl, ⟨oet rfl, rfl⟩, ?_⟩; refine nl ?_; refine sq ?_; refine rl ?_; refine ld ?_; (iterate 3 refine o1 ?_); refine st ?_
      refine o1 ?_; refine nl ?_; refine rt ?_
      exact enL (lent' := [⟨76, 0, [.t (sR 57 (putL (putE (rightQ a.2.2.s a.2.2.x a.2.2.t a.2.2.y) p a.2.1 last put) p a.2.1 vs)), tv (.int .i64 (putY (putE (rightQ a.2.2.s a.2.2.x a.2.2.t a.2.2.y) p a.2.1 last put) a.2.1 last)), tv (.bool (putP (putE (rightQ a.2.2.s a.2.2.x a.2.2.t a.2.2.y) p a.2.1 last put) put))]⟩]) (.inl rfl) rfl (pkt (.cons (.agg (.cons (.id rfl) (.cons (.id rfl) (.cons (.id rfl) .nil)))) (.cons (pkv _) .nil))) (by decide) (fun _ h => by cases h) ⟨⟨rfl, rfl⟩, trivial⟩ ⟨rfl, trivial⟩ ⟨rfl, trivial⟩ (fun h => by cases h) ⟨(putL (putE (rightQ a.2.2.s a.2.2.x a.2.2.t a.2.2.y) p a.2.1 last put) p a.2.1 vs), (putY (putE (rightQ a.2.2.s a.2.2.x a.2.2.t a.2.2.y) p a.2.1 last put) a.2.1 last), (putY (putE (rightQ a.2.2.s a.2.2.x a.2.2.t a.2.2.y) p a.2.1 last put) a.2.1 lastr), (putP (putE (rightQ a.2.2.s a.2.2.x a.2.2.t a.2.2.y) p a.2.1 last put) put), (hok.put _ _ _).mono (by omega) (by omega), fun h9 => putY_lr hlr h9, fun h9 => h9.puts, rfl, by rw [decide_eq_true rfl]; rfl⟩
end Go.Proofs.YtogaallfhifngaaGreat
namespace Go.Proofs.YtogaallfhifngaaGreat
open Go Go.RowKit
theorem p_PutC {vs vs' : List (Int × Rat)} {last last' y e : Int} {put put' : Bool} {q : Rat} (hs : Sz 68719476736 q) (hl : vs.length ≤ 1073741822) (he : putE true q y last put = e) (hv : putL e q y vs = vs') (hy : putY e y last = last') (hp : putP e put = put') : Spec false Tryz.prog 22 [⟨76, 0, [.t (sR 57 vs), tv (.int .i64 last), tv (.bool put)]⟩] [.one (.pt 0 0), .one (tv (.int .i64 y)), qF (.of q)] (Rt [⟨76, 0, [.t (sR 57 vs'), tv (.int .i64 last'), tv (.bool put')]⟩] (.one (tv (.int .i64 e)))) := by
  have h := p_Put (vs := vs) (last := last) (y := y) (put := put) (Qn.of hs) hl
  have e1 : rightQ (Fr4.of q).s (Fr4.of q).x (Fr4.of q).t (Fr4.of q).y = true := rightQ_dg q
  rwa [e1, he, hv, hy, hp] at h
theorem p_SameE {p q : Rat} (hp : Sz 68719476736 p) (hq : Sz 68719476736 q) (h : p = q) : Spec true Tryz.prog 30 [] [qF (.of p), qF (.of q)] (Ret (.one (tv (.bool true)))) := by
  have h9 := p_Same (Qn.of hp) (Qn.of hq)
  rwa [decide_eq_true h] at h9
theorem p_Sign0 {p : Rat} (hp : Sz 68719476736 p) (h : p.num.sign = 0) : Spec true Tryz.prog 27 [] [qF (.of p)] (Ret (.one (tv (.int .i64 0)))) := by
  have h9 := p_Sign (Qn.of hp)
  rwa [h] at h9
theorem l_works : Spec true Tryz.prog 8 [] [] (Ret (.one (tv (.bool true)))) := by
  refine fn0 Tryz.func8 rfl Tryz.ntmps8 rfl ttok rfl fun N w c0 h0 => ?_
  refine sq ?_; refine rl ?_; refine o1 ?_; refine nl ?_; refine sq ?_; refine rl ?_; refine cak 0 p_New ok9 rfl ?_; refine o1 ?_; refine nl ?_; refine sq ?_; refine rl ?_; refine o1 ?_
  refine ca (f_By (n := 10) (d := 1) (by omega) (by omega) (by omega) (by omega)) ok26 ⟨a1 rfl, a1 rfl, rfl⟩ (qF (.of (Rat.divInt 10 1))) ?_
  refine cl 1 [0] (p_PutC (vs := ([] : List (Int × Rat))) (vs' := [((2020 : Int), (Rat.divInt 10 1))]) (last := 0) (last' := 2020) (y := 2020) (put := false) (put' := true) (q := (Rat.divInt 10 1)) ((by_sz (n := 10) (d := 1) (by omega) (by omega) (by omega) (by omega)).mono (M := 68719476736) (by omega)) (by simp) (e := 0) (by kernel_rfl) (by kernel_rfl) (by kernel_rfl) (by kernel_rfl)) ok22 ⟨oe rfl rfl, rfl⟩ ⟨rfl, rfl, rfl, rfl⟩ (ok := [some ⟨76, 0, [.t (sR 57 [((2020 : Int), (Rat.divInt 10 1))]), tv (.int .i64 2020), tv (.bool true)]⟩]) ⟨oe rfl rfl, rfl⟩ ?_
  refine o1 ?_; refine ca (f_By (n := 5) (d := 1) (by omega) (by omega) (by omega) (by omega)) ok26 ⟨a1 rfl, a1 rfl, rfl⟩ (qF (.of (Rat.divInt 5 1))) ?_
  refine cl 1 [0] (p_PutC (vs := [((2020 : Int), (Rat.divInt 10 1))]) (vs' := [((2020 : Int), (Rat.divInt 10 1)), (2021, (Rat.divInt 5 1))]) (last := 2020) (last' := 2021) (y := 2021) (put := true) (put' := true) (q := (Rat.divInt 5 1)) ((by_sz (n := 5) (d := 1) (by omega) (by omega) (by omega) (by omega)).mono (M := 68719476736) (by omega)) (by simp) (e := 0) (by kernel_rfl) (by kernel_rfl) (by kernel_rfl) (by kernel_rfl)) ok22 ⟨oe rfl rfl, rfl⟩ ⟨rfl, rfl, rfl, rfl⟩ (ok := [some ⟨76, 0, [.t (sR 57 [((2020 : Int), (Rat.divInt 10 1)), (2021, (Rat.divInt 5 1))]), tv (.int .i64 2021), tv (.bool true)]⟩]) ⟨oe rfl rfl, rfl⟩ ?_
  refine o1 ?_; refine o1 ?_; refine nl ?_; refine sq ?_; refine rl ?_; refine o1 ?_
  refine ca (f_By (n := 12) (d := 1) (by omega) (by omega) (by omega) (by omega)) ok26 ⟨a1 rfl, a1 rfl, rfl⟩ (qF (.of (Rat.divInt 12 1))) ?_
  have hok2 : StOk [((2020 : Int), (Rat.divInt 10 1)), (2021, (Rat.divInt 5 1))] 2 8 := ⟨by simp only [List.forall_mem_cons]; exact ⟨by decide +kernel, by decide +kernel, fun _ h => by cases h⟩, Nat.le_refl _, by decide +kernel⟩
  have hu9 := p_Use (vs := [((2020 : Int), (Rat.divInt 10 1)), (2021, (Rat.divInt 5 1))]) (last := 2021) (put := true) (fr := 2020) (Qn.of ((by_sz (n := 12) (d := 1) (by omega) (by omega) (by omega) (by omega)).mono (M := 68719476736) (by omega))) (by simp) (by decide +kernel) (hok2.zU (by decide +kernel))
  rw [show keepV zeroQ (useL 2020 [((2020 : Int), (Rat.divInt 10 1)), (2021, (Rat.divInt 5 1))] (Rat.divInt 12 1)).1 = [((2021 : Int), (Rat.divInt 3 1))] by kernel_rfl] at hu9
  refine cl 1 [0] hu9 ok15 ⟨oe rfl rfl, rfl⟩ ⟨rfl, rfl, rfl, rfl⟩ (ok := [some ⟨76, 0, [.t (sR 57 [((2021 : Int), (Rat.divInt 3 1))]), tv (.int .i64 2021), tv (.bool true)]⟩]) ⟨oe rfl rfl, rfl⟩ ?_
  refine o1 ?_; refine nl ?_; refine sq ?_; refine rl ?_; refine o1 ?_
  refine ca (p_Balance (vs := [((2021 : Int), (Rat.divInt 3 1))]) (rest := [.v (.int .i64 2021), .v (.bool true)]) (B := 2) (by simp) (by simp only [List.forall_mem_cons]; exact ⟨by_sz (n := 3) (d := 1) (by omega) (by omega) (by omega) (by omega), fun _ h => by cases h⟩) (by simp)) ok28 ⟨a1o rfl (.pe (trs := [sR 57 [((2021 : Int), (Rat.divInt 3 1))], .v (.int .i64 2021), .v (.bool true)]) rfl rfl rfl (by simp only [rdTL, rdT, sR, sV, rd_vo])), rfl⟩ (qF (.of (qsum ([((2021 : Int), (Rat.divInt 3 1))].map Prod.snd)))) ?_
  refine al 2 ?_; refine st ?_; refine nl ?_; refine sq ?_; refine rl ?_; refine o1 ?_
  refine ca (f_By (n := 1) (d := 1) (by omega) (by omega) (by omega) (by omega)) ok26 ⟨a1 rfl, a1 rfl, rfl⟩ (qF (.of (Rat.divInt 1 1))) ?_
  refine cl 3 [0] (p_PutC (vs := [((2021 : Int), (Rat.divInt 3 1))]) (vs' := [((2021 : Int), (Rat.divInt 3 1))]) (last := 2021) (last' := 2021) (y := 2021) (put := true) (put' := true) (q := (Rat.divInt 1 1)) ((by_sz (n := 1) (d := 1) (by omega) (by omega) (by omega) (by omega)).mono (M := 68719476736) (by omega)) (by simp) (e := 4) (by kernel_rfl) (by kernel_rfl) (by kernel_rfl) (by kernel_rfl)) ok22 ⟨oe rfl rfl, rfl⟩ ⟨rfl, rfl, rfl, rfl⟩ (ok := [some ⟨76, 0, [.t (sR 57 [((2021 : Int), (Rat.divInt 3 1))]), tv (.int .i64 2021), tv (.bool true)]⟩]) ⟨oe rfl rfl, rfl⟩ ?_
  refine o1 ?_; refine nl ?_; refine sq ?_; refine rl ?_; refine o1 ?_
  have he9 := p_Expire (vs := [((2021 : Int), (Rat.divInt 3 1))]) (last := 2021) (put := true) (b := 2022) (by simp) (by simp only [List.forall_mem_cons]; exact ⟨((by_sz (n := 3) (d := 1) (by omega) (by omega) (by omega) (by omega)).mono (M := 68719476736) (by omega)), fun _ h => by cases h⟩)
  rw [show keepV (fun x : Int × Rat => decide (x.1 < 2022)) [((2021 : Int), (Rat.divInt 3 1))] = ([] : List (Int × Rat)) by kernel_rfl] at he9
  refine cl 3 [0] he9 ok21 ⟨oe rfl rfl, rfl⟩ ⟨rfl, rfl, rfl⟩ (ok := [some ⟨76, 0, [.t (sR 57 ([] : List (Int × Rat))), tv (.int .i64 2021), tv (.bool true)]⟩]) ⟨oe rfl rfl, rfl⟩ ?_; refine o1 ?_
  refine nl ?_; refine sq ?_; refine rd [0, 2] (fun i => [37].contains i) mixed ?_
  refine dv 0 ?_; refine dv 1 ?_; refine dv 2 ?_; refine WD.split (t := 27) rfl rfl (fun h1 => ?_) (fun h1 => ?_)
  ·
    refine dv 3 ?_; refine dv 4 ?_; refine dv 5 ?_; refine dv 6 ?_; refine WD.split (t := 31) rfl rfl (fun h2 => ?_) (fun h2 => ?_)
    ·
      refine dv 7 ?_; refine dca 8 rfl (c_Whole4 (n := 10) (by omega) (by omega)) ok12 ⟨a1 rfl, rfl⟩ (qF (.of ((10 : Int) : Rat))) ?_
      refine df 9 ?_; refine dca 10 rfl (c_Whole4 (n := 2) (by omega) (by omega)) ok12 ⟨a1 rfl, rfl⟩ (qF (.of ((2 : Int) : Rat))) ?_
      refine df 11 ?_; refine d_bs (key := 4) 12 (by kernel_rfl) rfl rfl ttok rfl ⟨rfl, rfl, trivial⟩ ?_
      refine dca 13 rfl (l_same_eq (us := (useL 2020 [((2020 : Int), (Rat.divInt 10 1)), (2021, (Rat.divInt 5 1))] (Rat.divInt 12 1)).2.1) (ws := [((2020 : Int), ((10 : Int) : Rat)), (2021, ((2 : Int) : Rat))]) (by kernel_rfl) (huz hok2 (by decide +kernel)) (hul hok2 (by omega))) ok29 ⟨a1o rfl (.sr (trs := (useL 2020 [((2020 : Int), (Rat.divInt 10 1)), (2021, (Rat.divInt 5 1))] (Rat.divInt 12 1)).2.1.flatMap (vtr true)) rfl rfl (take_self _ _ rfl) (vflat_len true _) (rd_vo true _)), a1o rfl (.sl (trs := ([((2020 : Int), ((10 : Int) : Rat)), (2021, ((2 : Int) : Rat))] : List (Int × Rat)).flatMap (vtr false)) rfl rfl rfl rfl), rfl⟩ (.one (tv (.bool true))) ?_
      refine df 14 ?_; refine df 15 ?_; refine dld 16 ?_
      refine dca 17 rfl (f_By (n := 3) (d := 1) (by omega) (by omega) (by omega) (by omega)) ok26 ⟨a1 rfl, a1 rfl, rfl⟩ (qF (.of (Rat.divInt 3 1))) ?_
      refine dca 18 rfl (p_SameE (p := (qsum ([((2021 : Int), (Rat.divInt 3 1))].map Prod.snd))) (q := (Rat.divInt 3 1)) (by rw [show (qsum ([((2021 : Int), (Rat.divInt 3 1))].map Prod.snd)) = (Rat.divInt 3 1) by kernel_rfl]; exact ((by_sz (n := 3) (d := 1) (by omega) (by omega) (by omega) (by omega)).mono (M := 68719476736) (by omega))) ((by_sz (n := 3) (d := 1) (by omega) (by omega) (by omega) (by omega)).mono (M := 68719476736) (by omega)) (by kernel_rfl)) ok30 ⟨a1g rfl, a1g rfl, rfl⟩ (.one (tv (.bool true))) ?_
      refine df 19 ?_; refine df 20 ?_; refine dv 21 ?_; refine dv 22 ?_; refine df 23 ?_; refine df 24 ?_; refine WD.split (t := 49) rfl rfl (fun h3 => ?_) (fun h3 => ?_)
      ·
        refine dv 25 ?_; refine dca 26 rfl (c_Whole4 (n := 3) (by omega) (by omega)) ok12 ⟨a1 rfl, rfl⟩ (qF (.of ((3 : Int) : Rat))) ?_
        refine df 27 ?_; refine d_bs (key := 5) 28 (by kernel_rfl) rfl rfl ttok rfl ⟨rfl, rfl, trivial⟩ ?_
        refine dca 29 rfl (l_same_eq (us := (keepV (fun x : Int × Rat => !decide (x.1 < 2022)) [((2021 : Int), (Rat.divInt 3 1))])) (ws := [((2021 : Int), ((3 : Int) : Rat))]) (by kernel_rfl) (by simp only [keepV]; exact fun x hx => (show ∀ x ∈ [((2021 : Int), (Rat.divInt 3 1))], Sz 68719476736 x.2 by simp only [List.forall_mem_cons]; exact ⟨((by_sz (n := 3) (d := 1) (by omega) (by omega) (by omega) (by omega)).mono (M := 68719476736) (by omega)), fun _ h => by cases h⟩) x (List.mem_filter.1 hx).1) (Nat.le_trans (List.length_filter_le _ _) (by simp))) ok29 ⟨a1o rfl (.sr (trs := (keepV (fun x : Int × Rat => !decide (x.1 < 2022)) [((2021 : Int), (Rat.divInt 3 1))]).flatMap (vtr true)) rfl rfl (take_self _ _ rfl) (vflat_len true _) (rd_vo true _)), a1o rfl (.sl (trs := ([((2021 : Int), ((3 : Int) : Rat))] : List (Int × Rat)).flatMap (vtr false)) rfl rfl rfl rfl), rfl⟩ (.one (tv (.bool true))) ?_
        refine df 30 ?_; refine df 31 ?_; refine dv 32 ?_
        refine dca 33 rfl (p_Balance (vs := ([] : List (Int × Rat))) (rest := [.v (.int .i64 2021), .v (.bool true)]) (B := 2) (by simp) (fun _ h => by cases h) (by simp)) ok28 ⟨a1o rfl (.pe (trs := [sR 57 ([] : List (Int × Rat)), .v (.int .i64 2021), .v (.bool true)]) rfl rfl rfl (by simp only [rdTL, rdT, sR, sV, rd_vo])), rfl⟩ (qF (.of (qsum (([] : List (Int × Rat)).map Prod.snd)))) ?_
        refine dca 34 rfl (p_Sign0 (p := (qsum (([] : List (Int × Rat)).map Prod.snd))) (by rw [show (qsum (([] : List (Int × Rat)).map Prod.snd)) = Rat.divInt 0 1 by kernel_rfl]; exact ((by_sz (n := 0) (d := 1) (by omega) (by omega) (by omega) (by omega)).mono (M := 68719476736) (by omega))) (by kernel_rfl)) ok27 ⟨a1g rfl, rfl⟩ (.one (tv (.int .i64 0))) ?_
        refine df 35 ?_; refine df 36 ?_; refine d_v 37 (by kernel_rfl) rfl rfl ttok rfl (by trivial) ?_ (fun h => by first | rfl | cases h)
        refine dz0 ?_; refine rt ?_; exact en (.inl rfl) rfl (pk1 (pkv _)) (by decide) (fun _ => trivial) rfl
      ·
        exact absurd rfl h3
    ·
      exact absurd rfl h2
  ·
    exact absurd rfl h1
end Go.Proofs.YtogaallfhifngaaGreat
namespace Go.Proofs.YtogaallfhifngaaGreat
open Go Go.RowKit
theorem l_LossPlays {xs : List At} (hqa : ∀ x ∈ xs, x.2.2.x.length ≤ 6 ∧ x.2.2.y.length ≤ 6 → x.2.2.ok) : Spec true Tryz.prog 3 [] [.one (.t (sAc 38 xs))] (Ret (.one (tv (.bool true)))) := by
  refine fn0 Tryz.func3 rfl Tryz.ntmps3 rfl ttok rfl fun N w c0 h0 => ?_
  refine sq ?_; refine rl ?_; refine o1 ?_; refine nl ?_; refine sq ?_; refine sq ?_; refine rl ?_; refine o1 ?_
  refine ca (l_few (xs := xs) (top := 40)) ok7 ⟨a1 rfl, a1 rfl, rfl⟩ (.one (tv (.bool (fewB xs 40)))) ?_; refine WL.splitb (t := 9) rfl (fun h1 => ?_) (fun h1 => ?_)
  ·
    refine o1 ?_; refine nl ?_; refine cdf rfl ?_; refine sk ?_; refine sq ?_; refine rl ?_; obtain ⟨hlen, hsh⟩ := few_use h1 (by omega)
    refine cak 0 p_New ok9 rfl ?_; refine o1 ?_; refine nl ?_; refine sq ?_; refine rl ?_; refine al 1 ?_; refine WL.sub (nrd (j := 1) (p := 0) (e := 63) (z' := 5) rfl rfl rfl) ?_; refine nl ?_
    refine sq ?_; refine sq ?_; refine rl ?_; refine o1 ?_; refine nl ?_; refine bl ?_
    refine lp (γ := Nat × List (Int × Rat) × Int × Int × Bool) (fun s => frL [(0, .one (.t (sAc 38 xs))), (3, .one (.pt 0 0)), (4, .one (.pt 1 0)), (5, .one (tv (.int .i64 ((s.1 : Nat) : Int))))]) (fun s => [(⟨76, 0, [.t (sR 57 s.2.1), tv (.int .i64 s.2.2.1), tv (.bool s.2.2.2.2)]⟩ : Ob), ⟨29, 0, [.t (sV 63 false s.2.1), tv (.int .i64 s.2.2.2.1), tv (.bool s.2.2.2.2)]⟩].map some) (fun s => s.1 ≤ xs.length ∧ StOk s.2.1 s.1 (100 * s.1) ∧ (s.2.2.2.2 = true → s.2.2.2.1 = s.2.2.1)) (fun s => xs.length - s.1) (0, [], 0, 0, false) ⟨Nat.zero_le _, StOk.nil, fun _ => rfl⟩ (su0 h0 [0, 1] _ _ (by decide) ⟨rfl, rfl, rfl, rfl, trivial⟩ ⟨oe rfl rfl, oe rfl rfl, rfl⟩) ?_
    rintro ⟨k, vs, last, lastr, put⟩ ⟨hk, hok, hlr⟩; dsimp only at hk hok hlr ⊢; refine sq ?_; refine sq ?_; refine rl ?_; (iterate 4 refine o1 ?_); refine nl ?_
    refine cdp rfl (fun h2 => ?_) (fun h2 => ?_)
    ·
      refine sk ?_; refine sq ?_; refine bl ?_
      refine md (γ := List (Int × Rat) × Int × Int × Bool) (fun s => frL [(0, .one (.t (sAc 38 xs))), (3, .one (.pt 0 0)), (4, .one (.pt 1 0)), (5, .one (tv (.int .i64 ((k : Nat) : Int)))), (6, .one (.pt 2 0)), (7, .one (tv (.bool true)))]) (fun s => [(⟨76, 0, [.t (sR 57 s.1), tv (.int .i64 s.2.1), tv (.bool s.2.2.2)]⟩ : Ob), ⟨29, 0, [.t (sV 63 false vs), tv (.int .i64 lastr), tv (.bool put)]⟩, ⟨29, 0, [.t (sV 63 false s.1), tv (.int .i64 s.2.2.1), tv (.bool s.2.2.2)]⟩].map some) (fun s => StOk s.1 (k + 1) (100 * k + 7 + 2 * k) ∧ (s.2.2.2 = true → s.2.2.1 = s.2.1)) ?_ ?_
      ·
        refine rd [1] (fun i => [12].contains i) mixed ?_
        refine dv 0 ?_; refine dld 1 ?_; refine dv 2 ?_; refine dv 3 ?_; refine dv 4 ?_; refine dlr 5 (atr (nthA xs (k))) (act_at (by omega)) ?_
        refine WO.two (i := 6) (j := 10) (by kernel_rfl) ?_ ?_
        ·
          refine oclx 6 2 [0] rfl (l_does (vs := vs) (last := last) (put := put) (a := (nthA xs (k))) (p := (nthA xs (k)).2.2.q) hlr hok (by omega) (by omega) ⟨hqa _ (nthA_mem (by omega)) (hsh _ (nthA_mem (by omega))), rfl⟩ (hsh _ (nthA_mem (by omega))).1 (hsh _ (nthA_mem (by omega))).2) ok10 ⟨oe rfl rfl, rfl⟩ ⟨rfl, rfl, rfl, rfl⟩ ?_
          rintro _ _ ⟨vs1, last1, lastr1, put1, hok1, hlr1, _, rfl, rfl⟩
          refine ⟨_, _, [some ⟨76, 0, [.t (sR 57 vs1), tv (.int .i64 last1), tv (.bool put1)]⟩], rfl, ⟨oe rfl rfl, rfl⟩, ⟨rfl, trivial⟩, ?_⟩; refine df 7 ?_; refine df 8 ?_; refine df 9 ?_
          refine d_al (key := 2) 10 (by kernel_rfl) rfl rfl ttok rfl ⟨rfl, trivial⟩ ?_
          refine d_stn 11 (by kernel_rfl) rfl rfl ttok rfl rfl rfl rfl ⟨rfl, trivial⟩ ?_
          refine d_v 12 (by kernel_rfl) rfl rfl ttok rfl (by trivial) ?_ (fun h => by first | rfl | cases h)
          refine dz0 ?_; exact ⟨(vs1, last1, lastr1, put1), ⟨hok1, hlr1⟩, su0 h0 [0, 1, 2] _ _ (by decide) ⟨rfl, rfl, rfl, rfl, rfl, rfl, trivial⟩ ⟨oe rfl rfl, oe rfl rfl, oe rfl rfl, rfl⟩⟩
        ·
          refine o_al (key := 2) 10 rfl rfl ttok rfl ⟨rfl, trivial⟩ ?_
          refine WO.one (by kernel_rfl) (oclx 6 3 [0] rfl (l_does (vs := vs) (last := last) (put := put) (a := (nthA xs (k))) (p := (nthA xs (k)).2.2.q) hlr hok (by omega) (by omega) ⟨hqa _ (nthA_mem (by omega)) (hsh _ (nthA_mem (by omega))), rfl⟩ (hsh _ (nthA_mem (by omega))).1 (hsh _ (nthA_mem (by omega))).2) ok10 ⟨oe rfl rfl, rfl⟩ ⟨rfl, rfl, rfl, rfl⟩ ?_)
          rintro _ _ ⟨vs1, last1, lastr1, put1, hok1, hlr1, _, rfl, rfl⟩
          refine ⟨_, _, [some ⟨76, 0, [.t (sR 57 vs1), tv (.int .i64 last1), tv (.bool put1)]⟩], rfl, ⟨oe rfl rfl, rfl⟩, ⟨rfl, trivial⟩, ?_⟩; refine df 7 ?_; refine df 8 ?_; refine df 9 ?_
          refine d_stn 11 (by kernel_rfl) rfl rfl ttok rfl rfl rfl rfl ⟨rfl, trivial⟩ ?_
          refine d_v 12 (by kernel_rfl) rfl rfl ttok rfl (by trivial) ?_ (fun h => by first | rfl | cases h)
          refine dz0 ?_; exact ⟨(vs1, last1, lastr1, put1), ⟨hok1, hlr1⟩, su0 h0 [0, 1, 2] _ _ (by decide) ⟨rfl, rfl, rfl, rfl, rfl, rfl, trivial⟩ ⟨oe rfl rfl, oe rfl rfl, oe rfl rfl, rfl⟩⟩
      rintro ⟨vs1, last1, lastr1, put1⟩ ⟨hok1, hlr1⟩; dsimp only at hok1 hlr1 ⊢; refine sq ?_; refine rl ?_; refine ld ?_; refine st ?_; refine nl ?_; refine sq ?_; refine rl ?_
      (iterate 4 refine o1 ?_); refine ld ?_
      refine ca (l_is (vs := vs1) (rest := [.v (.int .i64 last1), .v (.bool put1)]) (n := k + 1) (last := lastr1) (was := put1) (B := 100 * k + 7 + 2 * k) hok1 (by omega) (by omega)) ok11 ⟨a1o rfl (.pe (trs := [sR 57 vs1, .v (.int .i64 last1), .v (.bool put1)]) rfl rfl rfl (by simp only [rdTL, rdT, sR, sV, rd_vo])), a1g rfl, rfl⟩ (.one (tv (.bool true))) ?_
      refine o1 ?_; refine o1 ?_; refine nl ?_; refine cdf rfl ?_; refine sk ?_; refine rl ?_; refine o1 ?_; refine o1 ?_
      refine WL.cast (t := 18) (u' := .int .i64 ((k + 1 : Nat) : Int)) rfl (cint (by omega)) ?_
      refine o1 ?_; refine nl ?_
      exact ⟨(k + 1, vs1, last1, lastr1, put1), by dsimp only; omega, ⟨by dsimp only; omega, by dsimp only; exact hok1.mono (Nat.le_refl _) (by omega), hlr1⟩, su0 h0 [0, 1] _ _ (by decide) ⟨rfl, rfl, rfl, rfl, trivial⟩ ⟨oe rfl rfl, oe rfl rfl, rfl⟩⟩
    ·
      refine ex ?_; refine sq ?_; refine rl ?_; refine o1 ?_; refine ld ?_
      refine ca (l_is (vs := vs) (rest := [.v (.int .i64 last), .v (.bool put)]) (n := k) (last := lastr) (was := put) hok (by omega) (by omega)) ok11 ⟨a1o rfl (.pe (trs := [sR 57 vs, .v (.int .i64 last), .v (.bool put)]) rfl rfl rfl (by simp only [rdTL, rdT, sR, sV, rd_vo])), a1g rfl, rfl⟩ (.one (tv (.bool true))) ?_
      refine o1 ?_; refine ca (l_works) ok8 rfl (.one (tv (.bool true))) ?_; refine o1 ?_; refine o1 ?_; refine nl ?_; refine rt ?_
      exact en (.inl rfl) rfl (pk1 (pkv _)) (by decide) (fun _ => trivial) rfl
  ·
    refine o1 ?_; refine nl ?_; refine cdt rfl ?_; refine sq ?_; refine rl ?_; refine ca (l_works) ok8 rfl (.one (tv (.bool true))) ?_; refine o1 ?_; refine nl ?_; refine rt ?_
    exact en (.inl rfl) rfl (pk1 (pkv _)) (by decide) (fun _ => trivial) rfl
end Go.Proofs.YtogaallfhifngaaGreat
namespace Go.Proofs.YtogaallfhifngaaGreat
open Go Go.RowKit
theorem l_parts {ys tl : List Int} {n my : Nat} {us Z0 Z' : List (Int × Rat)} {rest : List Tr} {fr : Int} (hP0 : Pts 17179869184 Z0 us Z') (hz0 : ∀ z ∈ Z0, Sz 17179869184 z.2) (hu : ∀ u ∈ us, Sz 17179869184 u.2) (hy0 : Z0.map Prod.fst = ys) (hmy : ys.length = my) (hn : ys.length ≤ n) (hn2 : n ≤ 1073741823) (hul2 : us.length ≤ 1073741823) (hfr : ∀ u ∈ us, fr ≤ u.1) (hasc : Asc us) : Spec false Tryz.prog 18 [⟨45, 4, zcl Z0 rest⟩, ⟨3, 1, icl (ys ++ tl)⟩] [.one (.sl 1 0 my), .one (.sl 0 0 n), .one (.t (sV 57 false us)), .one (tv (.int .i64 fr))] (Rt [⟨45, 4, zcl Z' rest⟩, ⟨3, 1, icl (ys ++ tl)⟩] (.one (tv (.bool true)))) := by
  subst hmy; refine fnL Tryz.func18 rfl Tryz.ntmps18 rfl ttok rfl fun N M w c0 h0 => ?_
  have hul : ∀ x ∈ us, (Fr4.of x.2).len 1099511627776 := fun x hx => ⟨Nat.le_trans (hu x hx).1 (by omega), Nat.le_trans (hu x hx).2 (by omega)⟩
  refine sq ?_; refine rl ?_; refine o1 ?_; refine nl ?_; refine sq ?_; refine sq ?_; refine rl ?_; refine o1 ?_; refine nl ?_; refine bl ?_
  refine lp (γ := Nat × List (Int × Rat)) (fun s => frL [(0, .one (.sl 1 0 ys.length)), (1, .one (.sl 0 0 n)), (2, .one (.t (sV 57 false us))), (3, .one (tv (.int .i64 fr))), (9, .one (tv (.int .i64 ((s.1 : Nat) : Int))))]) (fun s => [(⟨45, 4, zcl s.2 rest⟩ : Ob), ⟨3, 1, icl (ys ++ tl)⟩].map some) (fun s => s.1 ≤ us.length ∧ Pts 17179869184 s.2 (us.drop s.1) Z' ∧ s.2.length = ys.length ∧ (∀ z ∈ s.2, Sz 17179869184 z.2) ∧ s.2.map Prod.fst = ys) (fun s => us.length - s.1) (0, Z0) ⟨Nat.zero_le _, hP0, by rw [← hy0, List.length_map], hz0, hy0⟩ (suL h0 [0, 1] _ _ (by decide) rfl ⟨rfl, rfl, rfl, rfl, rfl, trivial⟩ ⟨oet rfl, oet rfl, rfl⟩) ?_
  rintro ⟨i, Z⟩ ⟨hi, hP, hl, hz, hy⟩; dsimp only at hi hP hl hz hy ⊢; refine sq ?_; refine sq ?_; refine rl ?_; (iterate 4 refine o1 ?_); refine nl ?_; refine cdp rfl (fun h1 => ?_) (fun h1 => ?_)
  ·
    refine sk ?_; refine sq ?_; refine bl ?_; refine sq ?_; obtain ⟨k0, hk0, hn0, hr0, hf0, hu0, hle0, hs0, hP1⟩ := Pts.inv (by rw [drop_v (by omega)] at hP; exact hP)
    have hnI : nthI ys k0 = (nthV Z k0).1 := by rw [← hy]; exact nthI_fst hk0
    refine rl ?_; refine o1 ?_; refine nl ?_
    refine md (γ := Unit) (fun _ => frL [(0, .one (.sl 1 0 ys.length)), (1, .one (.sl 0 0 n)), (2, .one (.t (sV 57 false us))), (3, .one (tv (.int .i64 fr))), (9, .one (tv (.int .i64 ((i : Nat) : Int)))), (10, .one (tv (.bool true)))]) (fun _ => [(⟨45, 4, zcl (Z.set k0 ((nthV us (i)).1, (nthV Z (k0)).2 - (nthV us (i)).2)) rest⟩ : Ob), ⟨3, 1, icl (ys ++ tl)⟩].map some) (fun _ => True) ?_ fun _ _ => ?_
    ·
      refine sq ?_; refine rl ?_; refine o1 ?_; refine nl ?_; refine bl ?_
      refine lp (γ := Nat × Bool × List (Int × Rat)) (fun s => frL [(0, .one (.sl 1 0 ys.length)), (1, .one (.sl 0 0 n)), (2, .one (.t (sV 57 false us))), (3, .one (tv (.int .i64 fr))), (9, .one (tv (.int .i64 ((i : Nat) : Int)))), (10, .one (tv (.bool s.2.1))), (11, .one (tv (.int .i64 ((s.1 : Nat) : Int))))]) (fun s => [(⟨45, 4, zcl s.2.2 rest⟩ : Ob), ⟨3, 1, icl (ys ++ tl)⟩].map some) (fun s => (false = s.2.1 ∧ s.1 ≤ k0 ∧ Z = s.2.2) ∨ (true = s.2.1 ∧ k0 + 1 = s.1 ∧ Z.set k0 ((nthV us (i)).1, (nthV Z (k0)).2 - (nthV us (i)).2) = s.2.2)) (fun s => ys.length - s.1) (0, false, Z) (.inl ⟨rfl, Nat.zero_le _, rfl⟩) (suL h0 [0, 1] _ _ (by decide) rfl ⟨rfl, rfl, rfl, rfl, rfl, rfl, rfl, trivial⟩ ⟨oet rfl, oet rfl, rfl⟩) ?_
      rintro ⟨k, b, Zc⟩ h9; dsimp only at h9 ⊢; rcases h9 with ⟨rfl, hk, rfl⟩ | ⟨rfl, rfl, rfl⟩
      ·
        refine sq ?_; refine sq ?_; refine rl ?_; (iterate 5 refine o1 ?_); refine WL.split (t := 23) rfl (fun h2 => ?_) (fun h2 => ?_)
        ·
          (iterate 3 refine o1 ?_); refine nl ?_; refine cdt rfl ?_; refine sk ?_; refine sq ?_; refine bl ?_; refine sq ?_; refine rd [0, 1] (fun i => [].contains i) mixed ?_
          refine dv 0 ?_; refine dv 1 ?_; refine dv 2 ?_; refine dldo 3 (icl_at (ys := ys) (tl := tl) (k := k) (by omega)) ?_
          refine dv 4 ?_; refine dv 5 ?_; refine dv 6 ?_; refine dv 7 ?_; refine dlr 8 ([.v (.int .i64 (nthV us (i)).1)]) (vin_y false (by omega)) ?_
          refine dv 9 ?_; refine dv 10 ?_; refine WD.split (t := 39) rfl rfl (fun h3 => ?_) (fun h3 => ?_)
          ·
            refine dv 11 ?_; refine dv 12 ?_; refine dv 13 ?_; refine dlda 14 (zcl_at (Z := Z) (rest := rest) (k := k) (q := (nthV Z (k)).2) (by omega) rfl) ?_
            refine dca 15 rfl (c_Sign4 (Qn.of (p := (nthV Z (k)).2) (hz _ (nthV_mem (by omega))))) ok48 ⟨a1g rfl, rfl⟩ (.one (tv (.int .i64 (nthV Z (k)).2.num.sign))) ?_
            refine df 16 ?_; refine df 17 ?_; refine dz0 ?_; refine cdp rfl (fun h4 => ?_) (fun h4 => ?_)
            ·
              refine sq ?_; have hk9 : k0 = k := by
                refine (Nat.lt_or_eq_of_le hk).elim (fun h9 => absurd ⟨?_, (sgn_pos _).1 h4⟩ (hf0 k h9)) Eq.symm
                rw [← nthI_fst (by omega), hy]
                exact h3
              subst hk9; refine rl ?_; refine o1 ?_; refine nl ?_; refine sq ?_; refine rl ?_; (iterate 4 refine o1 ?_); refine ldf ((Fr4.of (nthV us (i)).2).tr false) (vin_q false (by omega)) ?_
              refine ca (c_RefRat (a := .of (nthV us (i)).2) (hul _ (nthV_mem (by omega)))) ok14 ⟨a1g rfl, rfl⟩ (qF (.of (nthV us (i)).2)) ?_
              refine al 2 ?_; refine st ?_; refine nl ?_; refine sq ?_; refine rd [0, 2] (fun i => [9].contains i) mixed ?_
              refine dv 0 ?_; refine dv 1 ?_; refine dv 2 ?_; refine dv 3 ?_; refine dv 4 ?_; refine dlda 5 (zcl_at (Z := Z) (rest := rest) (k := k0) (q := (nthV Z (k0)).2) (by omega) rfl) ?_
              refine dld 6 ?_
              refine dca 7 rfl (c_Sub4 (Qn.of (p := (nthV Z (k0)).2) (hz _ (nthV_mem (by omega)))) (Qn.of (p := (nthV us (i)).2) (hu _ (nthV_mem (by omega)))) (hz _ (nthV_mem (by omega))) (hu _ (nthV_mem (by omega)))) ok49 ⟨a1g rfl, a1g rfl, rfl⟩ (qF (.of ((nthV Z (k0)).2 - (nthV us (i)).2))) ?_
              refine dv 8 ?_
              refine dsto 9 (zcl_put (Z := Z) (rest := rest) (k := k0) (by omega) (nthV us (i)).1 ((nthV Z (k0)).2 - (nthV us (i)).2)) (zcl_le (Z := Z) (rest := rest) (k := k0) (q := ((nthV Z (k0)).2 - (nthV us (i)).2)) (by omega)) ?_
              refine dz0 ?_; refine sq ?_; refine rl ?_; refine ld ?_
              refine ca (c_Sign4 (Qn.of (p := (nthV us (i)).2) (hu _ (nthV_mem (by omega))))) ok48 ⟨a1g rfl, rfl⟩ (.one (tv (.int .i64 (nthV us (i)).2.num.sign))) ?_
              refine o1 ?_; refine o1 ?_; refine WL.split (t := 65) rfl (fun h5 => ?_) (fun h5 => ?_)
              ·
                exact absurd ((sgn_pos _).2 hu0) (by omega)
              ·
                (iterate 3 refine o1 ?_)
                refine lda (zcl_at (Z := (Z.set (k0) ((nthV us (i)).1, ((nthV Z (k0)).2 - (nthV us (i)).2)))) (rest := rest) (k := k0) (q := ((nthV Z (k0)).2 - (nthV us (i)).2)) (by rw [List.length_set]; omega) (by rw [nthV_set (by omega)])) ?_
                refine ca (c_Sign4 (Qn.of (p := ((nthV Z (k0)).2 - (nthV us (i)).2)) hs0)) ok48 ⟨a1g rfl, rfl⟩ (.one (tv (.int .i64 ((nthV Z (k0)).2 - (nthV us (i)).2).num.sign))) ?_; refine o1 ?_
                refine o1 ?_; refine nl ?_; refine cdp rfl (fun h6 => ?_) (fun h6 => ?_)
                ·
                  exact absurd ((lt_sgn _ _).1 h6) (Rat.not_lt.2 hle0)
                ·
                  refine sk ?_; refine rl ?_; refine o1 ?_; refine o1 ?_; refine WL.cast (t := 28) (u' := .int .i64 ((k0 + 1 : Nat) : Int)) rfl (cint (by omega)) ?_
                  refine o1 ?_; refine nl ?_
                  exact ⟨(k0 + 1, true, Z.set k0 ((nthV us (i)).1, (nthV Z (k0)).2 - (nthV us (i)).2)), by dsimp only; omega, .inr ⟨rfl, rfl, rfl⟩, suL h0 [0, 1] _ _ (by decide) rfl ⟨rfl, rfl, rfl, rfl, rfl, rfl, rfl, trivial⟩ ⟨oet rfl, oet rfl, rfl⟩⟩
            ·
              refine sk ?_; refine rl ?_; refine o1 ?_; refine o1 ?_; refine WL.cast (t := 28) (u' := .int .i64 ((k + 1 : Nat) : Int)) rfl (cint (by omega)) ?_
              refine o1 ?_; refine nl ?_
              exact ⟨(k + 1, false, Z), by dsimp only; omega, .inl ⟨rfl, Nat.lt_of_le_of_ne hk (fun e => by subst e; exact h4 ((sgn_pos _).2 hr0)), rfl⟩, suL h0 [0, 1] _ _ (by decide) rfl ⟨rfl, rfl, rfl, rfl, rfl, rfl, rfl, trivial⟩ ⟨oet rfl, oet rfl, rfl⟩⟩
          ·
            refine dno 11 ?_; refine dno 12 ?_; refine dno 13 ?_; refine dno 14 ?_; refine dno 15 ?_; refine dno 16 ?_; refine dv 17 ?_; refine dz0 ?_; refine cdf rfl ?_; refine sk ?_; refine rl ?_
            refine o1 ?_; refine o1 ?_; refine WL.cast (t := 28) (u' := .int .i64 ((k + 1 : Nat) : Int)) rfl (cint (by omega)) ?_
            refine o1 ?_; refine nl ?_
            exact ⟨(k + 1, false, Z), by dsimp only; omega, .inl ⟨rfl, Nat.lt_of_le_of_ne hk (fun e => by subst e; exact h3 (hnI.trans hn0)), rfl⟩, suL h0 [0, 1] _ _ (by decide) rfl ⟨rfl, rfl, rfl, rfl, rfl, rfl, rfl, trivial⟩ ⟨oet rfl, oet rfl, rfl⟩⟩
        ·
          refine no_ ?_; refine no_ ?_; refine o1 ?_; refine nl ?_; refine cdf rfl ?_; refine ex ?_; omega
      ·
        refine sq ?_; refine sq ?_; refine rl ?_; (iterate 5 refine o1 ?_); refine WL.split (t := 23) rfl (fun h7 => ?_) (fun h7 => ?_)
        ·
          (iterate 3 refine o1 ?_); refine nl ?_; refine cdf rfl ?_; refine ex ?_; exact ⟨(), trivial, suL h0 [0, 1] _ _ (by decide) rfl ⟨rfl, rfl, rfl, rfl, rfl, rfl, trivial⟩ ⟨oet rfl, oet rfl, rfl⟩⟩
        ·
          refine no_ ?_; refine no_ ?_; refine o1 ?_; refine nl ?_; refine cdf rfl ?_; refine ex ?_
          exact ⟨(), trivial, suL h0 [0, 1] _ _ (by decide) rfl ⟨rfl, rfl, rfl, rfl, rfl, rfl, trivial⟩ ⟨oet rfl, oet rfl, rfl⟩⟩
    refine sq ?_; refine rd [] (fun i => [].contains i) mixed ?_
    refine dv 0 ?_; refine dv 1 ?_; refine dv 2 ?_; refine dv 3 ?_; refine dv 4 ?_; refine dv 5 ?_; refine dv 6 ?_; refine dlr 7 ([.v (.int .i64 (nthV us (i)).1)]) (vin_y false (by omega)) ?_
    refine dv 8 ?_; refine dv 9 ?_; refine dv 10 ?_; refine dv 11 ?_; refine WD.split (t := 84) rfl rfl (fun h8 => ?_) (fun h8 => ?_)
    ·
      have h9 := hfr _ (nthV_mem (vs := us) (k := i) (by omega))
      omega
    ·
      refine dv 12 ?_; refine dv 13 ?_; refine dv 14 ?_; refine WD.split (t := 87) rfl rfl (fun h9 => ?_) (fun h9 => ?_)
      ·
        refine dv 15 ?_; refine dv 16 ?_; refine dv 17 ?_; refine WD.cast (t := 90) (u' := .int .i64 ((i - 1 : Nat) : Int)) rfl (cint (by omega)) ?_
        refine dv 18 ?_; refine dv 19 ?_; refine dlr 20 ([.v (.int .i64 (nthV us (i - 1)).1)]) (vin_y false (by omega)) ?_
        refine dv 21 ?_; refine dv 22 ?_; refine dv 23 ?_; refine dv 24 ?_; refine dlr 25 ([.v (.int .i64 (nthV us (i)).1)]) (vin_y false (by omega)) ?_
        refine dv 26 ?_; refine dv 27 ?_; refine dv 28 ?_; refine dz0 ?_; refine cdp rfl (fun h10 => ?_) (fun h10 => ?_)
        ·
          have h9 := asc_nth hasc (k := i - 1) (by omega)
          rw [show i - 1 + 1 = i by omega] at h9
          omega
        ·
          refine sk ?_; refine rl ?_; refine o1 ?_; refine o1 ?_; refine WL.cast (t := 18) (u' := .int .i64 ((i + 1 : Nat) : Int)) rfl (cint (by omega)) ?_
          refine o1 ?_; refine nl ?_
          exact ⟨(i + 1, Z.set k0 ((nthV us (i)).1, (nthV Z (k0)).2 - (nthV us (i)).2)), by dsimp only; omega, ⟨by dsimp only; omega, hP1, by dsimp only; rw [List.length_set]; exact hl, sz_set hz hs0 _, by dsimp only; rw [fst_put hk0 hn0]; exact hy⟩, suL h0 [0, 1] _ _ (by decide) rfl ⟨rfl, rfl, rfl, rfl, rfl, trivial⟩ ⟨oet rfl, oet rfl, rfl⟩⟩
      ·
        refine dno 15 ?_; refine dno 16 ?_; refine dno 17 ?_; refine dno 18 ?_; refine dno 19 ?_; refine dno 20 ?_; refine dno 21 ?_; refine dno 22 ?_; refine dno 23 ?_; refine dno 24 ?_
        refine dno 25 ?_; refine dno 26 ?_; refine dv 27 ?_; refine dv 28 ?_; refine dz0 ?_; refine cdf rfl ?_; refine sk ?_; refine rl ?_; refine o1 ?_; refine o1 ?_
        refine WL.cast (t := 18) (u' := .int .i64 ((i + 1 : Nat) : Int)) rfl (cint (by omega)) ?_
        refine o1 ?_; refine nl ?_
        exact ⟨(i + 1, Z.set k0 ((nthV us (i)).1, (nthV Z (k0)).2 - (nthV us (i)).2)), by dsimp only; omega, ⟨by dsimp only; omega, hP1, by dsimp only; rw [List.length_set]; exact hl, sz_set hz hs0 _, by dsimp only; rw [fst_put hk0 hn0]; exact hy⟩, suL h0 [0, 1] _ _ (by decide) rfl ⟨rfl, rfl, rfl, rfl, rfl, trivial⟩ ⟨oet rfl, oet rfl, rfl⟩⟩
  ·
    refine ex ?_; refine sq ?_; refine rl ?_; refine o1 ?_; refine nl ?_; refine rt ?_; have hZ := Pts.inv0 (by rwa [List.drop_of_length_le (by omega)] at hP)
    subst hZ
    exact enL (lent' := [⟨45, 4, zcl Z rest⟩, ⟨3, 1, icl (ys ++ tl)⟩]) (.inl rfl) rfl (pk1 (pkv _)) (by decide) (fun _ h => by cases h) ⟨⟨rfl, rfl⟩, ⟨rfl, rfl⟩, trivial⟩ ⟨rfl, rfl, trivial⟩ ⟨refC_t _, refC_t _, trivial⟩ (fun h => by cases h) ⟨rfl, rfl⟩
end Go.Proofs.YtogaallfhifngaaGreat
namespace Go.Proofs.YtogaallfhifngaaGreat
open Go Go.RowKit
theorem c_Max2 {a : Fr4} {p : Rat} (ha : Qn a p) (hp : Sz 17179869184 p) : Spec false Tryz.prog 20 [] [.one (.t (sQ false [a, Fr4.of ((0 : Int) : Rat)]))] (Ret (qF (.of (qmax0 [p, ((0 : Int) : Rat)])))) := by
  have h0 : Sz 17179869184 ((0 : Int) : Rat) := sz0 (by omega)
  have h := c_Max4 (xs := [a, Fr4.of ((0 : Int) : Rat)]) (by simp) (by
    intro x hx
    rcases List.mem_cons.1 hx with rfl | hx
    · exact ⟨ha.1, by rw [ha.2]; exact hp⟩
    · rw [List.mem_singleton] at hx
      subst hx
      exact ⟨(Qn.of h0).1, by rw [Fr4.q_of]; exact h0⟩) (by simp)
  have e : qmax0 ([a, Fr4.of ((0 : Int) : Rat)].map Fr4.q) = qmax0 [p, ((0 : Int) : Rat)] := by
    show qmax a.q [(Fr4.of ((0 : Int) : Rat)).q] = _
    rw [Fr4.q_of, ha.2]
    rfl
  rwa [e] at h
theorem l_LossWhole {xs : List At} (hqa : ∀ x ∈ xs, x.2.2.x.length ≤ 6 ∧ x.2.2.y.length ≤ 6 → x.2.2.ok) (hyy : ∀ x ∈ xs, -9223372036854775808 ≤ x.2.1) : Spec true Tryz.prog 4 [] [.one (.t (sAc 38 xs))] (Ret (.one (tv (.bool true)))) := by
  refine fn0 Tryz.func4 rfl Tryz.ntmps4 rfl ttok rfl fun N w c0 h0 => ?_
  refine sq ?_; refine rl ?_; refine o1 ?_; refine nl ?_; refine sq ?_; refine sq ?_; refine rl ?_; refine o1 ?_
  refine ca (l_few (xs := xs) (top := 40)) ok7 ⟨a1 rfl, a1 rfl, rfl⟩ (.one (tv (.bool (fewB xs 40)))) ?_; refine WL.splitb (t := 13) rfl (fun h1 => ?_) (fun h1 => ?_)
  ·
    refine o1 ?_; refine nl ?_; refine cdf rfl ?_; refine sk ?_; refine sq ?_; refine rl ?_; obtain ⟨hlen0, hsh⟩ := few_use h1 (by omega)
    refine cak 0 p_New ok9 rfl ?_; refine o1 ?_; refine nl ?_; refine sq ?_; refine rl ?_; refine o1 ?_; refine o1 ?_; refine mk (m := xs.length) 1 (by omega) (icl_zero _) ?_
    refine o1 ?_; refine nl ?_; refine sq ?_; refine rl ?_; refine o1 ?_; refine o1 ?_
    refine mkz (m := xs.length) (zz := .agg #[.bool false, .slice none 0 0, .bool false, .slice none 0 0]) 2 (by omega) (zcl_zero _) ?_
    refine o1 ?_; refine nl ?_; refine sq ?_; refine sq ?_; refine rl ?_; refine o1 ?_; refine nl ?_; refine bl ?_
    refine lp (γ := Nat × List (Int × Rat) × List (Int × Rat) × Int × Bool) (fun s => frL [(0, .one (.t (sAc 38 xs))), (3, .one (.pt 0 0)), (4, .one (.sl 1 0 xs.length)), (5, .one (.sl 2 0 xs.length)), (6, .one (tv (.int .i64 ((s.2.1.length : Nat) : Int))))]) (fun s => [(⟨76, 0, [.t (sR 57 s.2.2.1), tv (.int .i64 s.2.2.2.1), tv (.bool s.2.2.2.2)]⟩ : Ob), ⟨3, 1, icl (s.2.1.map Prod.fst ++ List.replicate s.1 0)⟩, ⟨45, 4, zcl s.2.1 (zZ s.1)⟩].map some) (fun s => s.2.1.length + s.1 = xs.length ∧ WhOk s.2.1 s.2.2.1 s.2.2.2.1 s.2.2.2.2) (fun s => s.1) (xs.length, [], [], 0, false) ⟨by simp, WhOk.nil⟩ (su0 h0 [0, 1, 2] _ _ (by decide) ⟨rfl, rfl, rfl, rfl, rfl, trivial⟩ ⟨oe rfl rfl, oet rfl, oet rfl, rfl⟩) ?_
    rintro ⟨m, Z, vs, last, put⟩ ⟨hm, hw⟩; dsimp only at hm hw ⊢; refine sq ?_; refine sq ?_; refine rl ?_; (iterate 4 refine o1 ?_); refine nl ?_; refine cdp rfl (fun h2 => ?_) (fun h2 => ?_)
    ·
      refine sk ?_; refine sq ?_; refine bl ?_; refine sq ?_; obtain ⟨m, rfl⟩ : ∃ q, m = q + 1 := ⟨m - 1, by omega⟩
      have hx := hsh _ (nthA_mem (xs := xs) (k := Z.length) (by omega))
      have ha : Qn (nthA xs (Z.length)).2.2 (nthA xs (Z.length)).2.2.q := ⟨hqa _ (nthA_mem (by omega)) hx, rfl⟩
      have hwp := wt6 ha hx.1 hx.2
      have hlen : (nthA xs (Z.length)).2.2.len 1099511627776 := ⟨by omega, by omega⟩
      have hyr := hyy _ (nthA_mem (xs := xs) (k := Z.length) (by omega))
      have hok := hw.ok
      have hl1 := hok.len
      have hl : vs.length ≤ 1073741822 := by omega
      have hsz1 := hok.size
      refine rl ?_; refine o1 ?_; refine o1 ?_; refine ca (c_Whole4 (n := 0) (by omega) (by omega)) ok12 ⟨a1 rfl, rfl⟩ (qF (.of ((0 : Int) : Rat))) ?_
      refine o1 ?_; refine sto (zcl_new (Z := Z) (r4 := z4) (rest := zZ m) (a := .of ((0 : Int) : Rat)) rfl) (zcl_nle (Z := Z) (r4 := z4) (rest := zZ m) (a := .of ((0 : Int) : Rat)) rfl) ?_
      refine nl ?_; refine sq ?_; refine rl ?_; (iterate 4 refine o1 ?_); refine ldf ([.v (.int .i64 (nthA xs (Z.length)).1)]) (act_k (by omega)) ?_
      refine ca (f_Pick (i := (nthA xs (Z.length)).1) (n := 4) (by omega) (by omega)) ok13 ⟨a1 rfl, a1 rfl, rfl⟩ (.one (tv (.int .i64 (((nthA xs (Z.length)).1.tmod 4 + 4).tmod 4)))) ?_
      refine nl ?_; refine bl ?_; refine sq ?_; refine rl ?_; refine o1 ?_; refine o1 ?_; refine nl ?_; refine cdp rfl (fun h3 => ?_) (fun h3 => ?_)
      ·
        refine sq ?_
        have hup : UseP (nthA xs (Z.length)).2.1 (nthA xs (Z.length)).2.2.q vs (useL (nthA xs (Z.length)).2.1 vs (nthA xs (Z.length)).2.2.q).2.1 (keepV zeroQ (useL (nthA xs (Z.length)).2.1 vs (nthA xs (Z.length)).2.2.q).1) (useL (nthA xs (Z.length)).2.1 vs (nthA xs (Z.length)).2.2.q).2.2 := useP _ vs _ hok.pos hw.asc
        have e9 : (refL (nthA xs (Z.length)).2.1 vs (nthA xs (Z.length)).2.2.q).1 = (keepV zeroQ (useL (nthA xs (Z.length)).2.1 vs (nthA xs (Z.length)).2.2.q).1) := (useL_refL hok.pos).1
        have hok2 : StOk (keepV zeroQ (useL (nthA xs (Z.length)).2.1 vs (nthA xs (Z.length)).2.2.q).1) Z.length (100 * Z.length + 100) := e9 ▸ (hok.use (fr := (nthA xs (Z.length)).2.1) (p := (nthA xs (Z.length)).2.2.q)).mono (by omega) (by omega)
        obtain ⟨Z1, hP1, hZ1, hZl1, hw1⟩ := hw.used hup.use hok2 (by omega)
        have husn : (useL (nthA xs (Z.length)).2.1 vs (nthA xs (Z.length)).2.2.q).2.1.length ≤ vs.length := by simpa using hup.use.subU.length_le
        have hul : (useL (nthA xs (Z.length)).2.1 vs (nthA xs (Z.length)).2.2.q).2.1.length ≤ 1073741823 := by omega
        have hus5 : ∀ x ∈ (useL (nthA xs (Z.length)).2.1 vs (nthA xs (Z.length)).2.2.q).2.1, Sz 5000 x.2 := huz hok (by omega)
        have hus4 : ∀ x ∈ (useL (nthA xs (Z.length)).2.1 vs (nthA xs (Z.length)).2.2.q).2.1, Sz 17179869184 x.2 := fun x hx => (hus5 x hx).mono (by omega)
        have hlv : (keepV zeroQ (useL (nthA xs (Z.length)).2.1 vs (nthA xs (Z.length)).2.2.q).1).length ≤ 1073741823 := by have h9 := hok2.len; omega
        have hzv : ∀ x ∈ (keepV zeroQ (useL (nthA xs (Z.length)).2.1 vs (nthA xs (Z.length)).2.2.q).1), Sz 68719476736 x.2 := hok2.sz (by omega)
        have hssz : Sz 17179869184 (qsum ((useL (nthA xs (Z.length)).2.1 vs (nthA xs (Z.length)).2.2.q).2.1.map Prod.snd)) := (qsum_sz hus5).mono (by omega)
        have hslen : (Fr4.of (qsum ((useL (nthA xs (Z.length)).2.1 vs (nthA xs (Z.length)).2.2.q).2.1.map Prod.snd))).len 1099511627776 := ⟨Nat.le_trans hssz.1 (by omega), Nat.le_trans hssz.2 (by omega)⟩
        have hpsz : Sz 17179869184 (nthA xs (Z.length)).2.2.q := sz_iff.2 (by have h9 : wt (nthA xs (Z.length)).2.2.q = szq (nthA xs (Z.length)).2.2.q + 1 := rfl; omega)
        have hmsz : Sz 17179869184 (qmax0 [(nthA xs (Z.length)).2.2.q, ((0 : Int) : Rat)]) := qmax_sz0 hpsz
        refine rl ?_; (iterate 4 refine o1 ?_); refine ldf ((nthA xs (Z.length)).2.2.tr false) (act_q (by omega)) ?_
        refine ca (c_RefRat hlen) ok14 ⟨a1g rfl, rfl⟩ (qF (nthA xs (Z.length)).2.2) ?_; refine al 3 ?_; refine st ?_; refine nl ?_; refine sq ?_; refine rd [3] (fun i => [12].contains i) mixed ?_
        refine dv 0 ?_; refine dv 1 ?_; refine dv 2 ?_; refine dv 3 ?_; refine dv 4 ?_; refine dlr 5 ([.v (.int .i64 (nthA xs (Z.length)).2.1)]) (act_y (by omega)) ?_
        refine dv 6 ?_; refine dv 7 ?_; refine dv 8 ?_; refine dv 9 ?_; refine dlr 10 ((nthA xs (Z.length)).2.2.tr false) (act_q (by omega)) ?_
        refine dcl 11 4 [0] rfl (p_Use (fr := (nthA xs (Z.length)).2.1) ha (by omega) (by omega) (hok.zU (by omega))) ok15 ⟨oe rfl rfl, rfl⟩ ⟨rfl, rfl, rfl, rfl⟩ (ok := [some ⟨76, 0, [.t (sR 57 (keepV zeroQ (useL (nthA xs (Z.length)).2.1 vs (nthA xs (Z.length)).2.2.q).1)), tv (.int .i64 last), tv (.bool put)]⟩]) ⟨oe rfl rfl, rfl⟩ ⟨rfl, trivial⟩ ?_
        refine d_v 12 (by kernel_rfl) rfl rfl ttok rfl (by trivial) ?_ (fun h => by first | rfl | cases h)
        refine dz0 ?_; refine sq ?_
        refine WP.sub (fzR (i := 8) (k := 4) (n := (useL (nthA xs (Z.length)).2.1 vs (nthA xs (Z.length)).2.2.q).2.1.length) 57 rfl rfl rfl (vflat_len true _) (rd_vo true _) (.one .sl)) ?_
        refine rl ?_; refine o1 ?_
        refine cak 5 (p_Rows (vs := (keepV zeroQ (useL (nthA xs (Z.length)).2.1 vs (nthA xs (Z.length)).2.2.q).1)) (rest := [.v (.int .i64 last), .v (.bool put)]) hzv hlv) ok16 ⟨a1o rfl (.pe (trs := [sR 57 (keepV zeroQ (useL (nthA xs (Z.length)).2.1 vs (nthA xs (Z.length)).2.2.q).1), .v (.int .i64 last), .v (.bool put)]) rfl rfl rfl (by simp only [rdTL, rdT, sR, sV, rd_vo])), rfl⟩ ?_
        refine o1 ?_; refine nl ?_; refine sq ?_
        refine WP.sub (fzR (i := 9) (k := 5) (n := (keepV zeroQ (useL (nthA xs (Z.length)).2.1 vs (nthA xs (Z.length)).2.2.q).1).length) 57 rfl rfl rfl (vflat_len true _) (rd_vo true _) (.one .sl)) ?_
        refine rl ?_; refine o1 ?_
        refine ca (p_Total (vs := (useL (nthA xs (Z.length)).2.1 vs (nthA xs (Z.length)).2.2.q).2.1) (B := 5000) (by omega) hus5 hul) ok17 ⟨a1 rfl, rfl⟩ (qF (.of (qsum ((useL (nthA xs (Z.length)).2.1 vs (nthA xs (Z.length)).2.2.q).2.1.map Prod.snd)))) ?_
        refine ca (c_RefRat (a := .of (qsum ((useL (nthA xs (Z.length)).2.1 vs (nthA xs (Z.length)).2.2.q).2.1.map Prod.snd))) hslen) ok14 ⟨a1g rfl, rfl⟩ (qF (.of (qsum ((useL (nthA xs (Z.length)).2.1 vs (nthA xs (Z.length)).2.2.q).2.1.map Prod.snd)))) ?_
        refine al 6 ?_; refine st ?_; refine nl ?_; refine sq ?_; refine sq ?_; refine rd [0, 3, 6] (fun i => [].contains i) mixed ?_
        refine dv 0 ?_; refine dv 1 ?_; refine dv 2 ?_; refine dv 3 ?_; refine dv 4 ?_; refine dv 5 ?_; refine dv 6 ?_; refine dv 7 ?_; refine dv 8 ?_
        refine dlr 9 ([.v (.int .i64 (nthA xs (Z.length)).2.1)]) (act_y (by omega)) ?_
        refine dcl 10 7 [2, 1] rfl (l_parts (fr := (nthA xs (Z.length)).2.1) (my := Z.length) (ys := Z.map Prod.fst) (tl := (List.replicate (m + 1) 0)) (rest := ((Fr4.of ((0 : Int) : Rat)).tr false ++ zZ m)) (Z0 := Z) hP1 (hw.sz (by omega)) hus4 rfl (List.length_map ..) (by rw [List.length_map]; omega) (by omega) hul hup.yrs (hw.asc.useU hup.use)) ok18 ⟨oet rfl, oet rfl, rfl⟩ ⟨rfl, rfl, rfl, rfl, rfl⟩ (ok := [some ⟨45, 4, zcl Z1 ((Fr4.of ((0 : Int) : Rat)).tr false ++ zZ m)⟩, some ⟨3, 1, icl (Z.map Prod.fst ++ (List.replicate (m + 1) 0))⟩]) ⟨oet rfl, oet rfl, rfl⟩ ⟨rfl, rfl, rfl, trivial⟩ ?_
        refine df 11 ?_; refine df 12 ?_; refine dld 13 ?_; refine dld 14 ?_; refine dca 15 rfl (c_Whole4 (n := 0) (by omega) (by omega)) ok12 ⟨a1 rfl, rfl⟩ (qF (.of ((0 : Int) : Rat))) ?_
        refine d_bs (key := 7) 16 (by kernel_rfl) rfl rfl ttok rfl ⟨rfl, rfl, rfl, trivial⟩ ?_
        refine dfz (i := 110) (k := 7) (t := 45) (t' := 45) (z := 4) (n := 2) (l := ([(nthA xs (Z.length)).2.2, Fr4.of ((0 : Int) : Rat)]).flatMap (Fr4.tr false)) rfl rfl rfl rfl (.one .sl) (by rfl) (by rfl) ?_
        refine dca 17 rfl (c_Max2 ha hpsz) ok20 ⟨a1 rfl, rfl⟩ (qF (.of (qmax0 [(nthA xs (Z.length)).2.2.q, ((0 : Int) : Rat)]))) ?_
        refine dca 18 rfl (c_Cmp4 (Qn.of (p := (qsum ((useL (nthA xs (Z.length)).2.1 vs (nthA xs (Z.length)).2.2.q).2.1.map Prod.snd))) hssz) (Qn.of (p := (qmax0 [(nthA xs (Z.length)).2.2.q, ((0 : Int) : Rat)])) hmsz) hssz hmsz) ok19 ⟨a1g rfl, a1g rfl, rfl⟩ (.one (tv (.int .i64 ((qsum ((useL (nthA xs (Z.length)).2.1 vs (nthA xs (Z.length)).2.2.q).2.1.map Prod.snd)) - (qmax0 [(nthA xs (Z.length)).2.2.q, ((0 : Int) : Rat)])).num.sign))) ?_
        refine df 19 ?_; refine df 20 ?_; refine dz0 ?_; refine cdp rfl (fun h4 => ?_) (fun h4 => ?_)
        ·
          exact absurd h4 (sgn_le hup.cap)
        ·
          refine sk ?_; refine sq ?_; refine rl ?_; refine o1 ?_; refine nl ?_; refine bl ?_
          refine lp (γ := Nat) (fun k => frL [(0, .one (.t (sAc 38 xs))), (3, .one (.pt 0 0)), (4, .one (.sl 1 0 xs.length)), (5, .one (.sl 2 0 xs.length)), (6, .one (tv (.int .i64 ((Z.length : Nat) : Int)))), (7, .one (.pt 3 0)), (8, .one (.t (sV 57 false (useL (nthA xs (Z.length)).2.1 vs (nthA xs (Z.length)).2.2.q).2.1))), (9, .one (.t (sV 57 false (keepV zeroQ (useL (nthA xs (Z.length)).2.1 vs (nthA xs (Z.length)).2.2.q).1)))), (10, .one (.pt 4 0)), (11, .one (tv (.int .i64 ((k : Nat) : Int))))]) (fun _ => [(⟨76, 0, [.t (sR 57 (keepV zeroQ (useL (nthA xs (Z.length)).2.1 vs (nthA xs (Z.length)).2.2.q).1)), tv (.int .i64 last), tv (.bool put)]⟩ : Ob), ⟨3, 1, icl (Z.map Prod.fst ++ List.replicate (m + 1) 0)⟩, ⟨45, 4, zcl Z1 ((Fr4.of ((0 : Int) : Rat)).tr false ++ zZ m)⟩, ⟨45, 0, ((nthA xs (Z.length)).2.2.tr false).map .t⟩, ⟨45, 0, ((Fr4.of (qsum ((useL (nthA xs (Z.length)).2.1 vs (nthA xs (Z.length)).2.2.q).2.1.map Prod.snd))).tr false).map .t⟩].map some) (fun k => k ≤ (keepV zeroQ (useL (nthA xs (Z.length)).2.1 vs (nthA xs (Z.length)).2.2.q).1).length) (fun k => (keepV zeroQ (useL (nthA xs (Z.length)).2.1 vs (nthA xs (Z.length)).2.2.q).1).length - k) 0 (Nat.zero_le _) (su0 h0 [0, 1, 2, 3, 6] _ _ (by decide) ⟨rfl, rfl, rfl, rfl, rfl, rfl, rfl, rfl, rfl, rfl, trivial⟩ ⟨oe rfl rfl, oet rfl, oet rfl, oe rfl rfl, oe rfl rfl, rfl⟩) fun k hk => ?_
          refine sq ?_; refine sq ?_; refine rl ?_; (iterate 4 refine o1 ?_); refine nl ?_; refine cdp rfl (fun h5 => ?_) (fun h5 => ?_)
          ·
            refine sk ?_; refine sq ?_; refine bl ?_; refine sq ?_; refine rd [0, 3, 4] (fun i => [].contains i) mixed ?_
            refine dv 0 ?_; refine dv 1 ?_; refine dv 2 ?_; refine dv 3 ?_
            refine dlr 4 ([.v (.int .i64 (nthV (keepV zeroQ (useL (nthA xs (Z.length)).2.1 vs (nthA xs (Z.length)).2.2.q).1) (k)).1)]) (vin_y false (by omega)) ?_
            refine dv 5 ?_; refine dv 6 ?_; refine dv 7 ?_; refine dv 8 ?_; refine dlr 9 ([.v (.int .i64 (nthA xs (Z.length)).2.1)]) (act_y (by omega)) ?_
            refine dv 10 ?_; refine dv 11 ?_; refine WD.split (t := 132) rfl rfl (fun h6 => ?_) (fun h6 => ?_)
            ·
              refine dld 12 ?_; refine dld 13 ?_
              refine dca 14 rfl (c_Cmp4 (Qn.of (p := (qsum ((useL (nthA xs (Z.length)).2.1 vs (nthA xs (Z.length)).2.2.q).2.1.map Prod.snd))) hssz) ha hssz hpsz) ok19 ⟨a1g rfl, a1g rfl, rfl⟩ (.one (tv (.int .i64 ((qsum ((useL (nthA xs (Z.length)).2.1 vs (nthA xs (Z.length)).2.2.q).2.1.map Prod.snd)) - (nthA xs (Z.length)).2.2.q).num.sign))) ?_
              refine df 15 ?_; refine df 16 ?_; refine WD.split (t := 137) rfl rfl (fun h7 => ?_) (fun h7 => ?_)
              ·
                have h8 := (hup.full _ (nthV_mem (vs := (keepV zeroQ (useL (nthA xs (Z.length)).2.1 vs (nthA xs (Z.length)).2.2.q).1)) (k := k) (by omega)) (by omega)).1
                have h9 := hup.sum
                have h7 := (lt_sgn _ _).1 h7
                exact absurd h7 (by grind)
              ·
                refine dv 17 ?_; refine dv 18 ?_; refine dv 19 ?_; refine dv 20 ?_; refine WD.split (t := 141) rfl rfl (fun h8 => ?_) (fun h8 => ?_)
                ·
                  refine dv 21 ?_; refine dv 22 ?_; refine dv 23 ?_; refine dv 24 ?_
                  refine dlr 25 ([.v (.int .i64 (nthV (keepV zeroQ (useL (nthA xs (Z.length)).2.1 vs (nthA xs (Z.length)).2.2.q).1) (k)).1)]) (vin_y false (by omega)) ?_
                  refine dv 26 ?_; refine dv 27 ?_; refine dv 28 ?_; refine dv 29 ?_
                  refine WD.cast (t := 150) (u' := .int .i64 (((useL (nthA xs (Z.length)).2.1 vs (nthA xs (Z.length)).2.2.q).2.1.length - 1 : Nat) : Int)) rfl (cint (by omega)) ?_
                  refine dv 30 ?_; refine dv 31 ?_
                  refine dlr 32 ([.v (.int .i64 (nthV (useL (nthA xs (Z.length)).2.1 vs (nthA xs (Z.length)).2.2.q).2.1 ((useL (nthA xs (Z.length)).2.1 vs (nthA xs (Z.length)).2.2.q).2.1.length - 1)).1)]) (vin_y false (by omega)) ?_
                  refine dv 33 ?_; refine dv 34 ?_; refine df 35 ?_; refine df 36 ?_; refine dz0 ?_; refine cdp rfl (fun h9 => ?_) (fun h9 => ?_)
                  ·
                    have h8 := (hup.full _ (nthV_mem (vs := (keepV zeroQ (useL (nthA xs (Z.length)).2.1 vs (nthA xs (Z.length)).2.2.q).1)) (k := k) (by omega)) (by omega)).2 _ (nthV_mem (vs := (useL (nthA xs (Z.length)).2.1 vs (nthA xs (Z.length)).2.2.q).2.1) (k := (useL (nthA xs (Z.length)).2.1 vs (nthA xs (Z.length)).2.2.q).2.1.length - 1) (by omega))
                    omega
                  ·
                    refine sk ?_; refine rl ?_; refine o1 ?_; refine o1 ?_; refine WL.cast (t := 120) (u' := .int .i64 ((k + 1 : Nat) : Int)) rfl (cint (by omega)) ?_
                    refine o1 ?_; refine nl ?_
                    exact ⟨k + 1, by omega, by omega, su0 h0 [0, 1, 2, 3, 4] _ _ (by decide) ⟨rfl, rfl, rfl, rfl, rfl, rfl, rfl, rfl, rfl, rfl, trivial⟩ ⟨oe rfl rfl, oet rfl, oet rfl, oe rfl rfl, oe rfl rfl, rfl⟩⟩
                ·
                  refine dno 21 ?_; refine dno 22 ?_; refine dno 23 ?_; refine dno 24 ?_; refine dno 25 ?_; refine dno 26 ?_; refine dno 27 ?_; refine dno 28 ?_; refine dno 29 ?_; refine dno 30 ?_
                  refine dno 31 ?_; refine dno 32 ?_; refine dno 33 ?_; refine dv 34 ?_; refine df 35 ?_; refine df 36 ?_; refine dz0 ?_; refine cdf rfl ?_; refine sk ?_; refine rl ?_; refine o1 ?_
                  refine o1 ?_; refine WL.cast (t := 120) (u' := .int .i64 ((k + 1 : Nat) : Int)) rfl (cint (by omega)) ?_
                  refine o1 ?_; refine nl ?_
                  exact ⟨k + 1, by omega, by omega, su0 h0 [0, 1, 2, 3, 4] _ _ (by decide) ⟨rfl, rfl, rfl, rfl, rfl, rfl, rfl, rfl, rfl, rfl, trivial⟩ ⟨oe rfl rfl, oet rfl, oet rfl, oe rfl rfl, oe rfl rfl, rfl⟩⟩
            ·
              refine dno 12 ?_; refine dno 13 ?_; refine dno 14 ?_; refine dno 15 ?_; refine dno 16 ?_; refine dno 17 ?_; refine dno 18 ?_; refine dno 19 ?_; refine dno 20 ?_; refine dno 21 ?_
              refine dno 22 ?_; refine dno 23 ?_; refine dno 24 ?_; refine dno 25 ?_; refine dno 26 ?_; refine dno 27 ?_; refine dno 28 ?_; refine dno 29 ?_; refine dno 30 ?_; refine dno 31 ?_
              refine dno 32 ?_; refine dno 33 ?_; refine dno 34 ?_; refine dno 35 ?_; refine dv 36 ?_; refine dz0 ?_; refine cdf rfl ?_; refine sk ?_; refine rl ?_; refine o1 ?_; refine o1 ?_
              refine WL.cast (t := 120) (u' := .int .i64 ((k + 1 : Nat) : Int)) rfl (cint (by omega)) ?_
              refine o1 ?_; refine nl ?_
              exact ⟨k + 1, by omega, by omega, su0 h0 [0, 1, 2, 3, 4] _ _ (by decide) ⟨rfl, rfl, rfl, rfl, rfl, rfl, rfl, rfl, rfl, rfl, trivial⟩ ⟨oe rfl rfl, oet rfl, oet rfl, oe rfl rfl, oe rfl rfl, rfl⟩⟩
          ·
            refine ex ?_; refine rl ?_; refine o1 ?_; refine o1 ?_
            refine WL.cast (t := 28) (u' := .int .i64 (((Z1 ++ [(0, ((0 : Int) : Rat))]).length : Nat) : Int)) rfl (cint (by simp only [List.length_append, List.length_cons, List.length_nil]; omega)) ?_
            refine o1 ?_; refine nl ?_
            exact ⟨(m, (Z1 ++ [(0, ((0 : Int) : Rat))]), (keepV zeroQ (useL (nthA xs (Z.length)).2.1 vs (nthA xs (Z.length)).2.2.q).1), last, put), by dsimp only; omega, ⟨by dsimp only; simp only [List.length_append, List.length_cons, List.length_nil]; omega, hw1⟩, su0 h0 [0, 1, 2] _ _ (by decide) ⟨rfl, rfl, rfl, rfl, rfl, trivial⟩ ⟨oe rfl rfl, oet (congrArg (fun l => some (⟨3, 1, icl l⟩ : Ob)) (yrs_next hZ1)), oet (congrArg (fun l => some (⟨45, 4, l⟩ : Ob)) (zcl_snoc 0 ((0 : Int) : Rat))), rfl⟩⟩
      ·
        refine sq ?_; refine rl ?_; refine o1 ?_; refine o1 ?_; refine nl ?_; refine cdp rfl (fun h10 => ?_) (fun h10 => ?_)
        ·
          refine sq ?_
          have huo : UseOf vs (keepV (fun x : Int × Rat => !decide (x.1 < (nthA xs (Z.length)).2.1)) vs) (keepV (fun x : Int × Rat => decide (x.1 < (nthA xs (Z.length)).2.1)) vs) := useOf_filter (fun x : Int × Rat => !decide (x.1 < (nthA xs (Z.length)).2.1)) hok.pos
          obtain ⟨Z1, hP1, hZ1, hZl1, hw1⟩ := hw.used huo ((hok.filter _).mono (by omega) (by omega)) (by omega)
          have husn : (keepV (fun x : Int × Rat => !decide (x.1 < (nthA xs (Z.length)).2.1)) vs).length ≤ vs.length := List.length_filter_le _ _
          have hz8 : ∀ x ∈ vs, Sz 17179869184 x.2 := hok.sz (by omega)
          refine rd [] (fun i => [].contains i) mixed ?_
          refine dv 0 ?_; refine dv 1 ?_; refine dv 2 ?_; refine dv 3 ?_; refine dv 4 ?_; refine dv 5 ?_; refine dv 6 ?_; refine dv 7 ?_; refine dv 8 ?_
          refine dlr 9 ([.v (.int .i64 (nthA xs (Z.length)).2.1)]) (act_y (by omega)) ?_
          refine dcl 10 3 [0] rfl (p_Expire (b := (nthA xs (Z.length)).2.1) (by omega) (hok.sz (by omega))) ok21 ⟨oe rfl rfl, rfl⟩ ⟨rfl, rfl, rfl⟩ (ok := [some ⟨76, 0, [.t (sR 57 (keepV (fun x : Int × Rat => decide (x.1 < (nthA xs (Z.length)).2.1)) vs)), tv (.int .i64 last), tv (.bool put)]⟩]) ⟨oe rfl rfl, rfl⟩ trivial ?_
          refine dfzR (i := 170) (k := 3) (n := (keepV (fun x : Int × Rat => !decide (x.1 < (nthA xs (Z.length)).2.1)) vs).length) 57 rfl rfl rfl (vflat_len true _) (rd_vo true _) (.one .sl) (by rfl) (by rfl) ?_
          refine dcl 11 4 [2, 1] rfl (l_parts (fr := (-9223372036854775808)) (my := Z.length) (ys := Z.map Prod.fst) (tl := (List.replicate (m + 1) 0)) (rest := ((Fr4.of ((0 : Int) : Rat)).tr false ++ zZ m)) (Z0 := Z) hP1 (hw.sz (by omega)) (fun x hx => hz8 x (List.mem_filter.1 hx).1) rfl (List.length_map ..) (by rw [List.length_map]; omega) (by omega) (by omega) (fun u hu => hw.yrs u (List.mem_filter.1 hu).1) (hw.asc.useU huo)) ok18 ⟨oet rfl, oet rfl, rfl⟩ ⟨rfl, rfl, rfl, rfl, rfl⟩ (ok := [some ⟨45, 4, zcl Z1 ((Fr4.of ((0 : Int) : Rat)).tr false ++ zZ m)⟩, some ⟨3, 1, icl (Z.map Prod.fst ++ (List.replicate (m + 1) 0))⟩]) ⟨oet rfl, oet rfl, rfl⟩ trivial ?_
          refine df 12 ?_; refine dz0 ?_; refine cdf rfl ?_; refine sk ?_; refine rl ?_; refine o1 ?_; refine o1 ?_
          refine WL.cast (t := 28) (u' := .int .i64 (((Z1 ++ [(0, ((0 : Int) : Rat))]).length : Nat) : Int)) rfl (cint (by simp only [List.length_append, List.length_cons, List.length_nil]; omega)) ?_
          refine o1 ?_; refine nl ?_
          exact ⟨(m, (Z1 ++ [(0, ((0 : Int) : Rat))]), (keepV (fun x : Int × Rat => decide (x.1 < (nthA xs (Z.length)).2.1)) vs), last, put), by dsimp only; omega, ⟨by dsimp only; simp only [List.length_append, List.length_cons, List.length_nil]; omega, hw1⟩, su0 h0 [0, 1, 2] _ _ (by decide) ⟨rfl, rfl, rfl, rfl, rfl, trivial⟩ ⟨oe rfl rfl, oet (congrArg (fun l => some (⟨3, 1, icl l⟩ : Ob)) (yrs_next hZ1)), oet (congrArg (fun l => some (⟨45, 4, l⟩ : Ob)) (zcl_snoc 0 ((0 : Int) : Rat))), rfl⟩⟩
        ·
          refine sq ?_; refine rd [] (fun i => [].contains i) mixed ?_
          refine dv 0 ?_; refine dv 1 ?_; refine dv 2 ?_; refine dv 3 ?_; refine dv 4 ?_; refine dlr 5 ([.v (.int .i64 (nthA xs (Z.length)).2.1)]) (act_y (by omega)) ?_
          refine dv 6 ?_; refine dv 7 ?_; refine dv 8 ?_; refine dv 9 ?_; refine dlr 10 ((nthA xs (Z.length)).2.2.tr false) (act_q (by omega)) ?_
          refine dcl 11 3 [0] rfl (p_Put (y := (nthA xs (Z.length)).2.1) ha hl) ok22 ⟨oe rfl rfl, rfl⟩ ⟨rfl, rfl, rfl, rfl⟩ (ok := [some ⟨76, 0, [.t (sR 57 (putL (putE (rightQ (nthA xs (Z.length)).2.2.s (nthA xs (Z.length)).2.2.x (nthA xs (Z.length)).2.2.t (nthA xs (Z.length)).2.2.y) (nthA xs (Z.length)).2.2.q (nthA xs (Z.length)).2.1 last put) (nthA xs (Z.length)).2.2.q (nthA xs (Z.length)).2.1 vs)), tv (.int .i64 (putY (putE (rightQ (nthA xs (Z.length)).2.2.s (nthA xs (Z.length)).2.2.x (nthA xs (Z.length)).2.2.t (nthA xs (Z.length)).2.2.y) (nthA xs (Z.length)).2.2.q (nthA xs (Z.length)).2.1 last put) (nthA xs (Z.length)).2.1 last)), tv (.bool (putP (putE (rightQ (nthA xs (Z.length)).2.2.s (nthA xs (Z.length)).2.2.x (nthA xs (Z.length)).2.2.t (nthA xs (Z.length)).2.2.y) (nthA xs (Z.length)).2.2.q (nthA xs (Z.length)).2.1 last put) put))]⟩]) ⟨oe rfl rfl, rfl⟩ trivial ?_
          refine df 12 ?_; refine dz0 ?_; refine cdp rfl (fun h11 => ?_) (fun h11 => ?_)
          ·
            refine sq ?_
            have hpe : (putE (rightQ (nthA xs (Z.length)).2.2.s (nthA xs (Z.length)).2.2.x (nthA xs (Z.length)).2.2.t (nthA xs (Z.length)).2.2.y) (nthA xs (Z.length)).2.2.q (nthA xs (Z.length)).2.1 last put) = 0 := h11
            have hw1 := hw.putOk hpe hwp hyr
            refine rl ?_; (iterate 6 refine o1 ?_); refine ldf ([.v (.int .i64 (nthA xs (Z.length)).2.1)]) (act_y (by omega)) ?_
            refine o1 ?_
            refine sto (icl_put (ys := Z.map Prod.fst) (y0 := 0) (tl := List.replicate m 0) (y := (nthA xs (Z.length)).2.1) (List.length_map ..)) (icl_le (ys := Z.map Prod.fst) (y0 := 0) (tl := List.replicate m 0) (y := (nthA xs (Z.length)).2.1) (List.length_map ..)) ?_
            refine nl ?_; refine rl ?_; (iterate 6 refine o1 ?_); refine ldf ((nthA xs (Z.length)).2.2.tr false) (act_q (by omega)) ?_
            refine ca (c_RefRat hlen) ok14 ⟨a1g rfl, rfl⟩ (qF (nthA xs (Z.length)).2.2) ?_; refine o1 ?_
            refine sto (zcl_new (Z := Z) (r4 := (Fr4.of ((0 : Int) : Rat)).tr false) (rest := zZ m) (a := (nthA xs (Z.length)).2.2) rfl) (zcl_nle (Z := Z) (r4 := (Fr4.of ((0 : Int) : Rat)).tr false) (rest := zZ m) (a := (nthA xs (Z.length)).2.2) rfl) ?_
            refine nl ?_; refine rl ?_; refine o1 ?_; refine o1 ?_
            refine WL.cast (t := 28) (u' := .int .i64 (((Z ++ [((nthA xs (Z.length)).2.1, (nthA xs (Z.length)).2.2.q)]).length : Nat) : Int)) rfl (cint (by simp only [List.length_append, List.length_cons, List.length_nil]; omega)) ?_
            refine o1 ?_; refine nl ?_
            exact ⟨(m, (Z ++ [((nthA xs (Z.length)).2.1, (nthA xs (Z.length)).2.2.q)]), (putL (putE (rightQ (nthA xs (Z.length)).2.2.s (nthA xs (Z.length)).2.2.x (nthA xs (Z.length)).2.2.t (nthA xs (Z.length)).2.2.y) (nthA xs (Z.length)).2.2.q (nthA xs (Z.length)).2.1 last put) (nthA xs (Z.length)).2.2.q (nthA xs (Z.length)).2.1 vs), (putY (putE (rightQ (nthA xs (Z.length)).2.2.s (nthA xs (Z.length)).2.2.x (nthA xs (Z.length)).2.2.t (nthA xs (Z.length)).2.2.y) (nthA xs (Z.length)).2.2.q (nthA xs (Z.length)).2.1 last put) (nthA xs (Z.length)).2.1 last), (putP (putE (rightQ (nthA xs (Z.length)).2.2.s (nthA xs (Z.length)).2.2.x (nthA xs (Z.length)).2.2.t (nthA xs (Z.length)).2.2.y) (nthA xs (Z.length)).2.2.q (nthA xs (Z.length)).2.1 last put) put)), by dsimp only; omega, ⟨by dsimp only; simp only [List.length_append, List.length_cons, List.length_nil]; omega, hw1⟩, su0 h0 [0, 1, 2] _ _ (by decide) ⟨rfl, rfl, rfl, rfl, rfl, trivial⟩ ⟨oe rfl rfl, oet (congrArg (fun l => some (⟨3, 1, icl l⟩ : Ob)) (yrs_next rfl)), oet (congrArg (fun l => some (⟨45, 4, l⟩ : Ob)) (zcl_snocA (nthA xs (Z.length)).2.1 (ha.right (putE_ok hpe).1))), rfl⟩⟩
          ·
            refine sk ?_
            have hpe : (putE (rightQ (nthA xs (Z.length)).2.2.s (nthA xs (Z.length)).2.2.x (nthA xs (Z.length)).2.2.t (nthA xs (Z.length)).2.2.y) (nthA xs (Z.length)).2.2.q (nthA xs (Z.length)).2.1 last put) ≠ 0 := h11
            refine rl ?_; refine o1 ?_; refine o1 ?_
            refine WL.cast (t := 28) (u' := .int .i64 (((Z ++ [(0, ((0 : Int) : Rat))]).length : Nat) : Int)) rfl (cint (by simp only [List.length_append, List.length_cons, List.length_nil]; omega)) ?_
            refine o1 ?_; refine nl ?_
            exact ⟨(m, (Z ++ [(0, ((0 : Int) : Rat))]), (putL (putE (rightQ (nthA xs (Z.length)).2.2.s (nthA xs (Z.length)).2.2.x (nthA xs (Z.length)).2.2.t (nthA xs (Z.length)).2.2.y) (nthA xs (Z.length)).2.2.q (nthA xs (Z.length)).2.1 last put) (nthA xs (Z.length)).2.2.q (nthA xs (Z.length)).2.1 vs), (putY (putE (rightQ (nthA xs (Z.length)).2.2.s (nthA xs (Z.length)).2.2.x (nthA xs (Z.length)).2.2.t (nthA xs (Z.length)).2.2.y) (nthA xs (Z.length)).2.2.q (nthA xs (Z.length)).2.1 last put) (nthA xs (Z.length)).2.1 last), (putP (putE (rightQ (nthA xs (Z.length)).2.2.s (nthA xs (Z.length)).2.2.x (nthA xs (Z.length)).2.2.t (nthA xs (Z.length)).2.2.y) (nthA xs (Z.length)).2.2.q (nthA xs (Z.length)).2.1 last put) put)), by dsimp only; omega, ⟨by dsimp only; simp only [List.length_append, List.length_cons, List.length_nil]; omega, (by obtain ⟨e1, e2, e3⟩ := putE_no hpe; dsimp only; rw [e1, e2, e3]; exact hw.skip)⟩, su0 h0 [0, 1, 2] _ _ (by decide) ⟨rfl, rfl, rfl, rfl, rfl, trivial⟩ ⟨oe rfl rfl, oet (congrArg (fun l => some (⟨3, 1, icl l⟩ : Ob)) (yrs_next rfl)), oet (congrArg (fun l => some (⟨45, 4, l⟩ : Ob)) (zcl_snoc 0 ((0 : Int) : Rat))), rfl⟩⟩
    ·
      refine ex ?_; refine sq ?_; obtain rfl : m = 0 := by omega
      have hok := hw.ok
      have hl1 := hok.len
      have huo := useOf_all hok.pos
      obtain ⟨Z1, hP1, hZ1, hZl1, hw1⟩ := hw.used huo (StOk.nil.mono (by omega) (by omega)) (by omega)
      have hlv : vs.length ≤ 1073741823 := by omega
      have hzv : ∀ x ∈ vs, Sz 68719476736 x.2 := hok.sz (by omega)
      refine rl ?_; (iterate 3 refine o1 ?_)
      refine cak 3 (p_Rows (vs := vs) (rest := [.v (.int .i64 last), .v (.bool put)]) hzv hlv) ok16 ⟨a1o rfl (.pe (trs := [sR 57 vs, .v (.int .i64 last), .v (.bool put)]) rfl rfl rfl (by simp only [rdTL, rdT, sR, sV, rd_vo])), rfl⟩ ?_
      refine WL.sub (fzR (i := 176) (k := 3) (n := vs.length) 57 rfl rfl rfl (vflat_len true _) (rd_vo true _) (.one .sl)) ?_
      refine cl 4 [2, 1] (l_parts (fr := (-9223372036854775808)) (my := xs.length) (ys := Z.map Prod.fst) (tl := []) (rest := []) (Z0 := Z) hP1 (hw.sz (by omega)) (hok.sz (by omega)) rfl (by rw [List.length_map]; omega) (by rw [List.length_map]; omega) (by omega) (by omega) hw.yrs hw.asc) ok18 ⟨oet rfl, oet rfl, rfl⟩ ⟨rfl, rfl, rfl, rfl, rfl⟩ (ok := [some ⟨45, 4, zcl Z1 []⟩, some ⟨3, 1, icl (Z.map Prod.fst ++ [])⟩]) ⟨oet rfl, oet rfl, rfl⟩  ?_
      refine o1 ?_; refine ca (l_works) ok8 rfl (.one (tv (.bool true))) ?_; refine o1 ?_; refine o1 ?_; refine nl ?_; refine rt ?_
      exact en (.inl rfl) rfl (pk1 (pkv _)) (by decide) (fun _ => trivial) rfl
  ·
    refine o1 ?_; refine nl ?_; refine cdt rfl ?_; refine sq ?_; refine rl ?_; refine ca (l_works) ok8 rfl (.one (tv (.bool true))) ?_; refine o1 ?_; refine nl ?_; refine rt ?_
    exact en (.inl rfl) rfl (pk1 (pkv _)) (by decide) (fun _ => trivial) rfl
end Go.Proofs.YtogaallfhifngaaGreat
namespace Go.Proofs.YtogaallfhifngaaGreat
open Go Go.RowKit
theorem putL_len {e y : Int} {q : Rat} {vs : List (Int × Rat)} {k : Nat} (h : vs.length ≤ k) : (putL e q y vs).length ≤ k + 1 := by
  unfold putL
  split
  · split
    · rw [List.length_append]; exact Nat.succ_le_succ h
    · omega
  · omega
theorem p_Of {xs : List Gt} (hx : ∀ x ∈ xs, x.2.ok) (hl : xs.length ≤ 1000000) : Spec false Tryz.prog 24 [] [.one (.t (sG 57 false xs))] (fun _ r => (∃ s : Ls, ofF xs ([], 0, false) = some s ∧ r = .tup [.one (.t (.p true 76 [sR 57 s.1, .v (.int .i64 s.2.1), .v (.bool s.2.2)])), .one (tv (.int .i64 0))]) ∨ (ofF xs ([], 0, false) = none ∧ r = .tup [.one (tv (.pointer none)), .one (tv (.int .i64 2))])) := by
  refine fn0 Tryz.func24 rfl Tryz.ntmps24 rfl ttok rfl fun N w c0 h0 => ?_
  refine sq ?_; refine rl ?_; refine o1 ?_; refine o1 ?_; refine nl ?_; refine sq ?_; refine rl ?_; refine cak 0 p_New ok9 rfl ?_; refine o1 ?_; refine nl ?_; refine sq ?_; refine sq ?_; refine rl ?_
  (iterate 3 refine o1 ?_); refine nl ?_; refine bl ?_
  refine lp (γ := Nat × Ls) (fun s => frL [(4, .one (.pt 0 0)), (8, .one (.t (sG 57 false xs))), (9, .one (tv (.int .i64 ((xs.length : Nat) : Int)))), (10, .one (tv (.int .i64 ((s.1 : Nat) : Int))))]) (fun s => [(⟨76, 0, [.t (sR 57 s.2.1), tv (.int .i64 s.2.2.1), tv (.bool s.2.2.2)]⟩ : Ob)].map some) (fun s => s.1 ≤ xs.length ∧ s.2.1.length ≤ s.1 ∧ ofF (xs.drop s.1) s.2 = ofF xs ([], 0, false)) (fun s => xs.length - s.1) (0, ([], 0, false)) ⟨Nat.zero_le _, Nat.zero_le _, rfl⟩ (su0 h0 [0] _ _ (by decide) ⟨rfl, rfl, rfl, rfl, trivial⟩ ⟨oe rfl rfl, rfl⟩) ?_
  rintro ⟨k, vs, last, put⟩ ⟨hk, hlv, hof⟩; dsimp only at hk hlv hof ⊢; refine sq ?_; refine rl ?_; refine o1 ?_; refine nl ?_; refine sq ?_; refine cdp rfl (fun h1 => ?_) (fun h1 => ?_)
  ·
    refine sk ?_; refine sq ?_; refine bl ?_; refine sq ?_; have ha : Qn (nthG xs k).2 (nthG xs k).2.q := ⟨hx _ (nthG_mem (by omega)), rfl⟩
    refine rl ?_; refine o1 ?_; refine ldf (gtr false (nthG xs k)) (gin_at false (by omega)) ?_
    refine al 1 ?_; refine st ?_; refine nl ?_; refine sq ?_; refine rl ?_; refine o1 ?_; refine o1 ?_; refine ld ?_; refine o1 ?_; refine ld ?_
    refine cl 2 [0] (p_Put (vs := vs) (last := last) (put := put) (y := (nthG xs k).1) ha (by omega)) ok22 ⟨oe rfl rfl, rfl⟩ ⟨rfl, rfl, rfl, rfl⟩ (ok := [some ⟨76, 0, [.t (sR 57 (putL (oE (nthG xs k) (vs, last, put)) (nthG xs k).2.q (nthG xs k).1 vs)), tv (.int .i64 (putY (oE (nthG xs k) (vs, last, put)) (nthG xs k).1 last)), tv (.bool (putP (oE (nthG xs k) (vs, last, put)) put))]⟩]) ⟨oe rfl rfl, rfl⟩ ?_
    refine o1 ?_; refine o1 ?_; refine WL.split (t := 21) rfl (fun h2 => ?_) (fun h2 => ?_)
    ·
      (iterate 4 refine no_ ?_); refine o1 ?_; refine nl ?_; refine cdt rfl ?_; refine sq ?_; refine rl ?_; refine o1 ?_; refine o1 ?_; refine nl ?_; refine rt ?_
      exact en (.inl rfl) rfl (pkt (.cons (.one (.id rfl)) (.cons (pkv _) .nil))) (by decide) (fun h => by cases h) (.inr ⟨ofF_stop (by omega) hof (.inl h2), rfl⟩)
    ·
      refine o1 ?_; refine ld ?_; refine ca (p_Sign ha) ok27 ⟨a1g rfl, rfl⟩ (.one (tv (.int .i64 (nthG xs k).2.q.num.sign))) ?_; refine o1 ?_; refine o1 ?_; refine nl ?_
      refine cdp rfl (fun h3 => ?_) (fun h3 => ?_)
      ·
        refine sq ?_; refine rl ?_; refine o1 ?_; refine o1 ?_; refine nl ?_; refine rt ?_
        exact en (.inl rfl) rfl (pkt (.cons (.one (.id rfl)) (.cons (pkv _) .nil))) (by decide) (fun h => by cases h) (.inr ⟨ofF_stop (by omega) hof (.inr h3), rfl⟩)
      ·
        refine sk ?_; refine rl ?_; refine o1 ?_; refine WL.cast (t := 27) (u' := .int .i64 ((k + 1 : Nat) : Int)) rfl (cint (by omega)) ?_
        refine o1 ?_; refine nl ?_; have hof1 := ofF_go (by omega) hof (Decidable.not_not.1 h2) h3
        have hlv1 : (putL (oE (nthG xs k) (vs, last, put)) (nthG xs k).2.q (nthG xs k).1 vs).length ≤ k + 1 := putL_len hlv
        exact ⟨(k + 1, (putL (oE (nthG xs k) (vs, last, put)) (nthG xs k).2.q (nthG xs k).1 vs), (putY (oE (nthG xs k) (vs, last, put)) (nthG xs k).1 last), (putP (oE (nthG xs k) (vs, last, put)) put)), by dsimp only; omega, ⟨by dsimp only; omega, hlv1, hof1⟩, su0 h0 [0] _ _ (by decide) ⟨rfl, rfl, rfl, rfl, trivial⟩ ⟨oe rfl rfl, rfl⟩⟩
  ·
    refine ex ?_; refine sq ?_; refine rl ?_; (iterate 3 refine o1 ?_); refine nl ?_; refine rt ?_
    exact en (.inl rfl) rfl (pkt (.cons (.one (.pt (k := 0) (trs := [sR 57 vs, .v (.int .i64 last), .v (.bool put)]) rfl)) (.cons (pkv _) .nil))) (by decide) (fun h => by cases h) (.inl ⟨(vs, last, put), ofF_end (by omega) hof, rfl⟩)
theorem p_OfOk {xs : List Gt} {s : Ls} (hx : ∀ x ∈ xs, x.2.ok) (hl : xs.length ≤ 1000000) (hs : ofF xs ([], 0, false) = some s) : Spec false Tryz.prog 24 [] [.one (.t (sG 57 false xs))] (Ret (.tup [.one (.t (.p true 76 [sR 57 s.1, .v (.int .i64 s.2.1), .v (.bool s.2.2)])), .one (tv (.int .i64 0))])) := (p_Of hx hl).mono fun _ r h => by
  rcases h with ⟨s', h1, h2⟩ | ⟨h1, _⟩
  · rw [hs] at h1
    injection h1 with h1
    subst h1
    exact h2
  · rw [hs] at h1
    cases h1
theorem p_OfNo {xs : List Gt} (hx : ∀ x ∈ xs, x.2.ok) (hl : xs.length ≤ 1000000) (hs : ofF xs ([], 0, false) = none) : Spec false Tryz.prog 24 [] [.one (.t (sG 57 false xs))] (Ret (.tup [.one (tv (.pointer none)), .one (tv (.int .i64 2))])) := (p_Of hx hl).mono fun _ r h => by
  rcases h with ⟨s', h1, _⟩ | ⟨_, h2⟩
  · rw [hs] at h1
    cases h1
  · exact h2
theorem p_OfV {vs : List (Int × Rat)} (ha : Asc vs) (hp : ∀ x ∈ vs, 0 < x.2) (hz : ∀ x ∈ vs, Sz 68719476736 x.2) (hl : vs.length ≤ 1000000) : Spec false Tryz.prog 24 [] [.one (.t (sV 57 false vs))] (Ret (.tup [.one (.t (.p true 76 [sR 57 (vs, lastY 0 vs, !vs.isEmpty).1, .v (.int .i64 (vs, lastY 0 vs, !vs.isEmpty).2.1), .v (.bool (vs, lastY 0 vs, !vs.isEmpty).2.2)])), .one (tv (.int .i64 0))])) := by
  have h := p_OfOk (xs := toG vs) (s := (vs, lastY 0 vs, !vs.isEmpty)) (fun x hx => by
    obtain ⟨z, hz1, rfl⟩ := List.mem_map.1 hx
    exact (Qn.of (hz z hz1)).1) (by rw [toG_len]; exact hl) (ofF_toG (fun h => by cases h) ha hp)
  rwa [sG_toG] at h
theorem c_Of25 {xs : List Gt} (hx : ∀ x ∈ xs, x.2.ok) (hl : xs.length ≤ 1000000) : Spec false Tryz.prog 25 [] [.one (.t (sG 63 false xs))] (fun _ r => (∃ s : Ls, ofF xs ([], 0, false) = some s ∧ r = .tup [.agg (([sV 63 false s.1, .v (.int .i64 s.2.1), .v (.bool s.2.2)] : List Tr).map .t), .one (tv (.bool true))]) ∨ (ofF xs ([], 0, false) = none ∧ r = .tup [.agg [tv (.slice none 0 0), tv (.int .i64 0), tv (.bool false)], .one (tv (.bool false))])) := by
  refine fn0 Tryz.func25 rfl Tryz.ntmps25 rfl ttok rfl fun N w c0 h0 => ?_
  refine sq ?_; refine rl ?_; refine al 0 ?_; refine o1 ?_; refine nl ?_; refine sq ?_; refine rl ?_; refine al 1 ?_; refine WL.sub (nrd (j := 1) (p := 0) (e := 63) (z' := 5) rfl rfl rfl) ?_
  refine nl ?_; refine sq ?_; refine sq ?_; refine rl ?_; refine o1 ?_; refine nl ?_; refine bl ?_
  refine lp (γ := Nat × Ls) (fun s => frL [(0, .one (.t (sG 63 false xs))), (2, .one (.pt 0 0)), (4, .one (.pt 1 0)), (5, .one (tv (.int .i64 ((s.1 : Nat) : Int))))]) (fun s => [(⟨29, 0, [tv (.slice none 0 0), tv (.int .i64 0), tv (.bool false)]⟩ : Ob), ⟨29, 0, [.t (sV 63 false s.2.1), tv (.int .i64 s.2.2.1), tv (.bool s.2.2.2)]⟩].map some) (fun s => s.1 ≤ xs.length ∧ s.2.1.length ≤ s.1 ∧ ofF (xs.drop s.1) s.2 = ofF xs ([], 0, false)) (fun s => xs.length - s.1) (0, ([], 0, false)) ⟨Nat.zero_le _, Nat.zero_le _, rfl⟩ (su0 h0 [0, 1] _ _ (by decide) ⟨rfl, rfl, rfl, rfl, trivial⟩ ⟨oe rfl rfl, oe rfl rfl, rfl⟩) ?_
  rintro ⟨k, vs, last, put⟩ ⟨hk, hlv, hof⟩; dsimp only at hk hlv hof ⊢; refine sq ?_; refine sq ?_; refine rl ?_; (iterate 4 refine o1 ?_); refine nl ?_; refine cdp rfl (fun h1 => ?_) (fun h1 => ?_)
  ·
    refine sk ?_; refine sq ?_; refine bl ?_; refine sq ?_; have ha : Qn (nthG xs k).2 (nthG xs k).2.q := ⟨hx _ (nthG_mem (by omega)), rfl⟩
    refine rd [0, 1] (fun i => [17].contains i) mixed ?_
    refine dld 0 ?_; refine dv 1 ?_; refine dv 2 ?_; refine dv 3 ?_; refine dv 4 ?_; refine dlr 5 ([.v (.int .i64 (nthG xs k).1)]) (gin_y false (by omega)) ?_
    refine dv 6 ?_; refine dv 7 ?_; refine dv 8 ?_; refine dv 9 ?_; refine dlr 10 ((nthG xs k).2.tr false) (gin_q false (by omega)) ?_
    refine WO.two (i := 11) (j := 15) (by kernel_rfl) ?_ ?_
    ·
      refine oca 11 rfl (c_Put25 (vs := vs) (last := last) (was := put) (y := (nthG xs k).1) ha (by omega)) ok34 ⟨a1g rfl, a1 rfl, a1g rfl, rfl⟩ (.tup [.agg (([sV 63 false (putL (oE (nthG xs k) (vs, last, put)) (nthG xs k).2.q (nthG xs k).1 vs), .v (.int .i64 (putY (oE (nthG xs k) (vs, last, put)) (nthG xs k).1 last)), .v (.bool (putP (oE (nthG xs k) (vs, last, put)) put))] : List Tr).map .t), .one (tv (.int .i64 (oE (nthG xs k) (vs, last, put))))]) ?_
      refine df 12 ?_; refine df 13 ?_; refine df 14 ?_; refine d_al (key := 2) 15 (by kernel_rfl) rfl rfl ttok rfl ⟨rfl, rfl, trivial⟩ ?_
      refine d_stn 16 (by kernel_rfl) rfl rfl ttok rfl rfl rfl rfl ⟨rfl, rfl, trivial⟩ ?_
      refine d_v 17 (by kernel_rfl) rfl rfl ttok rfl (by trivial) ?_ (fun h => by first | rfl | cases h)
      refine dz0 ?_; refine sq ?_; refine sq ?_; refine rl ?_; (iterate 3 refine o1 ?_); refine WL.split (t := 31) rfl (fun h2 => ?_) (fun h2 => ?_)
      ·
        (iterate 7 refine no_ ?_); refine o1 ?_; refine nl ?_; refine cdt rfl ?_; refine sq ?_; refine rl ?_; refine o1 ?_; refine st ?_; refine o1 ?_; refine nl ?_; refine rt ?_
        exact en (.inl rfl) rfl (pkt (.cons (.agg (.cons (.id rfl) (.cons (.id rfl) (.cons (.id rfl) .nil)))) (.cons (pkv _) .nil))) (by decide) (fun h => by cases h) (.inr ⟨ofF_stop (by omega) hof (.inl h2), rfl⟩)
      ·
        (iterate 4 refine o1 ?_); refine ldf ((nthG xs k).2.tr false) (gin_q false (by omega)) ?_
        refine ca (c_Sign4 ha) ok48 ⟨a1g rfl, rfl⟩ (.one (tv (.int .i64 (nthG xs k).2.q.num.sign))) ?_; refine o1 ?_; refine o1 ?_; refine nl ?_; refine cdp rfl (fun h3 => ?_) (fun h3 => ?_)
        ·
          refine sq ?_; refine rl ?_; refine o1 ?_; refine st ?_; refine o1 ?_; refine nl ?_; refine rt ?_
          exact en (.inl rfl) rfl (pkt (.cons (.agg (.cons (.id rfl) (.cons (.id rfl) (.cons (.id rfl) .nil)))) (.cons (pkv _) .nil))) (by decide) (fun h => by cases h) (.inr ⟨ofF_stop (by omega) hof (.inr h3), rfl⟩)
        ·
          refine sk ?_; refine rl ?_; refine ld ?_; refine st ?_; refine nl ?_; refine rl ?_; refine o1 ?_; refine o1 ?_
          refine WL.cast (t := 13) (u' := .int .i64 ((k + 1 : Nat) : Int)) rfl (cint (by omega)) ?_
          refine o1 ?_; refine nl ?_; have hof1 := ofF_go (by omega) hof (Decidable.not_not.1 h2) h3
          have hlv1 : (putL (oE (nthG xs k) (vs, last, put)) (nthG xs k).2.q (nthG xs k).1 vs).length ≤ k + 1 := putL_len hlv
          exact ⟨(k + 1, (putL (oE (nthG xs k) (vs, last, put)) (nthG xs k).2.q (nthG xs k).1 vs), (putY (oE (nthG xs k) (vs, last, put)) (nthG xs k).1 last), (putP (oE (nthG xs k) (vs, last, put)) put)), by dsimp only; omega, ⟨by dsimp only; omega, hlv1, hof1⟩, su0 h0 [0, 1] _ _ (by decide) ⟨rfl, rfl, rfl, rfl, trivial⟩ ⟨oe rfl rfl, oe rfl rfl, rfl⟩⟩
    ·
      refine o_al (key := 2) 15 rfl rfl ttok rfl ⟨rfl, rfl, trivial⟩ ?_
      refine dca 11 rfl (c_Put25 (vs := vs) (last := last) (was := put) (y := (nthG xs k).1) ha (by omega)) ok34 ⟨a1g rfl, a1 rfl, a1g rfl, rfl⟩ (.tup [.agg (([sV 63 false (putL (oE (nthG xs k) (vs, last, put)) (nthG xs k).2.q (nthG xs k).1 vs), .v (.int .i64 (putY (oE (nthG xs k) (vs, last, put)) (nthG xs k).1 last)), .v (.bool (putP (oE (nthG xs k) (vs, last, put)) put))] : List Tr).map .t), .one (tv (.int .i64 (oE (nthG xs k) (vs, last, put))))]) ?_
      refine df 12 ?_; refine df 13 ?_; refine df 14 ?_; refine d_stn 16 (by kernel_rfl) rfl rfl ttok rfl rfl rfl rfl ⟨rfl, rfl, trivial⟩ ?_
      refine d_v 17 (by kernel_rfl) rfl rfl ttok rfl (by trivial) ?_ (fun h => by first | rfl | cases h)
      refine dz0 ?_; refine sq ?_; refine sq ?_; refine rl ?_; (iterate 3 refine o1 ?_); refine WL.split (t := 31) rfl (fun h4 => ?_) (fun h4 => ?_)
      ·
        (iterate 7 refine no_ ?_); refine o1 ?_; refine nl ?_; refine cdt rfl ?_; refine sq ?_; refine rl ?_; refine o1 ?_; refine st ?_; refine o1 ?_; refine nl ?_; refine rt ?_
        exact en (.inl rfl) rfl (pkt (.cons (.agg (.cons (.id rfl) (.cons (.id rfl) (.cons (.id rfl) .nil)))) (.cons (pkv _) .nil))) (by decide) (fun h => by cases h) (.inr ⟨ofF_stop (by omega) hof (.inl h4), rfl⟩)
      ·
        (iterate 4 refine o1 ?_); refine ldf ((nthG xs k).2.tr false) (gin_q false (by omega)) ?_
        refine ca (c_Sign4 ha) ok48 ⟨a1g rfl, rfl⟩ (.one (tv (.int .i64 (nthG xs k).2.q.num.sign))) ?_; refine o1 ?_; refine o1 ?_; refine nl ?_; refine cdp rfl (fun h5 => ?_) (fun h5 => ?_)
        ·
          refine sq ?_; refine rl ?_; refine o1 ?_; refine st ?_; refine o1 ?_; refine nl ?_; refine rt ?_
          exact en (.inl rfl) rfl (pkt (.cons (.agg (.cons (.id rfl) (.cons (.id rfl) (.cons (.id rfl) .nil)))) (.cons (pkv _) .nil))) (by decide) (fun h => by cases h) (.inr ⟨ofF_stop (by omega) hof (.inr h5), rfl⟩)
        ·
          refine sk ?_; refine rl ?_; refine ld ?_; refine st ?_; refine nl ?_; refine rl ?_; refine o1 ?_; refine o1 ?_
          refine WL.cast (t := 13) (u' := .int .i64 ((k + 1 : Nat) : Int)) rfl (cint (by omega)) ?_
          refine o1 ?_; refine nl ?_; have hof1 := ofF_go (by omega) hof (Decidable.not_not.1 h4) h5
          have hlv1 : (putL (oE (nthG xs k) (vs, last, put)) (nthG xs k).2.q (nthG xs k).1 vs).length ≤ k + 1 := putL_len hlv
          exact ⟨(k + 1, (putL (oE (nthG xs k) (vs, last, put)) (nthG xs k).2.q (nthG xs k).1 vs), (putY (oE (nthG xs k) (vs, last, put)) (nthG xs k).1 last), (putP (oE (nthG xs k) (vs, last, put)) put)), by dsimp only; omega, ⟨by dsimp only; omega, hlv1, hof1⟩, su0 h0 [0, 1] _ _ (by decide) ⟨rfl, rfl, rfl, rfl, trivial⟩ ⟨oe rfl rfl, oe rfl rfl, rfl⟩⟩
  ·
    refine ex ?_; refine sq ?_; refine rl ?_; refine ld ?_; refine st ?_; refine o1 ?_; refine nl ?_; refine rt ?_
    exact en (.inl rfl) rfl (pkt (.cons (.agg (.cons (.id rfl) (.cons (.id rfl) (.cons (.id rfl) .nil)))) (.cons (pkv _) .nil))) (by decide) (fun h => by cases h) (.inl ⟨(vs, last, put), ofF_end (by omega) hof, rfl⟩)
theorem c_OfOk25 {xs : List Gt} {s : Ls} (hx : ∀ x ∈ xs, x.2.ok) (hl : xs.length ≤ 1000000) (hs : ofF xs ([], 0, false) = some s) : Spec false Tryz.prog 25 [] [.one (.t (sG 63 false xs))] (Ret (.tup [.agg (([sV 63 false s.1, .v (.int .i64 s.2.1), .v (.bool s.2.2)] : List Tr).map .t), .one (tv (.bool true))])) := (c_Of25 hx hl).mono fun _ r h => by
  rcases h with ⟨s', h1, h2⟩ | ⟨h1, _⟩
  · rw [hs] at h1
    injection h1 with h1
    subst h1
    exact h2
  · rw [hs] at h1
    cases h1
theorem c_OfNo25 {xs : List Gt} (hx : ∀ x ∈ xs, x.2.ok) (hl : xs.length ≤ 1000000) (hs : ofF xs ([], 0, false) = none) : Spec false Tryz.prog 25 [] [.one (.t (sG 63 false xs))] (Ret (.tup [.agg [tv (.slice none 0 0), tv (.int .i64 0), tv (.bool false)], .one (tv (.bool false))])) := (c_Of25 hx hl).mono fun _ r h => by
  rcases h with ⟨s', h1, _⟩ | ⟨_, h2⟩
  · rw [hs] at h1
    cases h1
  · exact h2
end Go.Proofs.YtogaallfhifngaaGreat
namespace Go.Proofs.YtogaallfhifngaaGreat
open Go Go.RowKit
theorem l_LossAgain {gs : List Gt} {xs zs : List At} (hqg : ∀ x ∈ gs, x.2.x.length ≤ 6 ∧ x.2.y.length ≤ 6 → x.2.ok) (hqa : ∀ x ∈ xs, x.2.2.x.length ≤ 6 ∧ x.2.2.y.length ≤ 6 → x.2.2.ok) (hqb : ∀ x ∈ zs, x.2.2.x.length ≤ 6 ∧ x.2.2.y.length ≤ 6 → x.2.2.ok) : Spec true Tryz.prog 5 [] [.one (.t (sG 57 false gs)), .one (.t (sAc 38 xs)), .one (.t (sAc 38 zs))] (Ret (.one (tv (.bool true)))) := by
  refine fn0 Tryz.func5 rfl Tryz.ntmps5 rfl ttok rfl fun N w c0 h0 => ?_
  refine sq ?_; refine rl ?_; refine o1 ?_; refine nl ?_; refine sq ?_; refine sq ?_; refine rl ?_; refine o1 ?_
  refine ca (l_few (xs := xs) (top := 20)) ok7 ⟨a1 rfl, a1 rfl, rfl⟩ (.one (tv (.bool (fewB xs 20)))) ?_; refine WL.splitb (t := 24) rfl (fun h1 => ?_) (fun h1 => ?_)
  ·
    (iterate 3 refine o1 ?_); refine ca (l_few (xs := zs) (top := 20)) ok7 ⟨a1 rfl, a1 rfl, rfl⟩ (.one (tv (.bool (fewB zs 20)))) ?_; refine WL.splitb (t := 28) rfl (fun h2 => ?_) (fun h2 => ?_)
    ·
      (iterate 7 refine o1 ?_); refine nl ?_; refine cdp rfl (fun h3 => ?_) (fun h3 => ?_)
      ·
        refine sq ?_; refine rl ?_; refine ca (l_works) ok8 rfl (.one (tv (.bool true))) ?_; refine o1 ?_; refine nl ?_; refine rt ?_
        exact en (.inl rfl) rfl (pk1 (pkv _)) (by decide) (fun _ => trivial) rfl
      ·
        refine sk ?_; refine sq ?_; refine rl ?_; refine o1 ?_; refine nl ?_; refine sq ?_; refine sq ?_; refine rl ?_; refine o1 ?_; refine nl ?_; refine bl ?_
        obtain ⟨hxl, hxs⟩ := few_use h1 (by omega)
        obtain ⟨hzl, hzs⟩ := few_use h2 (by omega)
        refine lp (γ := Nat) (fun k => frL [(0, .one (.t (sG 57 false gs))), (1, .one (.t (sAc 38 xs))), (2, .one (.t (sAc 38 zs))), (7, .one (.sl 0 0 k)), (8, .one (tv (.int .i64 ((k : Nat) : Int))))]) (fun k => [(⟨63, 5, ((gs.take k).flatMap (gtr false)).map .t⟩ : Ob)].map some) (fun k => k ≤ gs.length ∧ ∀ j, j < k → shortB (nthG gs j).2 = true) (fun k => gs.length - k) 0 ⟨Nat.zero_le _, fun j hj => absurd hj (Nat.not_lt_zero j)⟩ ((nr (i := 7) 0 63 5 rfl rfl rfl rfl).trans (su0 h0 [0] _ _ (by decide) ⟨rfl, rfl, rfl, rfl, rfl, trivial⟩ ⟨oe rfl rfl, rfl⟩)) fun k hk => ?_
        refine sq ?_; refine sq ?_; refine rl ?_; (iterate 4 refine o1 ?_); refine nl ?_; refine cdp rfl (fun h4 => ?_) (fun h4 => ?_)
        ·
          refine sk ?_; refine sq ?_; refine bl ?_; refine sq ?_; refine sq ?_; refine rl ?_; (iterate 4 refine o1 ?_); refine ldf ((nthG gs k).2.tr false) (gin_q false (by omega)) ?_
          refine ca (l_short (a := (nthG gs k).2)) ok23 ⟨a1g rfl, rfl⟩ (.one (tv (.bool (shortB (nthG gs k).2)))) ?_; refine WL.splitb (t := 48) rfl (fun h5 => ?_) (fun h5 => ?_)
          ·
            refine o1 ?_; refine nl ?_; refine cdf rfl ?_; refine sk ?_; have hlen : (nthG gs k).2.len 1099511627776 := by
              have h9 := short_use h5
              exact ⟨by omega, by omega⟩
            refine rd [] (fun i => [15].contains i) mixed ?_
            refine dv 0 ?_; refine dv 1 ?_; refine dv 2 ?_; refine dv 3 ?_; refine dv 4 ?_; refine dlr 5 ([.v (.int .i64 (nthG gs k).1)]) (gin_y false (by omega)) ?_
            refine dv 6 ?_; refine dv 7 ?_; refine dv 8 ?_; refine dv 9 ?_; refine dlr 10 ((nthG gs k).2.tr false) (gin_q false (by omega)) ?_
            refine dca 11 rfl (c_RefRat hlen) ok14 ⟨a1g rfl, rfl⟩ (qF (nthG gs k).2) ?_; refine df 12 ?_; refine d_bs (key := 1) 13 (by kernel_rfl) rfl rfl ttok rfl trivial ?_
            refine d_app (j := 2) 14 rfl ttok rfl rfl rfl (.sl rfl (by rw [List.length_map, gflat_len, List.length_take, Nat.min_eq_left hk.1])) (.sl rfl rfl rfl) rfl rfl (by omega) (by omega) rfl rfl (by kernel_rfl) rfl ?_
            refine d_v 15 (by kernel_rfl) rfl rfl ttok rfl (by trivial) ?_ (fun h => by first | rfl | cases h)
            refine dz0 ?_; refine rl ?_; refine o1 ?_; refine o1 ?_; refine WL.cast (t := 42) (u' := .int .i64 ((k + 1 : Nat) : Int)) rfl (cint (by omega)) ?_
            refine o1 ?_; refine nl ?_
            exact ⟨k + 1, by omega, ⟨by omega, fun j hj => by rcases Nat.lt_succ_iff_lt_or_eq.1 hj with h9 | h9; exact hk.2 j h9; subst h9; exact h5⟩, su0 h0 [2] _ _ (by decide) ⟨rfl, rfl, rfl, rfl, rfl, trivial⟩ ⟨oet (congrArg (fun l => some (⟨63, 5, l⟩ : Ob)) (show ((gs.take k).flatMap (gtr false)).map AV.t ++ (gtr false (nthG gs k)).map .t = ((gs.take (k + 1)).flatMap (gtr false)).map .t by rw [take_g (by omega)]; simp [List.flatMap_append])), rfl⟩⟩
          ·
            refine o1 ?_; refine nl ?_; refine cdt rfl ?_; refine sq ?_; refine rl ?_; refine ca (l_works) ok8 rfl (.one (tv (.bool true))) ?_; refine o1 ?_; refine nl ?_; refine rt ?_
            exact en (.inl rfl) rfl (pk1 (pkv _)) (by decide) (fun _ => trivial) rfl
        ·
          refine ex ?_; obtain rfl : k = gs.length := by omega
          have hkk : gs.take gs.length = gs := List.take_of_length_le (Nat.le_refl _)
          have hgsh : ∀ x ∈ gs, x.2.x.length ≤ 6 ∧ x.2.y.length ≤ 6 := fun x hx => by
            obtain ⟨j, hj, rfl⟩ := mem_nthG hx
            exact short_use (hk.2 j hj)
          have hgok : ∀ x ∈ gs, x.2.ok := fun x hx => hqg x hx (hgsh x hx)
          have hgw : ∀ x ∈ gs, wt x.2.q ≤ 7 := fun x hx => wt6 ⟨hgok x hx, rfl⟩ (hgsh x hx).1 (hgsh x hx).2
          refine WP.sub (fzg (i := 7) (k := 0) (t := 63) (z := 5) (n := gs.length) (l := gs.flatMap (gtr false)) rfl rfl (congrArg (fun l => some (⟨63, 5, l⟩ : Ob)) (show ((gs.take gs.length).flatMap (gtr false)).map AV.t = (gs.flatMap (gtr false)).map .t by rw [hkk])) (gflat_len false _) (.one .sl)) ?_
          refine md3 (γ := Unit) (fun _ => frL [(1, .one (.t (sAc 38 xs))), (2, .one (.t (sAc 38 zs)))]) (fun _ => ([] : List Ob).map some) (fun _ => True) ?_ fun _ _ => ?_
          ·
            rcases hof : ofF gs ([], 0, false) with _ | ⟨vs, last, put⟩
            ·
              refine rl ?_; refine o1 ?_; refine cak 1 (p_OfNo hgok (by omega) hof) ok24 ⟨a1 rfl, rfl⟩ ?_
              (iterate 5 refine o1 ?_); refine nl ?_; refine rl ?_; refine o1 ?_
              refine ca (c_OfNo25 hgok (by omega) hof) ok25 ⟨a1 rfl, rfl⟩ (.tup [.agg [tv (.slice none 0 0), tv (.int .i64 0), tv (.bool false)], .one (tv (.bool false))]) ?_
              (iterate 3 refine o1 ?_); refine al 1 ?_; refine st ?_; refine o1 ?_; refine nl ?_; refine sq ?_; refine rl ?_; refine o1 ?_; refine o1 ?_
              refine WL.cast (t := 77) (u' := .bool false) rfl (by rfl) ?_
              (iterate 5 refine o1 ?_); refine WL.cast (t := 82) (u' := .bool true) rfl (by rfl) ?_
              (iterate 3 refine o1 ?_); refine WL.cast (t := 85) (u' := .bool false) rfl (by rfl) ?_
              (iterate 9 refine o1 ?_); (iterate 4 refine no_ ?_); refine o1 ?_; refine o1 ?_; refine nl ?_; refine cdf rfl ?_; refine sk ?_
              exact ⟨(), trivial, su0 h0 [] _ _ (by decide) ⟨rfl, rfl, trivial⟩ rfl⟩
            ·
              obtain ⟨hok9, _⟩ := ofF_ok hof StOk.nil LdOk.nil hgw
              refine rl ?_; refine o1 ?_; refine cak 1 (p_OfOk hgok (by omega) hof) ok24 ⟨a1 rfl, rfl⟩ ?_
              (iterate 5 refine o1 ?_); refine nl ?_; refine rl ?_; refine o1 ?_
              refine ca (c_OfOk25 (s := (vs, last, put)) hgok (by omega) hof) ok25 ⟨a1 rfl, rfl⟩ (.tup [.agg (([sV 63 false vs, .v (.int .i64 last), .v (.bool put)] : List Tr).map .t), .one (tv (.bool true))]) ?_
              (iterate 3 refine o1 ?_); refine al 2 ?_; refine st ?_; refine o1 ?_; refine nl ?_; refine sq ?_; refine rl ?_; refine o1 ?_; refine o1 ?_
              refine WL.cast (t := 77) (u' := .bool true) rfl (by rfl) ?_
              (iterate 5 refine o1 ?_); refine WL.cast (t := 82) (u' := .bool false) rfl (by rfl) ?_
              refine o1 ?_; (iterate 6 refine no_ ?_); (iterate 6 refine o1 ?_); refine ld ?_
              refine ca (l_is (vs := vs) (rest := [.v (.int .i64 last), .v (.bool put)]) (n := 0 + gs.length) (last := last) (was := put) hok9 (by omega) (by omega)) ok11 ⟨a1o rfl (.pe (trs := [sR 57 vs, .v (.int .i64 last), .v (.bool put)]) rfl rfl rfl (by simp only [rdTL, rdT, sR, sV, rd_vo])), a1g rfl, rfl⟩ (.one (tv (.bool true))) ?_
              (iterate 3 refine o1 ?_); refine nl ?_; refine cdf rfl ?_; refine sk ?_; exact ⟨(), trivial, su0 h0 [] _ _ (by decide) ⟨rfl, rfl, trivial⟩ rfl⟩
          refine sq ?_; refine rl ?_; refine cak 0 p_New ok9 rfl ?_; refine o1 ?_; refine nl ?_; refine sq ?_; refine rl ?_; refine al 1 ?_
          refine WL.sub (nrd (j := 1) (p := 0) (e := 63) (z' := 5) rfl rfl rfl) ?_; refine nl ?_; refine sq ?_; refine sq ?_; refine rl ?_; refine o1 ?_; refine nl ?_; refine bl ?_
          refine lp (γ := Nat × List (Int × Rat) × Int × Int × Bool) (fun s => frL [(1, .one (.t (sAc 38 xs))), (2, .one (.t (sAc 38 zs))), (13, .one (.pt 0 0)), (14, .one (.pt 1 0)), (15, .one (tv (.int .i64 ((s.1 : Nat) : Int))))]) (fun s => [(⟨76, 0, [.t (sR 57 s.2.1), tv (.int .i64 s.2.2.1), tv (.bool s.2.2.2.2)]⟩ : Ob), ⟨29, 0, [.t (sV 63 false s.2.1), tv (.int .i64 s.2.2.2.1), tv (.bool s.2.2.2.2)]⟩].map some) (fun s => s.1 ≤ xs.length ∧ StOk s.2.1 s.1 (100 * s.1) ∧ (s.2.2.2.2 = true → s.2.2.2.1 = s.2.2.1) ∧ LdOk s.2.1 s.2.2.1 s.2.2.2.2) (fun s => xs.length - s.1) (0, [], 0, 0, false) ⟨Nat.zero_le _, StOk.nil, fun _ => rfl, LdOk.nil⟩ (su0 h0 [0, 1] _ _ (by decide) ⟨rfl, rfl, rfl, rfl, rfl, trivial⟩ ⟨oe rfl rfl, oe rfl rfl, rfl⟩) ?_
          rintro ⟨k, vs, last, lastr, put⟩ ⟨hk, hok, hlr, hld⟩; dsimp only at hk hok hlr hld ⊢; refine sq ?_; refine sq ?_; refine rl ?_; (iterate 4 refine o1 ?_); refine nl ?_
          refine cdp rfl (fun h6 => ?_) (fun h6 => ?_)
          ·
            refine sk ?_; refine sq ?_; refine bl ?_
            refine md (γ := List (Int × Rat) × Int × Int × Bool) (fun s => frL [(1, .one (.t (sAc 38 xs))), (2, .one (.t (sAc 38 zs))), (13, .one (.pt 0 0)), (14, .one (.pt 1 0)), (15, .one (tv (.int .i64 ((k : Nat) : Int)))), (16, .one (.pt 2 0)), (17, .one (tv (.bool true)))]) (fun s => [(⟨76, 0, [.t (sR 57 s.1), tv (.int .i64 s.2.1), tv (.bool s.2.2.2)]⟩ : Ob), ⟨29, 0, [.t (sV 63 false vs), tv (.int .i64 lastr), tv (.bool put)]⟩, ⟨29, 0, [.t (sV 63 false s.1), tv (.int .i64 s.2.2.1), tv (.bool s.2.2.2)]⟩].map some) (fun s => StOk s.1 (k + 1) (100 * k + 7 + 2 * k) ∧ (s.2.2.2 = true → s.2.2.1 = s.2.1) ∧ LdOk s.1 s.2.1 s.2.2.2) ?_ ?_
            ·
              refine rd [1] (fun i => [12].contains i) mixed ?_
              refine dv 0 ?_; refine dld 1 ?_; refine dv 2 ?_; refine dv 3 ?_; refine dv 4 ?_; refine dlr 5 (atr (nthA xs (k))) (act_at (by omega)) ?_
              refine WO.two (i := 6) (j := 10) (by kernel_rfl) ?_ ?_
              ·
                refine oclx 6 2 [0] rfl (l_does (vs := vs) (last := last) (put := put) (a := (nthA xs (k))) (p := (nthA xs (k)).2.2.q) hlr hok (by omega) (by omega) ⟨hqa _ (nthA_mem (by omega)) (hxs _ (nthA_mem (by omega))), rfl⟩ (hxs _ (nthA_mem (by omega))).1 (hxs _ (nthA_mem (by omega))).2) ok10 ⟨oe rfl rfl, rfl⟩ ⟨rfl, rfl, rfl, rfl⟩ ?_
                rintro _ _ ⟨vs1, last1, lastr1, put1, hok1, hlr1, hld1, rfl, rfl⟩
                refine ⟨_, _, [some ⟨76, 0, [.t (sR 57 vs1), tv (.int .i64 last1), tv (.bool put1)]⟩], rfl, ⟨oe rfl rfl, rfl⟩, ⟨rfl, trivial⟩, ?_⟩; refine df 7 ?_; refine df 8 ?_; refine df 9 ?_
                refine d_al (key := 2) 10 (by kernel_rfl) rfl rfl ttok rfl ⟨rfl, trivial⟩ ?_
                refine d_stn 11 (by kernel_rfl) rfl rfl ttok rfl rfl rfl rfl ⟨rfl, trivial⟩ ?_
                refine d_v 12 (by kernel_rfl) rfl rfl ttok rfl (by trivial) ?_ (fun h => by first | rfl | cases h)
                refine dz0 ?_
                exact ⟨(vs1, last1, lastr1, put1), ⟨hok1, hlr1, hld1 hld⟩, su0 h0 [0, 1, 2] _ _ (by decide) ⟨rfl, rfl, rfl, rfl, rfl, rfl, rfl, trivial⟩ ⟨oe rfl rfl, oe rfl rfl, oe rfl rfl, rfl⟩⟩
              ·
                refine o_al (key := 2) 10 rfl rfl ttok rfl ⟨rfl, trivial⟩ ?_
                refine WO.one (by kernel_rfl) (oclx 6 3 [0] rfl (l_does (vs := vs) (last := last) (put := put) (a := (nthA xs (k))) (p := (nthA xs (k)).2.2.q) hlr hok (by omega) (by omega) ⟨hqa _ (nthA_mem (by omega)) (hxs _ (nthA_mem (by omega))), rfl⟩ (hxs _ (nthA_mem (by omega))).1 (hxs _ (nthA_mem (by omega))).2) ok10 ⟨oe rfl rfl, rfl⟩ ⟨rfl, rfl, rfl, rfl⟩ ?_)
                rintro _ _ ⟨vs1, last1, lastr1, put1, hok1, hlr1, hld1, rfl, rfl⟩
                refine ⟨_, _, [some ⟨76, 0, [.t (sR 57 vs1), tv (.int .i64 last1), tv (.bool put1)]⟩], rfl, ⟨oe rfl rfl, rfl⟩, ⟨rfl, trivial⟩, ?_⟩; refine df 7 ?_; refine df 8 ?_; refine df 9 ?_
                refine d_stn 11 (by kernel_rfl) rfl rfl ttok rfl rfl rfl rfl ⟨rfl, trivial⟩ ?_
                refine d_v 12 (by kernel_rfl) rfl rfl ttok rfl (by trivial) ?_ (fun h => by first | rfl | cases h)
                refine dz0 ?_
                exact ⟨(vs1, last1, lastr1, put1), ⟨hok1, hlr1, hld1 hld⟩, su0 h0 [0, 1, 2] _ _ (by decide) ⟨rfl, rfl, rfl, rfl, rfl, rfl, rfl, trivial⟩ ⟨oe rfl rfl, oe rfl rfl, oe rfl rfl, rfl⟩⟩
            rintro ⟨vs1, last1, lastr1, put1⟩ ⟨hok1, hlr1, hld1⟩; dsimp only at hok1 hlr1 hld1 ⊢; refine sq ?_; refine rl ?_; refine ld ?_; refine st ?_; refine nl ?_; refine sq ?_; refine rl ?_
            refine o1 ?_; refine o1 ?_; refine nl ?_; refine cdf rfl ?_; refine sk ?_; refine rl ?_; refine o1 ?_; refine o1 ?_
            refine WL.cast (t := 107) (u' := .int .i64 ((k + 1 : Nat) : Int)) rfl (cint (by omega)) ?_
            refine o1 ?_; refine nl ?_
            exact ⟨(k + 1, vs1, last1, lastr1, put1), by dsimp only; omega, ⟨by dsimp only; omega, by dsimp only; exact hok1.mono (by omega) (by omega), hlr1, hld1⟩, su0 h0 [0, 1] _ _ (by decide) ⟨rfl, rfl, rfl, rfl, rfl, trivial⟩ ⟨oe rfl rfl, oe rfl rfl, rfl⟩⟩
          ·
            refine ex ?_; refine sq ?_; have hok9 := hok.len
            have hlv : vs.length ≤ 1073741823 := by omega
            have hzv : ∀ x ∈ vs, Sz 68719476736 x.2 := hok.sz (by omega)
            refine rl ?_; refine o1 ?_
            refine cak 2 (p_Rows (vs := vs) (rest := [.v (.int .i64 last), .v (.bool put)]) hzv hlv) ok16 ⟨a1o rfl (.pe (trs := [sR 57 vs, .v (.int .i64 last), .v (.bool put)]) rfl rfl rfl (by simp only [rdTL, rdT, sR, sV, rd_vo])), rfl⟩ ?_
            refine WL.sub (fzR (i := 123) (k := 2) (n := vs.length) 57 rfl rfl rfl (vflat_len true _) (rd_vo true _) (.one .sl)) ?_
            refine cak 3 (p_OfV hld.1 hok.pos hzv (by omega)) ok24 ⟨a1 rfl, rfl⟩ ?_
            (iterate 5 refine o1 ?_); refine nl ?_; refine sq ?_; refine sq ?_; refine rl ?_; refine o1 ?_; refine o1 ?_; refine nl ?_; refine cdp rfl (fun h7 => ?_) (fun h7 => ?_)
            ·
              exact absurd rfl h7
            ·
              refine sk ?_; refine sq ?_; refine rl ?_; refine o1 ?_; refine ld ?_; refine o1 ?_; refine o1 ?_
              refine WL.cast (t := 132) (u' := .bool (!vs.isEmpty)) rfl (congrArg Value.bool isE_len.symm) ?_; refine o1 ?_; refine st ?_; refine nl ?_
              refine md (γ := Int) (fun lr => frL [(2, .one (.t (sAc 38 zs))), (14, .one (.pt 1 0)), (18, .one (.pt 0 0))]) (fun lr => [(⟨76, 0, [.t (sR 57 vs), tv (.int .i64 (lastY 0 vs)), tv (.bool (!vs.isEmpty))]⟩ : Ob), ⟨29, 0, [.t (sV 63 false vs), tv (.int .i64 lr), tv (.bool (!vs.isEmpty))]⟩].map some) (fun lr => (!vs.isEmpty) = true → lr = lastY 0 vs) ?_ fun lr hlr2 => ?_
              ·
                refine sq ?_; refine rl ?_; refine o1 ?_; refine ld ?_; refine nl ?_; refine cdq rfl (fun h8 => ?_) (fun h8 => ?_)
                ·
                  have hne := isE_pos h8
                  refine rl ?_; refine o1 ?_; refine ld ?_; refine o1 ?_; refine ld ?_; refine o1 ?_; refine o1 ?_
                  refine WL.cast (t := 141) (u' := .int .i64 ((vs.length - 1 : Nat) : Int)) rfl (cint (by omega)) ?_
                  refine o1 ?_; refine o1 ?_; refine ldf ([.v (.int .i64 (nthV vs (vs.length - 1)).1)]) (vin_y false (by omega)) ?_
                  refine o1 ?_; refine st ?_; refine nl ?_
                  exact ⟨(nthV vs (vs.length - 1)).1, fun _ => (lastY_nth hne).symm, su0 h0 [3, 1] _ _ (by decide) ⟨rfl, rfl, rfl, trivial⟩ ⟨oe rfl rfl, oe rfl rfl, rfl⟩⟩
                ·
                  refine sk ?_; exact ⟨lastr, fun h9 => absurd (h9.symm.trans h8) (by decide), su0 h0 [3, 1] _ _ (by decide) ⟨rfl, rfl, rfl, trivial⟩ ⟨oe rfl rfl, oe rfl rfl, rfl⟩⟩
              refine sq ?_; refine sq ?_; refine rl ?_; refine o1 ?_; refine nl ?_; refine bl ?_
              refine lp (γ := Nat × List (Int × Rat) × Int × Int × Bool) (fun s => frL [(2, .one (.t (sAc 38 zs))), (18, .one (.pt 0 0)), (14, .one (.pt 1 0)), (20, .one (tv (.int .i64 ((s.1 : Nat) : Int))))]) (fun s => [(⟨76, 0, [.t (sR 57 s.2.1), tv (.int .i64 s.2.2.1), tv (.bool s.2.2.2.2)]⟩ : Ob), ⟨29, 0, [.t (sV 63 false s.2.1), tv (.int .i64 s.2.2.2.1), tv (.bool s.2.2.2.2)]⟩].map some) (fun s => s.1 ≤ zs.length ∧ StOk s.2.1 (s.1 + 20) (100 * (s.1 + 20)) ∧ (s.2.2.2.2 = true → s.2.2.2.1 = s.2.2.1)) (fun s => zs.length - s.1) (0, vs, lastY 0 vs, lr, !vs.isEmpty) ⟨Nat.zero_le _, hok.mono (by omega) (by omega), hlr2⟩ (su0 h0 [0, 1] _ _ (by decide) ⟨rfl, rfl, rfl, rfl, trivial⟩ ⟨oe rfl rfl, oe rfl rfl, rfl⟩) ?_
              rintro ⟨k, vs, last, lastr, put⟩ ⟨hk, hok, hlr⟩; dsimp only at hk hok hlr ⊢; refine sq ?_; refine sq ?_; refine rl ?_; (iterate 4 refine o1 ?_); refine nl ?_
              refine cdp rfl (fun h9 => ?_) (fun h9 => ?_)
              ·
                refine sk ?_; refine sq ?_; refine bl ?_
                refine md (γ := List (Int × Rat) × Int × Int × Bool) (fun s => frL [(2, .one (.t (sAc 38 zs))), (18, .one (.pt 0 0)), (14, .one (.pt 1 0)), (20, .one (tv (.int .i64 ((k : Nat) : Int)))), (21, .one (.pt 2 0)), (22, .one (tv (.bool true)))]) (fun s => [(⟨76, 0, [.t (sR 57 s.1), tv (.int .i64 s.2.1), tv (.bool s.2.2.2)]⟩ : Ob), ⟨29, 0, [.t (sV 63 false vs), tv (.int .i64 lastr), tv (.bool put)]⟩, ⟨29, 0, [.t (sV 63 false s.1), tv (.int .i64 s.2.2.1), tv (.bool s.2.2.2)]⟩].map some) (fun s => StOk s.1 ((k + 20) + 1) (100 * (k + 20) + 7 + 2 * (k + 20)) ∧ (s.2.2.2 = true → s.2.2.1 = s.2.1)) ?_ ?_
                ·
                  refine rd [1] (fun i => [12].contains i) mixed ?_
                  refine dv 0 ?_; refine dld 1 ?_; refine dv 2 ?_; refine dv 3 ?_; refine dv 4 ?_; refine dlr 5 (atr (nthA zs (k))) (act_at (by omega)) ?_
                  refine WO.two (i := 6) (j := 10) (by kernel_rfl) ?_ ?_
                  ·
                    refine oclx 6 2 [0] rfl (l_does (vs := vs) (last := last) (put := put) (a := (nthA zs (k))) (p := (nthA zs (k)).2.2.q) hlr hok (by omega) (by omega) ⟨hqb _ (nthA_mem (by omega)) (hzs _ (nthA_mem (by omega))), rfl⟩ (hzs _ (nthA_mem (by omega))).1 (hzs _ (nthA_mem (by omega))).2) ok10 ⟨oe rfl rfl, rfl⟩ ⟨rfl, rfl, rfl, rfl⟩ ?_
                    rintro _ _ ⟨vs1, last1, lastr1, put1, hok1, hlr1, _, rfl, rfl⟩
                    refine ⟨_, _, [some ⟨76, 0, [.t (sR 57 vs1), tv (.int .i64 last1), tv (.bool put1)]⟩], rfl, ⟨oe rfl rfl, rfl⟩, ⟨rfl, trivial⟩, ?_⟩; refine df 7 ?_; refine df 8 ?_; refine df 9 ?_
                    refine d_al (key := 2) 10 (by kernel_rfl) rfl rfl ttok rfl ⟨rfl, trivial⟩ ?_
                    refine d_stn 11 (by kernel_rfl) rfl rfl ttok rfl rfl rfl rfl ⟨rfl, trivial⟩ ?_
                    refine d_v 12 (by kernel_rfl) rfl rfl ttok rfl (by trivial) ?_ (fun h => by first | rfl | cases h)
                    refine dz0 ?_; exact ⟨(vs1, last1, lastr1, put1), ⟨hok1, hlr1⟩, su0 h0 [0, 1, 2] _ _ (by decide) ⟨rfl, rfl, rfl, rfl, rfl, rfl, trivial⟩ ⟨oe rfl rfl, oe rfl rfl, oe rfl rfl, rfl⟩⟩
                  ·
                    refine o_al (key := 2) 10 rfl rfl ttok rfl ⟨rfl, trivial⟩ ?_
                    refine WO.one (by kernel_rfl) (oclx 6 3 [0] rfl (l_does (vs := vs) (last := last) (put := put) (a := (nthA zs (k))) (p := (nthA zs (k)).2.2.q) hlr hok (by omega) (by omega) ⟨hqb _ (nthA_mem (by omega)) (hzs _ (nthA_mem (by omega))), rfl⟩ (hzs _ (nthA_mem (by omega))).1 (hzs _ (nthA_mem (by omega))).2) ok10 ⟨oe rfl rfl, rfl⟩ ⟨rfl, rfl, rfl, rfl⟩ ?_)
                    rintro _ _ ⟨vs1, last1, lastr1, put1, hok1, hlr1, _, rfl, rfl⟩
                    refine ⟨_, _, [some ⟨76, 0, [.t (sR 57 vs1), tv (.int .i64 last1), tv (.bool put1)]⟩], rfl, ⟨oe rfl rfl, rfl⟩, ⟨rfl, trivial⟩, ?_⟩; refine df 7 ?_; refine df 8 ?_; refine df 9 ?_
                    refine d_stn 11 (by kernel_rfl) rfl rfl ttok rfl rfl rfl rfl ⟨rfl, trivial⟩ ?_
                    refine d_v 12 (by kernel_rfl) rfl rfl ttok rfl (by trivial) ?_ (fun h => by first | rfl | cases h)
                    refine dz0 ?_; exact ⟨(vs1, last1, lastr1, put1), ⟨hok1, hlr1⟩, su0 h0 [0, 1, 2] _ _ (by decide) ⟨rfl, rfl, rfl, rfl, rfl, rfl, trivial⟩ ⟨oe rfl rfl, oe rfl rfl, oe rfl rfl, rfl⟩⟩
                rintro ⟨vs1, last1, lastr1, put1⟩ ⟨hok1, hlr1⟩; dsimp only at hok1 hlr1 ⊢; refine sq ?_; refine rl ?_; refine ld ?_; refine st ?_; refine nl ?_; refine sq ?_; refine rl ?_
                (iterate 4 refine o1 ?_); refine ld ?_
                refine ca (l_is (vs := vs1) (rest := [.v (.int .i64 last1), .v (.bool put1)]) (n := (k + 20) + 1) (last := lastr1) (was := put1) (B := 100 * (k + 20) + 7 + 2 * (k + 20)) hok1 (by omega) (by omega)) ok11 ⟨a1o rfl (.pe (trs := [sR 57 vs1, .v (.int .i64 last1), .v (.bool put1)]) rfl rfl rfl (by simp only [rdTL, rdT, sR, sV, rd_vo])), a1g rfl, rfl⟩ (.one (tv (.bool true))) ?_
                refine o1 ?_; refine o1 ?_; refine nl ?_; refine cdf rfl ?_; refine sk ?_; refine rl ?_; refine o1 ?_; refine o1 ?_
                refine WL.cast (t := 151) (u' := .int .i64 ((k + 1 : Nat) : Int)) rfl (cint (by omega)) ?_
                refine o1 ?_; refine nl ?_
                exact ⟨(k + 1, vs1, last1, lastr1, put1), by dsimp only; omega, ⟨by dsimp only; omega, by dsimp only; exact hok1.mono (by omega) (by omega), hlr1⟩, su0 h0 [0, 1] _ _ (by decide) ⟨rfl, rfl, rfl, rfl, trivial⟩ ⟨oe rfl rfl, oe rfl rfl, rfl⟩⟩
              ·
                refine ex ?_; refine sq ?_; refine rl ?_; refine ca (l_works) ok8 rfl (.one (tv (.bool true))) ?_; refine o1 ?_; refine nl ?_; refine rt ?_
                exact en (.inl rfl) rfl (pk1 (pkv _)) (by decide) (fun _ => trivial) rfl
    ·
      (iterate 3 refine o1 ?_); (iterate 3 refine no_ ?_); refine o1 ?_; refine nl ?_; refine cdt rfl ?_; refine sq ?_; refine rl ?_; refine ca (l_works) ok8 rfl (.one (tv (.bool true))) ?_
      refine o1 ?_; refine nl ?_; refine rt ?_; exact en (.inl rfl) rfl (pk1 (pkv _)) (by decide) (fun _ => trivial) rfl
  ·
    refine o1 ?_; refine o1 ?_; (iterate 3 refine no_ ?_); refine o1 ?_; refine o1 ?_; (iterate 3 refine no_ ?_); refine o1 ?_; refine nl ?_; refine cdt rfl ?_; refine sq ?_; refine rl ?_
    refine ca (l_works) ok8 rfl (.one (tv (.bool true))) ?_; refine o1 ?_; refine nl ?_; refine rt ?_; exact en (.inl rfl) rfl (pk1 (pkv _)) (by decide) (fun _ => trivial) rfl
end Go.Proofs.YtogaallfhifngaaGreat
