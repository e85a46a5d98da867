/- Part 14 of a proof: D2 to Rim. -/
import Derived.Test.YtofllcodkcjajaaGreatM13
import Derived.Test.YtofllcodkcjajaaGreatM9
import Derived.Test.YtofllcodkcjajaaGreatM5
import Derived.ProofKit
import Derived.ChangeOld
import Derived.Deep.Slices
import Derived.Deep.Strs
import Derived.WalkKit
import Derived.OpenShut
import Derived.Below
import Derived.Carry
import Derived.Test.YtofllcodkcjajaaGreatM12
set_option maxRecDepth 100000
set_option linter.unusedVariables false
set_option linter.unusedSimpArgs false
namespace Go.Proofs.YtofllcodkcjajaaGreat
open Go Go.RowKit
def wkC : Rat := Rat.divInt 3 5
def wk1 : List (Rat × Rat) := [((Rat.divInt (100) 1), (Rat.divInt (0) 1)), ((Rat.divInt (-50) 1), (Rat.divInt (0) 1)), ((Rat.divInt (100) 1), (Rat.divInt (0) 1))]
def wkU1 : List Us := [⟨1, 0, 50, 100, 50⟩]
def wk2 : List (Rat × Rat) := [((Rat.divInt (100) 1), (Rat.divInt (0) 1)), ((Rat.divInt (-80) 1), (Rat.divInt (0) 1)), ((Rat.divInt (30) 1), (Rat.divInt (0) 1)), ((Rat.divInt (100) 1), (Rat.divInt (0) 1))]
def wkU2 : List Us := [⟨1, 0, 60, 100, 40⟩, ⟨1, 2, 18, 30, 12⟩, ⟨1, 3, 2, 100, 98⟩]
def wk3 : List (Rat × Rat) := [((Rat.divInt (-10) 1), (Rat.divInt (0) 1)), ((Rat.divInt (0) 1), (Rat.divInt (0) 1)), ((Rat.divInt (0) 1), (Rat.divInt (0) 1)), ((Rat.divInt (100) 1), (Rat.divInt (0) 1))]
def wkU3 : List Us := []
def wkR (l : List (Rat × Rat)) : List Rw := runR (Fr4.of wkC) ((1 : Nat) : Int) ((2 : Nat) : Int) (frs l)
theorem w_Run {l : List (Rat × Rat)} {U : List Us} (hm : mayQ wkC 1 2 l = true) (hs : ∀ p ∈ l, Sz 4 p.1 ∧ Sz 4 p.2) (hl : l.length < 50) (hU : (mxQ wkC 1 2 l).run l.length = U) : Spec false Tryz.prog 10 [] [.agg (((Fr4.of wkC).tr false ++ [.v (.int .i64 1), .v (.int .i64 2)] : List Tr).map .t), .one (.t (sMy (frs l)))] (Ret (.tup [.agg [.t (sRw true true (wkR l)), .t (sUs true true U)], .one (tv (.int .i64 0))])) := by
 have h := m_RunG (bk := ((1 : Nat) : Int)) (fw := ((2 : Nat) : Int)) (frs_sm (c := wkC) ((by_sz (n := 3) (d := 5) (by omega) (by omega) (by omega) (by omega)).mono (M := 4) (by omega)) hs hl)
 rw [may_q hm, runU_q hm, hU] at h
 exact h
theorem w_Run1 : Spec false Tryz.prog 10 [] [.agg (((Fr4.of wkC).tr false ++ [.v (.int .i64 1), .v (.int .i64 2)] : List Tr).map .t), .one (.t (sMy (frs wk1)))] (Ret (.tup [.agg [.t (sRw true true (wkR wk1)), .t (sUs true true wkU1)], .one (tv (.int .i64 0))])) := w_Run (l := wk1) (U := wkU1) (by decide +kernel) (by simp only [wk1, List.forall_mem_cons]; exact ⟨⟨((by_sz (n := 100) (d := 1) (by omega) (by omega) (by omega) (by omega)).mono (M := 4) (by omega)), ((by_sz (n := 0) (d := 1) (by omega) (by omega) (by omega) (by omega)).mono (M := 4) (by omega))⟩, ⟨((by_sz (n := -50) (d := 1) (by omega) (by omega) (by omega) (by omega)).mono (M := 4) (by omega)), ((by_sz (n := 0) (d := 1) (by omega) (by omega) (by omega) (by omega)).mono (M := 4) (by omega))⟩, ⟨((by_sz (n := 100) (d := 1) (by omega) (by omega) (by omega) (by omega)).mono (M := 4) (by omega)), ((by_sz (n := 0) (d := 1) (by omega) (by omega) (by omega) (by omega)).mono (M := 4) (by omega))⟩, fun _ h => by cases h⟩) (by decide) (by decide +kernel)
theorem w_Run2 : Spec false Tryz.prog 10 [] [.agg (((Fr4.of wkC).tr false ++ [.v (.int .i64 1), .v (.int .i64 2)] : List Tr).map .t), .one (.t (sMy (frs wk2)))] (Ret (.tup [.agg [.t (sRw true true (wkR wk2)), .t (sUs true true wkU2)], .one (tv (.int .i64 0))])) := w_Run (l := wk2) (U := wkU2) (by decide +kernel) (by simp only [wk2, List.forall_mem_cons]; exact ⟨⟨((by_sz (n := 100) (d := 1) (by omega) (by omega) (by omega) (by omega)).mono (M := 4) (by omega)), ((by_sz (n := 0) (d := 1) (by omega) (by omega) (by omega) (by omega)).mono (M := 4) (by omega))⟩, ⟨((by_sz (n := -80) (d := 1) (by omega) (by omega) (by omega) (by omega)).mono (M := 4) (by omega)), ((by_sz (n := 0) (d := 1) (by omega) (by omega) (by omega) (by omega)).mono (M := 4) (by omega))⟩, ⟨((by_sz (n := 30) (d := 1) (by omega) (by omega) (by omega) (by omega)).mono (M := 4) (by omega)), ((by_sz (n := 0) (d := 1) (by omega) (by omega) (by omega) (by omega)).mono (M := 4) (by omega))⟩, ⟨((by_sz (n := 100) (d := 1) (by omega) (by omega) (by omega) (by omega)).mono (M := 4) (by omega)), ((by_sz (n := 0) (d := 1) (by omega) (by omega) (by omega) (by omega)).mono (M := 4) (by omega))⟩, fun _ h => by cases h⟩) (by decide) (by decide +kernel)
theorem w_Run3 : Spec false Tryz.prog 10 [] [.agg (((Fr4.of wkC).tr false ++ [.v (.int .i64 1), .v (.int .i64 2)] : List Tr).map .t), .one (.t (sMy (frs wk3)))] (Ret (.tup [.agg [.t (sRw true true (wkR wk3)), .t (sUs true true wkU3)], .one (tv (.int .i64 0))])) := w_Run (l := wk3) (U := wkU3) (by decide +kernel) (by simp only [wk3, List.forall_mem_cons]; exact ⟨⟨((by_sz (n := -10) (d := 1) (by omega) (by omega) (by omega) (by omega)).mono (M := 4) (by omega)), ((by_sz (n := 0) (d := 1) (by omega) (by omega) (by omega) (by omega)).mono (M := 4) (by omega))⟩, ⟨((by_sz (n := 0) (d := 1) (by omega) (by omega) (by omega) (by omega)).mono (M := 4) (by omega)), ((by_sz (n := 0) (d := 1) (by omega) (by omega) (by omega) (by omega)).mono (M := 4) (by omega))⟩, ⟨((by_sz (n := 0) (d := 1) (by omega) (by omega) (by omega) (by omega)).mono (M := 4) (by omega)), ((by_sz (n := 0) (d := 1) (by omega) (by omega) (by omega) (by omega)).mono (M := 4) (by omega))⟩, ⟨((by_sz (n := 100) (d := 1) (by omega) (by omega) (by omega) (by omega)).mono (M := 4) (by omega)), ((by_sz (n := 0) (d := 1) (by omega) (by omega) (by omega) (by omega)).mono (M := 4) (by omega))⟩, fun _ h => by cases h⟩) (by decide) (by decide +kernel)
theorem wk3_len : (wkR wk3).length = 4 := by
 unfold wkR
 rw [runR_q (by decide +kernel)]
 exact rows_len
theorem wk3_e : (nthR (wkR wk3) 0).e = Rat.divInt 10 1 := by
 unfold wkR
 rw [runR_q (by decide +kernel), rows_nth (by decide)]
 show (mxQ wkC 1 2 wk3).ex wk3.length 0 = _
 decide +kernel
theorem p_SameE {p q : Rat} (hq : Sz 68719476736 q) (h : p = q) : Spec true Tryz.prog 34 [] [qF (.of p), qF (.of q)] (Ret (.one (tv (.bool true)))) := by
 subst h
 have h9 := p_Same (Qn.of hq) (Qn.of hq)
 rwa [decide_eq_true rfl] at h9
theorem l_works : Spec true Tryz.prog 9 [] [] (Ret (.one (tv (.bool true)))) := by
 refine fn0 Tryz.func9 rfl Tryz.ntmps9 rfl ttok rfl fun N w c0 h0 => ?_
 have hu1 : wkU1.length = 1 := rfl
 have hu2 : wkU2.length = 3 := rfl
 have hu3 : wkU3.length = 0 := rfl
 have hr3 := wk3_len
 refine sq ?_; refine rl ?_; refine o1 ?_; refine nl ?_; refine sq ?_; refine rl ?_
 refine ca (f_By (n := 3) (d := 5) (by omega) (by omega) (by omega) (by omega)) ok32 ⟨a1 rfl, a1 rfl, rfl⟩ (qF (.of (Rat.divInt 3 5))) ?_
 refine o1 ?_; refine al 0 ?_; refine st ?_; refine nl ?_
 refine md (γ := Unit) (fun _ => frL [(1, .one (.pt 0 0)), (2, .one (.pt 1 0)), (3, .one (tv (.int .i64 ((0 : Nat) : Int))))]) (fun _ => ([⟨28, 0, ((Fr4.of (Rat.divInt 3 5)).tr false ++ [.v (.int .i64 1), .v (.int .i64 2)] : List Tr).map .t⟩, ⟨35, 0, [.t (.s false 66 24 (wkR wk1).length ((wkR wk1).flatMap (rtr true))), .t (.s false 46 14 wkU1.length (wkU1.flatMap (utr true)))]⟩] : List Ob).map some) (fun _ => True) ?_ fun _ _ => ?_
 ·refine rd [0] (fun i => [11].contains i) mixed ?_
  refine dld 0 ?_; refine WO.two (i := 1) (j := 9) (by kernel_rfl) ?_ ?_
  ·refine oca 1 rfl (l_year (n := 100) (m := 0) (by omega) (by omega) (by omega) (by omega)) ok31 ⟨a1 rfl, a1 rfl, rfl⟩ (.agg ((ytr (Fr4.of (Rat.divInt (100) 1), Fr4.of (Rat.divInt (0) 1))).map .t)) ?_
   refine WO.two (i := 2) (j := 9) (by kernel_rfl) ?_ ?_
   ·refine oca 2 rfl (l_year (n := -50) (m := 0) (by omega) (by omega) (by omega) (by omega)) ok31 ⟨a1 rfl, a1 rfl, rfl⟩ (.agg ((ytr (Fr4.of (Rat.divInt (-50) 1), Fr4.of (Rat.divInt (0) 1))).map .t)) ?_
    refine WO.two (i := 3) (j := 9) (by kernel_rfl) ?_ ?_
    ·refine oca 3 rfl (l_year (n := 100) (m := 0) (by omega) (by omega) (by omega) (by omega)) ok31 ⟨a1 rfl, a1 rfl, rfl⟩ (.agg ((ytr (Fr4.of (Rat.divInt (100) 1), Fr4.of (Rat.divInt (0) 1))).map .t)) ?_
     refine WO.two (i := 4) (j := 9) (by kernel_rfl) ?_ ?_
     ·refine o_bs (key := 1) 4 rfl rfl ⟨rfl, trivial⟩ ?_
      refine dfz (i := 15) (k := 1) (t := 70) (t' := 70) (z := 8) (n := 3) (l := (frs wk1).flatMap ytr) rfl rfl rfl rfl (.one .sl) (by rfl) (by rfl) ?_
      refine WO.two (i := 5) (j := 9) (by kernel_rfl) ?_ ?_
      ·refine oca 5 rfl w_Run1 ok10 ⟨a1g rfl, a1 rfl, rfl⟩ (.tup [.agg [.t (.s false 66 24 (wkR wk1).length ((wkR wk1).flatMap (rtr true))), .t (.s false 46 14 wkU1.length (wkU1.flatMap (utr true)))], .one (tv (.int .i64 0))]) ?_
       refine df 6 ?_; refine df 7 ?_; refine df 8 ?_; refine d_al (key := 2) 9 (by kernel_rfl) rfl rfl ttok rfl ⟨rfl, trivial⟩ ?_
       refine d_stn 10 (by kernel_rfl) rfl rfl ttok rfl rfl rfl rfl ⟨rfl, trivial⟩ ?_
       refine d_v 11 (by kernel_rfl) rfl rfl ttok rfl (by trivial) ?_ (fun h => by first | rfl | cases h)
       refine dz0 ?_; exact ⟨(), trivial, su0 h0 [0, 2] _ _ (by decide) ⟨rfl, rfl, rfl, trivial⟩ ⟨oe rfl rfl, oe rfl rfl, rfl⟩⟩
      refine o_al (key := 2) 9 rfl rfl ttok rfl ⟨rfl, trivial⟩ ?_
      refine dca 5 rfl w_Run1 ok10 ⟨a1g rfl, a1 rfl, rfl⟩ (.tup [.agg [.t (.s false 66 24 (wkR wk1).length ((wkR wk1).flatMap (rtr true))), .t (.s false 46 14 wkU1.length (wkU1.flatMap (utr true)))], .one (tv (.int .i64 0))]) ?_
      refine df 6 ?_; refine df 7 ?_; refine df 8 ?_; refine d_stn 10 (by kernel_rfl) rfl rfl ttok rfl rfl rfl rfl ⟨rfl, trivial⟩ ?_
      refine d_v 11 (by kernel_rfl) rfl rfl ttok rfl (by trivial) ?_ (fun h => by first | rfl | cases h)
      refine dz0 ?_; exact ⟨(), trivial, su0 h0 [0, 2] _ _ (by decide) ⟨rfl, rfl, rfl, trivial⟩ ⟨oe rfl rfl, oe rfl rfl, rfl⟩⟩
     refine o_al (key := 1) 9 rfl rfl ttok rfl ⟨rfl, trivial⟩ ?_; refine d_bs (key := 2) 4 (by kernel_rfl) rfl rfl ttok rfl ⟨rfl, trivial⟩ ?_
     refine dfz (i := 15) (k := 2) (t := 70) (t' := 70) (z := 8) (n := 3) (l := (frs wk1).flatMap ytr) rfl rfl rfl rfl (.one .sl) (by rfl) (by rfl) ?_
     refine dca 5 rfl w_Run1 ok10 ⟨a1g rfl, a1 rfl, rfl⟩ (.tup [.agg [.t (.s false 66 24 (wkR wk1).length ((wkR wk1).flatMap (rtr true))), .t (.s false 46 14 wkU1.length (wkU1.flatMap (utr true)))], .one (tv (.int .i64 0))]) ?_
     refine df 6 ?_; refine df 7 ?_; refine df 8 ?_; refine d_stn 10 (by kernel_rfl) rfl rfl ttok rfl rfl rfl rfl ⟨rfl, trivial⟩ ?_
     refine d_v 11 (by kernel_rfl) rfl rfl ttok rfl (by trivial) ?_ (fun h => by first | rfl | cases h)
     refine dz0 ?_; exact ⟨(), trivial, su0 h0 [0, 1] _ _ (by decide) ⟨rfl, rfl, rfl, trivial⟩ ⟨oe rfl rfl, oe rfl rfl, rfl⟩⟩
    refine o_al (key := 1) 9 rfl rfl ttok rfl ⟨rfl, trivial⟩ ?_
    refine dca 3 rfl (l_year (n := 100) (m := 0) (by omega) (by omega) (by omega) (by omega)) ok31 ⟨a1 rfl, a1 rfl, rfl⟩ (.agg ((ytr (Fr4.of (Rat.divInt (100) 1), Fr4.of (Rat.divInt (0) 1))).map .t)) ?_
    refine d_bs (key := 2) 4 (by kernel_rfl) rfl rfl ttok rfl ⟨rfl, trivial⟩ ?_
    refine dfz (i := 15) (k := 2) (t := 70) (t' := 70) (z := 8) (n := 3) (l := (frs wk1).flatMap ytr) rfl rfl rfl rfl (.one .sl) (by rfl) (by rfl) ?_
    refine dca 5 rfl w_Run1 ok10 ⟨a1g rfl, a1 rfl, rfl⟩ (.tup [.agg [.t (.s false 66 24 (wkR wk1).length ((wkR wk1).flatMap (rtr true))), .t (.s false 46 14 wkU1.length (wkU1.flatMap (utr true)))], .one (tv (.int .i64 0))]) ?_
    refine df 6 ?_; refine df 7 ?_; refine df 8 ?_; refine d_stn 10 (by kernel_rfl) rfl rfl ttok rfl rfl rfl rfl ⟨rfl, trivial⟩ ?_
    refine d_v 11 (by kernel_rfl) rfl rfl ttok rfl (by trivial) ?_ (fun h => by first | rfl | cases h)
    refine dz0 ?_; exact ⟨(), trivial, su0 h0 [0, 1] _ _ (by decide) ⟨rfl, rfl, rfl, trivial⟩ ⟨oe rfl rfl, oe rfl rfl, rfl⟩⟩
   refine o_al (key := 1) 9 rfl rfl ttok rfl ⟨rfl, trivial⟩ ?_
   refine dca 2 rfl (l_year (n := -50) (m := 0) (by omega) (by omega) (by omega) (by omega)) ok31 ⟨a1 rfl, a1 rfl, rfl⟩ (.agg ((ytr (Fr4.of (Rat.divInt (-50) 1), Fr4.of (Rat.divInt (0) 1))).map .t)) ?_
   refine dca 3 rfl (l_year (n := 100) (m := 0) (by omega) (by omega) (by omega) (by omega)) ok31 ⟨a1 rfl, a1 rfl, rfl⟩ (.agg ((ytr (Fr4.of (Rat.divInt (100) 1), Fr4.of (Rat.divInt (0) 1))).map .t)) ?_
   refine d_bs (key := 2) 4 (by kernel_rfl) rfl rfl ttok rfl ⟨rfl, trivial⟩ ?_
   refine dfz (i := 15) (k := 2) (t := 70) (t' := 70) (z := 8) (n := 3) (l := (frs wk1).flatMap ytr) rfl rfl rfl rfl (.one .sl) (by rfl) (by rfl) ?_
   refine dca 5 rfl w_Run1 ok10 ⟨a1g rfl, a1 rfl, rfl⟩ (.tup [.agg [.t (.s false 66 24 (wkR wk1).length ((wkR wk1).flatMap (rtr true))), .t (.s false 46 14 wkU1.length (wkU1.flatMap (utr true)))], .one (tv (.int .i64 0))]) ?_
   refine df 6 ?_; refine df 7 ?_; refine df 8 ?_; refine d_stn 10 (by kernel_rfl) rfl rfl ttok rfl rfl rfl rfl ⟨rfl, trivial⟩ ?_
   refine d_v 11 (by kernel_rfl) rfl rfl ttok rfl (by trivial) ?_ (fun h => by first | rfl | cases h)
   refine dz0 ?_; exact ⟨(), trivial, su0 h0 [0, 1] _ _ (by decide) ⟨rfl, rfl, rfl, trivial⟩ ⟨oe rfl rfl, oe rfl rfl, rfl⟩⟩
  refine o_al (key := 1) 9 rfl rfl ttok rfl ⟨rfl, trivial⟩ ?_
  refine dca 1 rfl (l_year (n := 100) (m := 0) (by omega) (by omega) (by omega) (by omega)) ok31 ⟨a1 rfl, a1 rfl, rfl⟩ (.agg ((ytr (Fr4.of (Rat.divInt (100) 1), Fr4.of (Rat.divInt (0) 1))).map .t)) ?_
  refine dca 2 rfl (l_year (n := -50) (m := 0) (by omega) (by omega) (by omega) (by omega)) ok31 ⟨a1 rfl, a1 rfl, rfl⟩ (.agg ((ytr (Fr4.of (Rat.divInt (-50) 1), Fr4.of (Rat.divInt (0) 1))).map .t)) ?_
  refine dca 3 rfl (l_year (n := 100) (m := 0) (by omega) (by omega) (by omega) (by omega)) ok31 ⟨a1 rfl, a1 rfl, rfl⟩ (.agg ((ytr (Fr4.of (Rat.divInt (100) 1), Fr4.of (Rat.divInt (0) 1))).map .t)) ?_
  refine d_bs (key := 2) 4 (by kernel_rfl) rfl rfl ttok rfl ⟨rfl, trivial⟩ ?_
  refine dfz (i := 15) (k := 2) (t := 70) (t' := 70) (z := 8) (n := 3) (l := (frs wk1).flatMap ytr) rfl rfl rfl rfl (.one .sl) (by rfl) (by rfl) ?_
  refine dca 5 rfl w_Run1 ok10 ⟨a1g rfl, a1 rfl, rfl⟩ (.tup [.agg [.t (.s false 66 24 (wkR wk1).length ((wkR wk1).flatMap (rtr true))), .t (.s false 46 14 wkU1.length (wkU1.flatMap (utr true)))], .one (tv (.int .i64 0))]) ?_
  refine df 6 ?_; refine df 7 ?_; refine df 8 ?_; refine d_stn 10 (by kernel_rfl) rfl rfl ttok rfl rfl rfl rfl ⟨rfl, trivial⟩ ?_
  refine d_v 11 (by kernel_rfl) rfl rfl ttok rfl (by trivial) ?_ (fun h => by first | rfl | cases h)
  refine dz0 ?_; exact ⟨(), trivial, su0 h0 [0, 1] _ _ (by decide) ⟨rfl, rfl, rfl, trivial⟩ ⟨oe rfl rfl, oe rfl rfl, rfl⟩⟩
 refine md (γ := Unit) (fun _ => frL [(1, .one (.pt 0 0)), (2, .one (.pt 1 0)), (3, .one (tv (.int .i64 ((0 : Nat) : Int)))), (4, .one (.pt 2 0))]) (fun _ => ([⟨28, 0, ((Fr4.of (Rat.divInt 3 5)).tr false ++ [.v (.int .i64 1), .v (.int .i64 2)] : List Tr).map .t⟩, ⟨35, 0, [.t (sRw false false (wkR wk1)), .t (sUs false false wkU1)]⟩, ⟨35, 0, [.t (.s false 66 24 (wkR wk2).length ((wkR wk2).flatMap (rtr true))), .t (.s false 46 14 wkU2.length (wkU2.flatMap (utr true)))]⟩] : List Ob).map some) (fun _ => True) ?_ fun _ _ => ?_
 ·refine WP.sub ((rdO (j := 1) (p := 0) (y := .s false 66 24 (wkR wk1).length ((wkR wk1).flatMap (rtr true))) (l' := [.t (sRw false false (wkR wk1)), .t (.s false 46 14 wkU1.length (wkU1.flatMap (utr true)))]) rfl rfl rfl (by rw [rdT, rd_rw]; rfl)).trans (rdO (j := 1) (p := 1) (y := .s false 46 14 wkU1.length (wkU1.flatMap (utr true))) (l' := [.t (sRw false false (wkR wk1)), .t (sUs false false wkU1)]) rfl rfl rfl (by rw [rdT, rd_us]; rfl))) ?_
  refine rd [0, 1] (fun i => [12].contains i) mixed ?_
  refine dld 0 ?_; refine WO.two (i := 1) (j := 10) (by kernel_rfl) ?_ ?_
  ·refine oca 1 rfl (l_year (n := 100) (m := 0) (by omega) (by omega) (by omega) (by omega)) ok31 ⟨a1 rfl, a1 rfl, rfl⟩ (.agg ((ytr (Fr4.of (Rat.divInt (100) 1), Fr4.of (Rat.divInt (0) 1))).map .t)) ?_
   refine WO.two (i := 2) (j := 10) (by kernel_rfl) ?_ ?_
   ·refine oca 2 rfl (l_year (n := -80) (m := 0) (by omega) (by omega) (by omega) (by omega)) ok31 ⟨a1 rfl, a1 rfl, rfl⟩ (.agg ((ytr (Fr4.of (Rat.divInt (-80) 1), Fr4.of (Rat.divInt (0) 1))).map .t)) ?_
    refine WO.two (i := 3) (j := 10) (by kernel_rfl) ?_ ?_
    ·refine oca 3 rfl (l_year (n := 30) (m := 0) (by omega) (by omega) (by omega) (by omega)) ok31 ⟨a1 rfl, a1 rfl, rfl⟩ (.agg ((ytr (Fr4.of (Rat.divInt (30) 1), Fr4.of (Rat.divInt (0) 1))).map .t)) ?_
     refine WO.two (i := 4) (j := 10) (by kernel_rfl) ?_ ?_
     ·refine oca 4 rfl (l_year (n := 100) (m := 0) (by omega) (by omega) (by omega) (by omega)) ok31 ⟨a1 rfl, a1 rfl, rfl⟩ (.agg ((ytr (Fr4.of (Rat.divInt (100) 1), Fr4.of (Rat.divInt (0) 1))).map .t)) ?_
      refine WO.two (i := 5) (j := 10) (by kernel_rfl) ?_ ?_
      ·refine o_bs (key := 2) 5 rfl rfl ⟨rfl, rfl, trivial⟩ ?_
       refine dfz (i := 25) (k := 2) (t := 70) (t' := 70) (z := 8) (n := 4) (l := (frs wk2).flatMap ytr) rfl rfl rfl rfl (.one .sl) (by rfl) (by rfl) ?_
       refine WO.two (i := 6) (j := 10) (by kernel_rfl) ?_ ?_
       ·refine oca 6 rfl w_Run2 ok10 ⟨a1g rfl, a1 rfl, rfl⟩ (.tup [.agg [.t (.s false 66 24 (wkR wk2).length ((wkR wk2).flatMap (rtr true))), .t (.s false 46 14 wkU2.length (wkU2.flatMap (utr true)))], .one (tv (.int .i64 0))]) ?_
        refine df 7 ?_; refine df 8 ?_; refine df 9 ?_; refine d_al (key := 3) 10 (by kernel_rfl) rfl rfl ttok rfl ⟨rfl, rfl, trivial⟩ ?_
        refine d_stn 11 (by kernel_rfl) rfl rfl ttok rfl rfl rfl rfl ⟨rfl, rfl, trivial⟩ ?_
        refine d_v 12 (by kernel_rfl) rfl rfl ttok rfl (by trivial) ?_ (fun h => by first | rfl | cases h)
        refine dz0 ?_; exact ⟨(), trivial, su0 h0 [0, 1, 3] _ _ (by decide) ⟨rfl, rfl, rfl, rfl, trivial⟩ ⟨oe rfl rfl, oe rfl rfl, oe rfl rfl, rfl⟩⟩
       refine o_al (key := 3) 10 rfl rfl ttok rfl ⟨rfl, rfl, trivial⟩ ?_
       refine dca 6 rfl w_Run2 ok10 ⟨a1g rfl, a1 rfl, rfl⟩ (.tup [.agg [.t (.s false 66 24 (wkR wk2).length ((wkR wk2).flatMap (rtr true))), .t (.s false 46 14 wkU2.length (wkU2.flatMap (utr true)))], .one (tv (.int .i64 0))]) ?_
       refine df 7 ?_; refine df 8 ?_; refine df 9 ?_; refine d_stn 11 (by kernel_rfl) rfl rfl ttok rfl rfl rfl rfl ⟨rfl, rfl, trivial⟩ ?_
       refine d_v 12 (by kernel_rfl) rfl rfl ttok rfl (by trivial) ?_ (fun h => by first | rfl | cases h)
       refine dz0 ?_; exact ⟨(), trivial, su0 h0 [0, 1, 3] _ _ (by decide) ⟨rfl, rfl, rfl, rfl, trivial⟩ ⟨oe rfl rfl, oe rfl rfl, oe rfl rfl, rfl⟩⟩
      refine o_al (key := 2) 10 rfl rfl ttok rfl ⟨rfl, rfl, trivial⟩ ?_; refine d_bs (key := 3) 5 (by kernel_rfl) rfl rfl ttok rfl ⟨rfl, rfl, trivial⟩ ?_
      refine dfz (i := 25) (k := 3) (t := 70) (t' := 70) (z := 8) (n := 4) (l := (frs wk2).flatMap ytr) rfl rfl rfl rfl (.one .sl) (by rfl) (by rfl) ?_
      refine dca 6 rfl w_Run2 ok10 ⟨a1g rfl, a1 rfl, rfl⟩ (.tup [.agg [.t (.s false 66 24 (wkR wk2).length ((wkR wk2).flatMap (rtr true))), .t (.s false 46 14 wkU2.length (wkU2.flatMap (utr true)))], .one (tv (.int .i64 0))]) ?_
      refine df 7 ?_; refine df 8 ?_; refine df 9 ?_; refine d_stn 11 (by kernel_rfl) rfl rfl ttok rfl rfl rfl rfl ⟨rfl, rfl, trivial⟩ ?_
      refine d_v 12 (by kernel_rfl) rfl rfl ttok rfl (by trivial) ?_ (fun h => by first | rfl | cases h)
      refine dz0 ?_; exact ⟨(), trivial, su0 h0 [0, 1, 2] _ _ (by decide) ⟨rfl, rfl, rfl, rfl, trivial⟩ ⟨oe rfl rfl, oe rfl rfl, oe rfl rfl, rfl⟩⟩
     refine o_al (key := 2) 10 rfl rfl ttok rfl ⟨rfl, rfl, trivial⟩ ?_
     refine dca 4 rfl (l_year (n := 100) (m := 0) (by omega) (by omega) (by omega) (by omega)) ok31 ⟨a1 rfl, a1 rfl, rfl⟩ (.agg ((ytr (Fr4.of (Rat.divInt (100) 1), Fr4.of (Rat.divInt (0) 1))).map .t)) ?_
     refine d_bs (key := 3) 5 (by kernel_rfl) rfl rfl ttok rfl ⟨rfl, rfl, trivial⟩ ?_
     refine dfz (i := 25) (k := 3) (t := 70) (t' := 70) (z := 8) (n := 4) (l := (frs wk2).flatMap ytr) rfl rfl rfl rfl (.one .sl) (by rfl) (by rfl) ?_
     refine dca 6 rfl w_Run2 ok10 ⟨a1g rfl, a1 rfl, rfl⟩ (.tup [.agg [.t (.s false 66 24 (wkR wk2).length ((wkR wk2).flatMap (rtr true))), .t (.s false 46 14 wkU2.length (wkU2.flatMap (utr true)))], .one (tv (.int .i64 0))]) ?_
     refine df 7 ?_; refine df 8 ?_; refine df 9 ?_; refine d_stn 11 (by kernel_rfl) rfl rfl ttok rfl rfl rfl rfl ⟨rfl, rfl, trivial⟩ ?_
     refine d_v 12 (by kernel_rfl) rfl rfl ttok rfl (by trivial) ?_ (fun h => by first | rfl | cases h)
     refine dz0 ?_; exact ⟨(), trivial, su0 h0 [0, 1, 2] _ _ (by decide) ⟨rfl, rfl, rfl, rfl, trivial⟩ ⟨oe rfl rfl, oe rfl rfl, oe rfl rfl, rfl⟩⟩
    refine o_al (key := 2) 10 rfl rfl ttok rfl ⟨rfl, rfl, trivial⟩ ?_
    refine dca 3 rfl (l_year (n := 30) (m := 0) (by omega) (by omega) (by omega) (by omega)) ok31 ⟨a1 rfl, a1 rfl, rfl⟩ (.agg ((ytr (Fr4.of (Rat.divInt (30) 1), Fr4.of (Rat.divInt (0) 1))).map .t)) ?_
    refine dca 4 rfl (l_year (n := 100) (m := 0) (by omega) (by omega) (by omega) (by omega)) ok31 ⟨a1 rfl, a1 rfl, rfl⟩ (.agg ((ytr (Fr4.of (Rat.divInt (100) 1), Fr4.of (Rat.divInt (0) 1))).map .t)) ?_
    refine d_bs (key := 3) 5 (by kernel_rfl) rfl rfl ttok rfl ⟨rfl, rfl, trivial⟩ ?_
    refine dfz (i := 25) (k := 3) (t := 70) (t' := 70) (z := 8) (n := 4) (l := (frs wk2).flatMap ytr) rfl rfl rfl rfl (.one .sl) (by rfl) (by rfl) ?_
    refine dca 6 rfl w_Run2 ok10 ⟨a1g rfl, a1 rfl, rfl⟩ (.tup [.agg [.t (.s false 66 24 (wkR wk2).length ((wkR wk2).flatMap (rtr true))), .t (.s false 46 14 wkU2.length (wkU2.flatMap (utr true)))], .one (tv (.int .i64 0))]) ?_
    refine df 7 ?_; refine df 8 ?_; refine df 9 ?_; refine d_stn 11 (by kernel_rfl) rfl rfl ttok rfl rfl rfl rfl ⟨rfl, rfl, trivial⟩ ?_
    refine d_v 12 (by kernel_rfl) rfl rfl ttok rfl (by trivial) ?_ (fun h => by first | rfl | cases h)
    refine dz0 ?_; exact ⟨(), trivial, su0 h0 [0, 1, 2] _ _ (by decide) ⟨rfl, rfl, rfl, rfl, trivial⟩ ⟨oe rfl rfl, oe rfl rfl, oe rfl rfl, rfl⟩⟩
   refine o_al (key := 2) 10 rfl rfl ttok rfl ⟨rfl, rfl, trivial⟩ ?_
   refine dca 2 rfl (l_year (n := -80) (m := 0) (by omega) (by omega) (by omega) (by omega)) ok31 ⟨a1 rfl, a1 rfl, rfl⟩ (.agg ((ytr (Fr4.of (Rat.divInt (-80) 1), Fr4.of (Rat.divInt (0) 1))).map .t)) ?_
   refine dca 3 rfl (l_year (n := 30) (m := 0) (by omega) (by omega) (by omega) (by omega)) ok31 ⟨a1 rfl, a1 rfl, rfl⟩ (.agg ((ytr (Fr4.of (Rat.divInt (30) 1), Fr4.of (Rat.divInt (0) 1))).map .t)) ?_
   refine dca 4 rfl (l_year (n := 100) (m := 0) (by omega) (by omega) (by omega) (by omega)) ok31 ⟨a1 rfl, a1 rfl, rfl⟩ (.agg ((ytr (Fr4.of (Rat.divInt (100) 1), Fr4.of (Rat.divInt (0) 1))).map .t)) ?_
   refine d_bs (key := 3) 5 (by kernel_rfl) rfl rfl ttok rfl ⟨rfl, rfl, trivial⟩ ?_
   refine dfz (i := 25) (k := 3) (t := 70) (t' := 70) (z := 8) (n := 4) (l := (frs wk2).flatMap ytr) rfl rfl rfl rfl (.one .sl) (by rfl) (by rfl) ?_
   refine dca 6 rfl w_Run2 ok10 ⟨a1g rfl, a1 rfl, rfl⟩ (.tup [.agg [.t (.s false 66 24 (wkR wk2).length ((wkR wk2).flatMap (rtr true))), .t (.s false 46 14 wkU2.length (wkU2.flatMap (utr true)))], .one (tv (.int .i64 0))]) ?_
   refine df 7 ?_; refine df 8 ?_; refine df 9 ?_; refine d_stn 11 (by kernel_rfl) rfl rfl ttok rfl rfl rfl rfl ⟨rfl, rfl, trivial⟩ ?_
   refine d_v 12 (by kernel_rfl) rfl rfl ttok rfl (by trivial) ?_ (fun h => by first | rfl | cases h)
   refine dz0 ?_; exact ⟨(), trivial, su0 h0 [0, 1, 2] _ _ (by decide) ⟨rfl, rfl, rfl, rfl, trivial⟩ ⟨oe rfl rfl, oe rfl rfl, oe rfl rfl, rfl⟩⟩
  refine o_al (key := 2) 10 rfl rfl ttok rfl ⟨rfl, rfl, trivial⟩ ?_
  refine dca 1 rfl (l_year (n := 100) (m := 0) (by omega) (by omega) (by omega) (by omega)) ok31 ⟨a1 rfl, a1 rfl, rfl⟩ (.agg ((ytr (Fr4.of (Rat.divInt (100) 1), Fr4.of (Rat.divInt (0) 1))).map .t)) ?_
  refine dca 2 rfl (l_year (n := -80) (m := 0) (by omega) (by omega) (by omega) (by omega)) ok31 ⟨a1 rfl, a1 rfl, rfl⟩ (.agg ((ytr (Fr4.of (Rat.divInt (-80) 1), Fr4.of (Rat.divInt (0) 1))).map .t)) ?_
  refine dca 3 rfl (l_year (n := 30) (m := 0) (by omega) (by omega) (by omega) (by omega)) ok31 ⟨a1 rfl, a1 rfl, rfl⟩ (.agg ((ytr (Fr4.of (Rat.divInt (30) 1), Fr4.of (Rat.divInt (0) 1))).map .t)) ?_
  refine dca 4 rfl (l_year (n := 100) (m := 0) (by omega) (by omega) (by omega) (by omega)) ok31 ⟨a1 rfl, a1 rfl, rfl⟩ (.agg ((ytr (Fr4.of (Rat.divInt (100) 1), Fr4.of (Rat.divInt (0) 1))).map .t)) ?_
  refine d_bs (key := 3) 5 (by kernel_rfl) rfl rfl ttok rfl ⟨rfl, rfl, trivial⟩ ?_
  refine dfz (i := 25) (k := 3) (t := 70) (t' := 70) (z := 8) (n := 4) (l := (frs wk2).flatMap ytr) rfl rfl rfl rfl (.one .sl) (by rfl) (by rfl) ?_
  refine dca 6 rfl w_Run2 ok10 ⟨a1g rfl, a1 rfl, rfl⟩ (.tup [.agg [.t (.s false 66 24 (wkR wk2).length ((wkR wk2).flatMap (rtr true))), .t (.s false 46 14 wkU2.length (wkU2.flatMap (utr true)))], .one (tv (.int .i64 0))]) ?_
  refine df 7 ?_; refine df 8 ?_; refine df 9 ?_; refine d_stn 11 (by kernel_rfl) rfl rfl ttok rfl rfl rfl rfl ⟨rfl, rfl, trivial⟩ ?_
  refine d_v 12 (by kernel_rfl) rfl rfl ttok rfl (by trivial) ?_ (fun h => by first | rfl | cases h)
  refine dz0 ?_; exact ⟨(), trivial, su0 h0 [0, 1, 2] _ _ (by decide) ⟨rfl, rfl, rfl, rfl, trivial⟩ ⟨oe rfl rfl, oe rfl rfl, oe rfl rfl, rfl⟩⟩
 refine md (γ := Unit) (fun _ => frL [(1, .one (.pt 0 0)), (2, .one (.pt 1 0)), (3, .one (tv (.int .i64 ((0 : Nat) : Int)))), (4, .one (.pt 2 0)), (6, .one (.pt 3 0))]) (fun _ => ([⟨28, 0, ((Fr4.of (Rat.divInt 3 5)).tr false ++ [.v (.int .i64 1), .v (.int .i64 2)] : List Tr).map .t⟩, ⟨35, 0, [.t (sRw false false (wkR wk1)), .t (sUs false false wkU1)]⟩, ⟨35, 0, [.t (sRw false false (wkR wk2)), .t (sUs false false wkU2)]⟩, ⟨35, 0, [.t (.s false 66 24 (wkR wk3).length ((wkR wk3).flatMap (rtr true))), .t (.s false 46 14 wkU3.length (wkU3.flatMap (utr true)))]⟩] : List Ob).map some) (fun _ => True) ?_ fun _ _ => ?_
 ·refine WP.sub ((rdO (j := 2) (p := 0) (y := .s false 66 24 (wkR wk2).length ((wkR wk2).flatMap (rtr true))) (l' := [.t (sRw false false (wkR wk2)), .t (.s false 46 14 wkU2.length (wkU2.flatMap (utr true)))]) rfl rfl rfl (by rw [rdT, rd_rw]; rfl)).trans (rdO (j := 2) (p := 1) (y := .s false 46 14 wkU2.length (wkU2.flatMap (utr true))) (l' := [.t (sRw false false (wkR wk2)), .t (sUs false false wkU2)]) rfl rfl rfl (by rw [rdT, rd_us]; rfl))) ?_
  refine rd [0, 1, 2] (fun i => [12].contains i) mixed ?_
  refine dld 0 ?_; refine WO.two (i := 1) (j := 10) (by kernel_rfl) ?_ ?_
  ·refine oca 1 rfl (l_year (n := -10) (m := 0) (by omega) (by omega) (by omega) (by omega)) ok31 ⟨a1 rfl, a1 rfl, rfl⟩ (.agg ((ytr (Fr4.of (Rat.divInt (-10) 1), Fr4.of (Rat.divInt (0) 1))).map .t)) ?_
   refine WO.two (i := 2) (j := 10) (by kernel_rfl) ?_ ?_
   ·refine oca 2 rfl (l_year (n := 0) (m := 0) (by omega) (by omega) (by omega) (by omega)) ok31 ⟨a1 rfl, a1 rfl, rfl⟩ (.agg ((ytr (Fr4.of (Rat.divInt (0) 1), Fr4.of (Rat.divInt (0) 1))).map .t)) ?_
    refine WO.two (i := 3) (j := 10) (by kernel_rfl) ?_ ?_
    ·refine oca 3 rfl (l_year (n := 0) (m := 0) (by omega) (by omega) (by omega) (by omega)) ok31 ⟨a1 rfl, a1 rfl, rfl⟩ (.agg ((ytr (Fr4.of (Rat.divInt (0) 1), Fr4.of (Rat.divInt (0) 1))).map .t)) ?_
     refine WO.two (i := 4) (j := 10) (by kernel_rfl) ?_ ?_
     ·refine oca 4 rfl (l_year (n := 100) (m := 0) (by omega) (by omega) (by omega) (by omega)) ok31 ⟨a1 rfl, a1 rfl, rfl⟩ (.agg ((ytr (Fr4.of (Rat.divInt (100) 1), Fr4.of (Rat.divInt (0) 1))).map .t)) ?_
      refine WO.two (i := 5) (j := 10) (by kernel_rfl) ?_ ?_
      ·refine o_bs (key := 3) 5 rfl rfl ⟨rfl, rfl, rfl, trivial⟩ ?_
       refine dfz (i := 35) (k := 3) (t := 70) (t' := 70) (z := 8) (n := 4) (l := (frs wk3).flatMap ytr) rfl rfl rfl rfl (.one .sl) (by rfl) (by rfl) ?_
       refine WO.two (i := 6) (j := 10) (by kernel_rfl) ?_ ?_
       ·refine oca 6 rfl w_Run3 ok10 ⟨a1g rfl, a1 rfl, rfl⟩ (.tup [.agg [.t (.s false 66 24 (wkR wk3).length ((wkR wk3).flatMap (rtr true))), .t (.s false 46 14 wkU3.length (wkU3.flatMap (utr true)))], .one (tv (.int .i64 0))]) ?_
        refine df 7 ?_; refine df 8 ?_; refine df 9 ?_; refine d_al (key := 4) 10 (by kernel_rfl) rfl rfl ttok rfl ⟨rfl, rfl, rfl, trivial⟩ ?_
        refine d_stn 11 (by kernel_rfl) rfl rfl ttok rfl rfl rfl rfl ⟨rfl, rfl, rfl, trivial⟩ ?_
        refine d_v 12 (by kernel_rfl) rfl rfl ttok rfl (by trivial) ?_ (fun h => by first | rfl | cases h)
        refine dz0 ?_; exact ⟨(), trivial, su0 h0 [0, 1, 2, 4] _ _ (by decide) ⟨rfl, rfl, rfl, rfl, rfl, trivial⟩ ⟨oe rfl rfl, oe rfl rfl, oe rfl rfl, oe rfl rfl, rfl⟩⟩
       refine o_al (key := 4) 10 rfl rfl ttok rfl ⟨rfl, rfl, rfl, trivial⟩ ?_
       refine dca 6 rfl w_Run3 ok10 ⟨a1g rfl, a1 rfl, rfl⟩ (.tup [.agg [.t (.s false 66 24 (wkR wk3).length ((wkR wk3).flatMap (rtr true))), .t (.s false 46 14 wkU3.length (wkU3.flatMap (utr true)))], .one (tv (.int .i64 0))]) ?_
       refine df 7 ?_; refine df 8 ?_; refine df 9 ?_; refine d_stn 11 (by kernel_rfl) rfl rfl ttok rfl rfl rfl rfl ⟨rfl, rfl, rfl, trivial⟩ ?_
       refine d_v 12 (by kernel_rfl) rfl rfl ttok rfl (by trivial) ?_ (fun h => by first | rfl | cases h)
       refine dz0 ?_; exact ⟨(), trivial, su0 h0 [0, 1, 2, 4] _ _ (by decide) ⟨rfl, rfl, rfl, rfl, rfl, trivial⟩ ⟨oe rfl rfl, oe rfl rfl, oe rfl rfl, oe rfl rfl, rfl⟩⟩
      refine o_al (key := 3) 10 rfl rfl ttok rfl ⟨rfl, rfl, rfl, trivial⟩ ?_; refine d_bs (key := 4) 5 (by kernel_rfl) rfl rfl ttok rfl ⟨rfl, rfl, rfl, trivial⟩ ?_
      refine dfz (i := 35) (k := 4) (t := 70) (t' := 70) (z := 8) (n := 4) (l := (frs wk3).flatMap ytr) rfl rfl rfl rfl (.one .sl) (by rfl) (by rfl) ?_
      refine dca 6 rfl w_Run3 ok10 ⟨a1g rfl, a1 rfl, rfl⟩ (.tup [.agg [.t (.s false 66 24 (wkR wk3).length ((wkR wk3).flatMap (rtr true))), .t (.s false 46 14 wkU3.length (wkU3.flatMap (utr true)))], .one (tv (.int .i64 0))]) ?_
      refine df 7 ?_; refine df 8 ?_; refine df 9 ?_; refine d_stn 11 (by kernel_rfl) rfl rfl ttok rfl rfl rfl rfl ⟨rfl, rfl, rfl, trivial⟩ ?_
      refine d_v 12 (by kernel_rfl) rfl rfl ttok rfl (by trivial) ?_ (fun h => by first | rfl | cases h)
      refine dz0 ?_; exact ⟨(), trivial, su0 h0 [0, 1, 2, 3] _ _ (by decide) ⟨rfl, rfl, rfl, rfl, rfl, trivial⟩ ⟨oe rfl rfl, oe rfl rfl, oe rfl rfl, oe rfl rfl, rfl⟩⟩
     refine o_al (key := 3) 10 rfl rfl ttok rfl ⟨rfl, rfl, rfl, trivial⟩ ?_
     refine dca 4 rfl (l_year (n := 100) (m := 0) (by omega) (by omega) (by omega) (by omega)) ok31 ⟨a1 rfl, a1 rfl, rfl⟩ (.agg ((ytr (Fr4.of (Rat.divInt (100) 1), Fr4.of (Rat.divInt (0) 1))).map .t)) ?_
     refine d_bs (key := 4) 5 (by kernel_rfl) rfl rfl ttok rfl ⟨rfl, rfl, rfl, trivial⟩ ?_
     refine dfz (i := 35) (k := 4) (t := 70) (t' := 70) (z := 8) (n := 4) (l := (frs wk3).flatMap ytr) rfl rfl rfl rfl (.one .sl) (by rfl) (by rfl) ?_
     refine dca 6 rfl w_Run3 ok10 ⟨a1g rfl, a1 rfl, rfl⟩ (.tup [.agg [.t (.s false 66 24 (wkR wk3).length ((wkR wk3).flatMap (rtr true))), .t (.s false 46 14 wkU3.length (wkU3.flatMap (utr true)))], .one (tv (.int .i64 0))]) ?_
     refine df 7 ?_; refine df 8 ?_; refine df 9 ?_; refine d_stn 11 (by kernel_rfl) rfl rfl ttok rfl rfl rfl rfl ⟨rfl, rfl, rfl, trivial⟩ ?_
     refine d_v 12 (by kernel_rfl) rfl rfl ttok rfl (by trivial) ?_ (fun h => by first | rfl | cases h)
     refine dz0 ?_; exact ⟨(), trivial, su0 h0 [0, 1, 2, 3] _ _ (by decide) ⟨rfl, rfl, rfl, rfl, rfl, trivial⟩ ⟨oe rfl rfl, oe rfl rfl, oe rfl rfl, oe rfl rfl, rfl⟩⟩
    refine o_al (key := 3) 10 rfl rfl ttok rfl ⟨rfl, rfl, rfl, trivial⟩ ?_
    refine dca 3 rfl (l_year (n := 0) (m := 0) (by omega) (by omega) (by omega) (by omega)) ok31 ⟨a1 rfl, a1 rfl, rfl⟩ (.agg ((ytr (Fr4.of (Rat.divInt (0) 1), Fr4.of (Rat.divInt (0) 1))).map .t)) ?_
    refine dca 4 rfl (l_year (n := 100) (m := 0) (by omega) (by omega) (by omega) (by omega)) ok31 ⟨a1 rfl, a1 rfl, rfl⟩ (.agg ((ytr (Fr4.of (Rat.divInt (100) 1), Fr4.of (Rat.divInt (0) 1))).map .t)) ?_
    refine d_bs (key := 4) 5 (by kernel_rfl) rfl rfl ttok rfl ⟨rfl, rfl, rfl, trivial⟩ ?_
    refine dfz (i := 35) (k := 4) (t := 70) (t' := 70) (z := 8) (n := 4) (l := (frs wk3).flatMap ytr) rfl rfl rfl rfl (.one .sl) (by rfl) (by rfl) ?_
    refine dca 6 rfl w_Run3 ok10 ⟨a1g rfl, a1 rfl, rfl⟩ (.tup [.agg [.t (.s false 66 24 (wkR wk3).length ((wkR wk3).flatMap (rtr true))), .t (.s false 46 14 wkU3.length (wkU3.flatMap (utr true)))], .one (tv (.int .i64 0))]) ?_
    refine df 7 ?_; refine df 8 ?_; refine df 9 ?_; refine d_stn 11 (by kernel_rfl) rfl rfl ttok rfl rfl rfl rfl ⟨rfl, rfl, rfl, trivial⟩ ?_
    refine d_v 12 (by kernel_rfl) rfl rfl ttok rfl (by trivial) ?_ (fun h => by first | rfl | cases h)
    refine dz0 ?_; exact ⟨(), trivial, su0 h0 [0, 1, 2, 3] _ _ (by decide) ⟨rfl, rfl, rfl, rfl, rfl, trivial⟩ ⟨oe rfl rfl, oe rfl rfl, oe rfl rfl, oe rfl rfl, rfl⟩⟩
   refine o_al (key := 3) 10 rfl rfl ttok rfl ⟨rfl, rfl, rfl, trivial⟩ ?_
   refine dca 2 rfl (l_year (n := 0) (m := 0) (by omega) (by omega) (by omega) (by omega)) ok31 ⟨a1 rfl, a1 rfl, rfl⟩ (.agg ((ytr (Fr4.of (Rat.divInt (0) 1), Fr4.of (Rat.divInt (0) 1))).map .t)) ?_
   refine dca 3 rfl (l_year (n := 0) (m := 0) (by omega) (by omega) (by omega) (by omega)) ok31 ⟨a1 rfl, a1 rfl, rfl⟩ (.agg ((ytr (Fr4.of (Rat.divInt (0) 1), Fr4.of (Rat.divInt (0) 1))).map .t)) ?_
   refine dca 4 rfl (l_year (n := 100) (m := 0) (by omega) (by omega) (by omega) (by omega)) ok31 ⟨a1 rfl, a1 rfl, rfl⟩ (.agg ((ytr (Fr4.of (Rat.divInt (100) 1), Fr4.of (Rat.divInt (0) 1))).map .t)) ?_
   refine d_bs (key := 4) 5 (by kernel_rfl) rfl rfl ttok rfl ⟨rfl, rfl, rfl, trivial⟩ ?_
   refine dfz (i := 35) (k := 4) (t := 70) (t' := 70) (z := 8) (n := 4) (l := (frs wk3).flatMap ytr) rfl rfl rfl rfl (.one .sl) (by rfl) (by rfl) ?_
   refine dca 6 rfl w_Run3 ok10 ⟨a1g rfl, a1 rfl, rfl⟩ (.tup [.agg [.t (.s false 66 24 (wkR wk3).length ((wkR wk3).flatMap (rtr true))), .t (.s false 46 14 wkU3.length (wkU3.flatMap (utr true)))], .one (tv (.int .i64 0))]) ?_
   refine df 7 ?_; refine df 8 ?_; refine df 9 ?_; refine d_stn 11 (by kernel_rfl) rfl rfl ttok rfl rfl rfl rfl ⟨rfl, rfl, rfl, trivial⟩ ?_
   refine d_v 12 (by kernel_rfl) rfl rfl ttok rfl (by trivial) ?_ (fun h => by first | rfl | cases h)
   refine dz0 ?_; exact ⟨(), trivial, su0 h0 [0, 1, 2, 3] _ _ (by decide) ⟨rfl, rfl, rfl, rfl, rfl, trivial⟩ ⟨oe rfl rfl, oe rfl rfl, oe rfl rfl, oe rfl rfl, rfl⟩⟩
  refine o_al (key := 3) 10 rfl rfl ttok rfl ⟨rfl, rfl, rfl, trivial⟩ ?_
  refine dca 1 rfl (l_year (n := -10) (m := 0) (by omega) (by omega) (by omega) (by omega)) ok31 ⟨a1 rfl, a1 rfl, rfl⟩ (.agg ((ytr (Fr4.of (Rat.divInt (-10) 1), Fr4.of (Rat.divInt (0) 1))).map .t)) ?_
  refine dca 2 rfl (l_year (n := 0) (m := 0) (by omega) (by omega) (by omega) (by omega)) ok31 ⟨a1 rfl, a1 rfl, rfl⟩ (.agg ((ytr (Fr4.of (Rat.divInt (0) 1), Fr4.of (Rat.divInt (0) 1))).map .t)) ?_
  refine dca 3 rfl (l_year (n := 0) (m := 0) (by omega) (by omega) (by omega) (by omega)) ok31 ⟨a1 rfl, a1 rfl, rfl⟩ (.agg ((ytr (Fr4.of (Rat.divInt (0) 1), Fr4.of (Rat.divInt (0) 1))).map .t)) ?_
  refine dca 4 rfl (l_year (n := 100) (m := 0) (by omega) (by omega) (by omega) (by omega)) ok31 ⟨a1 rfl, a1 rfl, rfl⟩ (.agg ((ytr (Fr4.of (Rat.divInt (100) 1), Fr4.of (Rat.divInt (0) 1))).map .t)) ?_
  refine d_bs (key := 4) 5 (by kernel_rfl) rfl rfl ttok rfl ⟨rfl, rfl, rfl, trivial⟩ ?_
  refine dfz (i := 35) (k := 4) (t := 70) (t' := 70) (z := 8) (n := 4) (l := (frs wk3).flatMap ytr) rfl rfl rfl rfl (.one .sl) (by rfl) (by rfl) ?_
  refine dca 6 rfl w_Run3 ok10 ⟨a1g rfl, a1 rfl, rfl⟩ (.tup [.agg [.t (.s false 66 24 (wkR wk3).length ((wkR wk3).flatMap (rtr true))), .t (.s false 46 14 wkU3.length (wkU3.flatMap (utr true)))], .one (tv (.int .i64 0))]) ?_
  refine df 7 ?_; refine df 8 ?_; refine df 9 ?_; refine d_stn 11 (by kernel_rfl) rfl rfl ttok rfl rfl rfl rfl ⟨rfl, rfl, rfl, trivial⟩ ?_
  refine d_v 12 (by kernel_rfl) rfl rfl ttok rfl (by trivial) ?_ (fun h => by first | rfl | cases h)
  refine dz0 ?_; exact ⟨(), trivial, su0 h0 [0, 1, 2, 3] _ _ (by decide) ⟨rfl, rfl, rfl, rfl, rfl, trivial⟩ ⟨oe rfl rfl, oe rfl rfl, oe rfl rfl, oe rfl rfl, rfl⟩⟩
 refine sq ?_; refine sq ?_
 refine WP.sub ((rdO (j := 3) (p := 0) (y := .s false 66 24 (wkR wk3).length ((wkR wk3).flatMap (rtr true))) (l' := [.t (sRw false false (wkR wk3)), .t (.s false 46 14 wkU3.length (wkU3.flatMap (utr true)))]) rfl rfl rfl (by rw [rdT, rd_rw]; rfl)).trans (rdO (j := 3) (p := 1) (y := .s false 46 14 wkU3.length (wkU3.flatMap (utr true))) (l' := [.t (sRw false false (wkR wk3)), .t (sUs false false wkU3)]) rfl rfl rfl (by rw [rdT, rd_us]; rfl))) ?_
 refine rl ?_; (iterate 3 refine o1 ?_); refine WL.split (t := 41) rfl (fun h1 => ?_) (fun h1 => ?_)
 ·exact absurd h1 (by omega)
 refine o1 ?_; refine ld ?_; (iterate 4 refine o1 ?_); refine WL.split (t := 47) rfl (fun h2 => ?_) (fun h2 => ?_)
 ·exact absurd h2 (by omega)
 refine o1 ?_; refine ld ?_; (iterate 4 refine o1 ?_); refine WL.split (t := 53) rfl (fun h3 => ?_) (fun h3 => ?_)
 ·exact absurd h3 (by omega)
 refine o1 ?_; refine ld ?_; (iterate 4 refine o1 ?_); refine WL.split (t := 59) rfl (fun h4 => ?_) (fun h4 => ?_)
 ·exact absurd h4 (by omega)
 refine o1 ?_; refine ld ?_; (iterate 3 refine o1 ?_); refine nl ?_; refine cdp rfl (fun h5 => ?_) (fun h5 => ?_)
 ·exact absurd h5 (by omega)
 refine sk ?_; refine sq ?_; refine rd [0, 1, 2, 3] (fun i => [75].contains i) mixed ?_
 refine dv 0 ?_; refine dld 1 ?_; refine dv 2 ?_; refine dv 3 ?_
 refine dlr 4 ([.v (.int .i64 (nthU wkU1 (0)).v)]) (flat_sub' (f := (utr false)) (z := 14) (o := 0) (utr_len false) (nthU_get (by omega)) (Nat.le_of_ble_eq_true rfl) rfl) ?_
 refine dv 5 ?_; refine dv 6 ?_; refine WD.split (t := 71) rfl rfl (fun h6 => ?_) (fun h6 => ?_)
 ·refine dv 7 ?_; refine dld 8 ?_; refine dv 9 ?_; refine dv 10 ?_
  refine dlr 11 ([.v (.int .i64 (nthU wkU1 (0)).y)]) (flat_sub' (f := (utr false)) (z := 14) (o := 1) (utr_len false) (nthU_get (by omega)) (Nat.le_of_ble_eq_true rfl) rfl) ?_
  refine dv 12 ?_; refine dv 13 ?_; refine dv 14 ?_; refine WD.split (t := 79) rfl rfl (fun h7 => ?_) (fun h7 => ?_)
  ·refine dv 15 ?_; refine dld 16 ?_; refine dv 17 ?_; refine dv 18 ?_
   refine dlr 19 ((Fr4.of (nthU wkU1 (0)).n).tr false) (flat_sub' (f := (utr false)) (z := 14) (o := 2) (utr_len false) (nthU_get (by omega)) (Nat.le_of_ble_eq_true rfl) rfl) ?_
   refine dca 20 rfl (f_By (n := 50) (d := 1) (by omega) (by omega) (by omega) (by omega)) ok32 ⟨a1 rfl, a1 rfl, rfl⟩ (qF (.of (Rat.divInt 50 1))) ?_
   refine dca 21 rfl (p_SameE (p := (nthU wkU1 (0)).n) (q := (Rat.divInt 50 1)) ((by_sz (n := 50) (d := 1) (by omega) (by omega) (by omega) (by omega)).mono (by omega)) (by decide +kernel)) ok34 ⟨a1g rfl, a1g rfl, rfl⟩ (.one (tv (.bool true))) ?_
   refine df 22 ?_; refine df 23 ?_; refine dv 24 ?_; refine dld 25 ?_; refine dv 26 ?_; refine dv 27 ?_
   refine dlr 28 ((Fr4.of (nthU wkU2 (0)).n).tr false) (flat_sub' (f := (utr false)) (z := 14) (o := 2) (utr_len false) (nthU_get (by omega)) (Nat.le_of_ble_eq_true rfl) rfl) ?_
   refine dca 29 rfl (f_By (n := 60) (d := 1) (by omega) (by omega) (by omega) (by omega)) ok32 ⟨a1 rfl, a1 rfl, rfl⟩ (qF (.of (Rat.divInt 60 1))) ?_
   refine dca 30 rfl (p_SameE (p := (nthU wkU2 (0)).n) (q := (Rat.divInt 60 1)) ((by_sz (n := 60) (d := 1) (by omega) (by omega) (by omega) (by omega)).mono (by omega)) (by decide +kernel)) ok34 ⟨a1g rfl, a1g rfl, rfl⟩ (.one (tv (.bool true))) ?_
   refine df 31 ?_; refine df 32 ?_; refine dv 33 ?_; refine dld 34 ?_; refine dv 35 ?_; refine dv 36 ?_
   refine dlr 37 ([.v (.int .i64 (nthU wkU2 (1)).y)]) (flat_sub' (f := (utr false)) (z := 14) (o := 1) (utr_len false) (nthU_get (by omega)) (Nat.le_of_ble_eq_true rfl) rfl) ?_
   refine dv 38 ?_; refine df 39 ?_; refine df 40 ?_; refine WD.split (t := 105) rfl rfl (fun h8 => ?_) (fun h8 => ?_)
   ·refine dv 41 ?_; refine dld 42 ?_; refine dv 43 ?_; refine dv 44 ?_
    refine dlr 45 ((Fr4.of (nthU wkU2 (1)).n).tr false) (flat_sub' (f := (utr false)) (z := 14) (o := 2) (utr_len false) (nthU_get (by omega)) (Nat.le_of_ble_eq_true rfl) rfl) ?_
    refine dca 46 rfl (f_By (n := 18) (d := 1) (by omega) (by omega) (by omega) (by omega)) ok32 ⟨a1 rfl, a1 rfl, rfl⟩ (qF (.of (Rat.divInt 18 1))) ?_
    refine dca 47 rfl (p_SameE (p := (nthU wkU2 (1)).n) (q := (Rat.divInt 18 1)) ((by_sz (n := 18) (d := 1) (by omega) (by omega) (by omega) (by omega)).mono (by omega)) (by decide +kernel)) ok34 ⟨a1g rfl, a1g rfl, rfl⟩ (.one (tv (.bool true))) ?_
    refine df 48 ?_; refine df 49 ?_; refine dv 50 ?_; refine dld 51 ?_; refine dv 52 ?_; refine dv 53 ?_
    refine dlr 54 ([.v (.int .i64 (nthU wkU2 (2)).y)]) (flat_sub' (f := (utr false)) (z := 14) (o := 1) (utr_len false) (nthU_get (by omega)) (Nat.le_of_ble_eq_true rfl) rfl) ?_
    refine dv 55 ?_; refine df 56 ?_; refine df 57 ?_; refine WD.split (t := 122) rfl rfl (fun h9 => ?_) (fun h9 => ?_)
    ·refine dv 58 ?_; refine dld 59 ?_; refine dv 60 ?_; refine dv 61 ?_
     refine dlr 62 ((Fr4.of (nthU wkU2 (2)).n).tr false) (flat_sub' (f := (utr false)) (z := 14) (o := 2) (utr_len false) (nthU_get (by omega)) (Nat.le_of_ble_eq_true rfl) rfl) ?_
     refine dca 63 rfl (f_By (n := 2) (d := 1) (by omega) (by omega) (by omega) (by omega)) ok32 ⟨a1 rfl, a1 rfl, rfl⟩ (qF (.of (Rat.divInt 2 1))) ?_
     refine dca 64 rfl (p_SameE (p := (nthU wkU2 (2)).n) (q := (Rat.divInt 2 1)) ((by_sz (n := 2) (d := 1) (by omega) (by omega) (by omega) (by omega)).mono (by omega)) (by decide +kernel)) ok34 ⟨a1g rfl, a1g rfl, rfl⟩ (.one (tv (.bool true))) ?_
     refine df 65 ?_; refine df 66 ?_; refine dv 67 ?_; refine dld 68 ?_; refine dv 69 ?_; refine dv 70 ?_
     refine dlr 71 ((Fr4.of (nthR (wkR wk3) (0)).e).tr false) (flat_sub' (f := (rtr false)) (z := 24) (o := 16) (rtr_len false) (nthR_get (by omega)) (Nat.le_of_ble_eq_true rfl) rfl) ?_
     refine dca 72 rfl (f_By (n := 10) (d := 1) (by omega) (by omega) (by omega) (by omega)) ok32 ⟨a1 rfl, a1 rfl, rfl⟩ (qF (.of (Rat.divInt 10 1))) ?_
     refine dca 73 rfl (p_SameE (p := (nthR (wkR wk3) (0)).e) (q := (Rat.divInt 10 1)) ((by_sz (n := 10) (d := 1) (by omega) (by omega) (by omega) (by omega)).mono (by omega)) wk3_e) ok34 ⟨a1g rfl, a1g rfl, rfl⟩ (.one (tv (.bool true))) ?_
     refine df 74 ?_; refine d_v 75 (by kernel_rfl) rfl rfl ttok rfl (by trivial) ?_ (fun h => by first | rfl | cases h)
     refine dz0 ?_; refine rt ?_; exact en (.inl rfl) rfl (pk1 (pkv _)) (by decide) (fun _ => trivial) rfl
    exact absurd (by decide +kernel) h9
   exact absurd (by decide +kernel) h8
  exact absurd (by decide +kernel) h7
 exact absurd (by decide +kernel) h6
theorem l_MatrixMore {c : Fr4} {bk fw : Int} {ys zs : List (Fr4 × Fr4)} (hc : ShOk c) (hy : ∀ y ∈ ys, ShOk y.1 ∧ ShOk y.2) (hz : ∀ y ∈ zs, ShOk y.1 ∧ ShOk y.2) : Spec true Tryz.prog 3 [] [.agg ((c.tr false ++ [.v (.int .i64 bk), .v (.int .i64 fw)] : List Tr).map .t), .one (.t (sMy ys)), .one (.t (sMy zs))] (Ret (.one (tv (.bool true)))) := by
 refine fn0 Tryz.func3 rfl Tryz.ntmps3 rfl ttok rfl fun N w c0 h0 => ?_
 refine sq ?_; refine rl ?_; refine bx 0 ?_; refine o1 ?_; refine nl ?_; refine sq ?_; refine sq ?_; refine rl ?_; refine ld ?_; refine o1 ?_
 refine ca (l_few (c := c) (bk := bk) (fw := fw) (ys := ys)) ok8 ⟨a1g rfl, a1 rfl, rfl⟩ (.one (tv (.bool (fewM c ys)))) ?_; refine WL.splitb (t := 17) rfl (fun h1 => ?_) (fun h1 => ?_)
 ·refine o1 ?_; refine o1 ?_; refine ld ?_; refine o1 ?_; refine ca (l_few (c := c) (bk := bk) (fw := fw) (ys := zs)) ok8 ⟨a1g rfl, a1 rfl, rfl⟩ (.one (tv (.bool (fewM c zs)))) ?_
  refine WL.splitb (t := 22) rfl (fun h2 => ?_) (fun h2 => ?_)
  ·(iterate 7 refine o1 ?_); have hsA := fewM_of h1 hc hy; have hsB := fewM_of h2 hc hz
   have h50 := hsA.l; have h51 := hsB.l
   (iterate 3 refine o1 ?_); refine nl ?_; refine cdp rfl (fun h3 => ?_) (fun h3 => ?_)
   ·refine sq ?_; refine rl ?_; refine ca (l_works) ok9 rfl (.one (tv (.bool true))) ?_; refine o1 ?_; refine nl ?_; refine rt ?_
    exact en (.inl rfl) rfl (pk1 (pkv _)) (by decide) (fun _ => trivial) rfl
   refine sk ?_; refine sq ?_; refine rl ?_; have hl12 : ys.length + zs.length ≤ 12 := by omega
   have hsC := hsA.app hsB (by omega)
   have hlA := runU_len (bk := bk) (fw := fw) hsA; have hlB := runU_len (bk := bk) (fw := fw) hsC; have hrB := runR_len (c := c) (bk := bk) (fw := fw) (ys := ys ++ zs); have hlC : (ys ++ zs).length = ys.length + zs.length := List.length_append
   have hoA := runU_ok (bk := bk) (fw := fw) hsA; have hoB := runU_ok (bk := bk) (fw := fw) hsC; have hoR := runR_ok (bk := bk) (fw := fw) hsC
   refine o1 ?_; refine nl ?_; refine sq ?_; refine rl ?_; refine o1 ?_; refine o1 ?_; refine w_app (j := 1) ttok rfl rfl rfl rfl .nil .fz (rdL_my _) (lone_my _) rfl (by omega) (by omega) ?_
   refine o1 ?_; refine nl ?_; refine sq ?_; refine rl ?_; refine o1 ?_; refine o1 ?_
   refine w_app (j := 2) ttok rfl rfl rfl rfl (.sl rfl (by rw [List.nil_append, List.length_map, yflat_len, Nat.zero_add])) .fz (rdL_my _) (lone_my _) rfl (by omega) (by omega) ?_
   refine o1 ?_; refine nl ?_; refine sq ?_
   have hap : ([] ++ (ys.flatMap ytr).map AV.t) ++ (zs.flatMap ytr).map AV.t = ((ys ++ zs).flatMap ytr).map AV.t := by rw [List.nil_append, List.flatMap_append, List.map_append]
   refine WP.sub (fz (i := 7) (k := 2) (t := 70) (z := 8) (n := 0 + ys.length + zs.length) (l := (ys ++ zs).flatMap ytr) rfl rfl (congrArg (fun l : List AV => some (⟨70, 8, l⟩ : Ob)) hap) (by rw [yflat_len, hlC, Nat.zero_add])) ?_
   refine WP.sub (su0 h0 [0] [(1, .one (.t (sMy ys))), (3, .one (.pt 0 0)), (7, .one (.t (sMy (ys ++ zs))))] [⟨28, 0, (c.tr false ++ [.v (.int .i64 bk), .v (.int .i64 fw)] : List Tr).map .t⟩] (by decide) ⟨rfl, rfl, congrArg (fun n => some (FV.one (.t (.s false 70 8 n ((ys ++ zs).flatMap ytr))))) (show (ys ++ zs).length = 0 + ys.length + zs.length by rw [hlC, Nat.zero_add]), trivial⟩ ⟨oe rfl rfl, rfl⟩) ?_
   refine rl ?_; refine ld ?_; refine o1 ?_
   refine ca (m_RunG (bk := bk) (fw := fw) hsA) ok10 ⟨a1g rfl, a1 rfl, rfl⟩ (.tup [.agg [.t (.s false 66 24 (runR c bk fw ys).length ((runR c bk fw ys).flatMap (rtr true))), .t (.s false 46 14 (runU c bk fw ys).length ((runU c bk fw ys).flatMap (utr true)))], .one (tv (.int .i64 (mayE c bk fw ys)))]) ?_
   refine o1 ?_; refine o1 ?_; refine WL.sub (rdS (i := 44) rfl (rd_mat (runR c bk fw ys) (runU c bk fw ys))) ?_; refine o1 ?_; refine al 1 ?_; refine st ?_; refine o1 ?_; refine nl ?_
   refine sq ?_; refine rl ?_; refine ld ?_; refine o1 ?_
   refine ca (m_RunG (bk := bk) (fw := fw) hsC) ok10 ⟨a1g rfl, a1 rfl, rfl⟩ (.tup [.agg [.t (.s false 66 24 (runR c bk fw (ys ++ zs)).length ((runR c bk fw (ys ++ zs)).flatMap (rtr true))), .t (.s false 46 14 (runU c bk fw (ys ++ zs)).length ((runU c bk fw (ys ++ zs)).flatMap (utr true)))], .one (tv (.int .i64 (mayE c bk fw (ys ++ zs))))]) ?_
   refine o1 ?_; refine o1 ?_; refine WL.sub (rdS (i := 50) rfl (rd_mat (runR c bk fw (ys ++ zs)) (runU c bk fw (ys ++ zs)))) ?_; refine o1 ?_; refine al 2 ?_; refine st ?_; refine o1 ?_
   refine nl ?_; refine sq ?_; refine sq ?_; refine rl ?_; refine o1 ?_; refine o1 ?_; refine nl ?_; refine cdp rfl (fun h4 => ?_) (fun h4 => ?_)
   ·refine sq ?_; refine rl ?_; refine ca (l_works) ok9 rfl (.one (tv (.bool true))) ?_; refine o1 ?_; refine nl ?_; refine rt ?_
    exact en (.inl rfl) rfl (pk1 (pkv _)) (by decide) (fun _ => trivial) rfl
   refine sk ?_; refine sq ?_; refine sq ?_; refine rl ?_; have hEB : (mayE c bk fw (ys ++ zs)) = 0 := by
    rcases Classical.em ((mayE c bk fw (ys ++ zs)) = 0) with h9 | h9
    ·exact h9
    exact absurd h9 h4
   obtain ⟨hEA, V, hV, hV2⟩ := runs_more hsA hsB (by omega) hEB
   have hlV : (runU c bk fw (ys ++ zs)).length = (runU c bk fw ys).length + V.length := by rw [hV, List.length_append]
   (iterate 3 refine o1 ?_); refine WL.split (t := 57) rfl (fun h5 => ?_) (fun h5 => ?_)
   ·exact absurd h5 (by first | omega | exact fun h9 => h9 hEA)
   refine o1 ?_; refine ld ?_; refine o1 ?_; refine o1 ?_; refine ld ?_; (iterate 3 refine o1 ?_); refine nl ?_; refine cdp rfl (fun h6 => ?_) (fun h6 => ?_)
   ·exact absurd h6 (by first | omega | exact fun h9 => h9 hEA)
   refine sk ?_; refine sq ?_; refine rl ?_; refine ld ?_
   refine ca (l_refM hoR hoB (by omega) (by omega)) ok11 ⟨a1g rfl, rfl⟩ (.agg [.t (sRr false (runR c bk fw (ys ++ zs))), .t (sUr false (runU c bk fw (ys ++ zs)))]) ?_
   refine al 3 ?_; refine st ?_; refine nl ?_; refine sq ?_; refine sq ?_; refine rl ?_; refine o1 ?_; refine nl ?_; refine bl ?_
   refine lp (γ := Nat) (fun i => frL [(1, .one (.t (sMy ys))), (8, .one (.pt 0 0)), (10, .one (.pt 1 0)), (12, .one (.pt 2 0)), (13, .one (tv (.int .i64 ((i : Nat) : Int))))]) (fun _ => [(⟨35, 0, [.t (sRw false false (runR c bk fw ys)), .t (sUs false false (runU c bk fw ys))]⟩ : Ob), ⟨35, 0, [.t (sRw false false (runR c bk fw (ys ++ zs))), .t (sUs false false (runU c bk fw (ys ++ zs)))]⟩, ⟨42, 0, [.t (sRr false (runR c bk fw (ys ++ zs))), .t (sUr false (runU c bk fw (ys ++ zs)))]⟩].map some) (fun i => i ≤ (runU c bk fw ys).length) (fun i => (runU c bk fw ys).length - i) 0 (Nat.zero_le _) (su0 h0 [1, 2, 3] _ _ (by decide) ⟨rfl, rfl, rfl, rfl, rfl, trivial⟩ ⟨oe rfl rfl, oe rfl rfl, oe rfl rfl, rfl⟩) fun i hi => ?_
   refine sq ?_; refine sq ?_; refine rl ?_; refine o1 ?_; refine o1 ?_; refine ld ?_; refine o1 ?_; refine o1 ?_; refine nl ?_; refine cdp rfl (fun h7 => ?_) (fun h7 => ?_)
   ·refine sk ?_; refine sq ?_; refine bl ?_; refine sq ?_; refine rd [0, 1, 2] (fun i => [].contains i) mixed ?_
    refine dv 0 ?_; refine dld 1 ?_; refine dv 2 ?_; refine dv 3 ?_
    refine dlr 4 ((utr false) (nthU (runU c bk fw ys) (i))) (flat_sub' (f := (utr false)) (z := 14) (o := 0) (utr_len false) (nthU_get (by omega)) (Nat.le_of_ble_eq_true rfl) rfl) ?_
    refine dv 5 ?_; refine dld 6 ?_; refine dv 7 ?_; refine dv 8 ?_
    refine dlr 9 ((utr false) (nthU (runU c bk fw (ys ++ zs)) (i))) (flat_sub' (f := (utr false)) (z := 14) (o := 0) (utr_len false) (nthU_get (by omega)) (Nat.le_of_ble_eq_true rfl) rfl) ?_
    refine dca 10 rfl (l_use_eq (a := (nthU (runU c bk fw ys) (i))) (b := (nthU (runU c bk fw (ys ++ zs)) (i))) (hoA _ (nthU_mem (by omega))) (by rw [hV]; exact (nthU_app (by omega)).symm)) ok12 ⟨a1g rfl, a1g rfl, rfl⟩ (.one (tv (.bool true))) ?_
    refine df 11 ?_; refine dz0 ?_; refine cdf rfl ?_; refine sk ?_; refine rl ?_; refine o1 ?_; refine o1 ?_
    refine WL.cast (t := 74) (u' := .int .i64 ((i + 1 : Nat) : Int)) rfl (cint (by omega)) ?_
    refine o1 ?_; refine nl ?_; exact ⟨i + 1, by omega, by omega, su0 h0 [0, 1, 2] _ _ (by decide) ⟨rfl, rfl, rfl, rfl, rfl, trivial⟩ ⟨oe rfl rfl, oe rfl rfl, oe rfl rfl, rfl⟩⟩
   refine ex ?_; refine sq ?_; refine sq ?_; refine rl ?_; refine o1 ?_; refine ld ?_; refine o1 ?_; refine o1 ?_; refine nl ?_; refine bl ?_
   refine lp (γ := Nat) (fun i => frL [(1, .one (.t (sMy ys))), (10, .one (.pt 0 0)), (14, .one (tv (.int .i64 ((i : Nat) : Int))))]) (fun _ => [(⟨35, 0, [.t (sRw false false (runR c bk fw (ys ++ zs))), .t (sUs false false (runU c bk fw (ys ++ zs)))]⟩ : Ob)].map some) (fun i => (runU c bk fw ys).length ≤ i ∧ i ≤ (runU c bk fw (ys ++ zs)).length) (fun i => (runU c bk fw (ys ++ zs)).length - i) (runU c bk fw ys).length ⟨Nat.le_refl _, by omega⟩ (su0 h0 [1] _ _ (by decide) ⟨rfl, rfl, rfl, trivial⟩ ⟨oe rfl rfl, rfl⟩) fun i2 hi2 => ?_
   refine sq ?_; refine sq ?_; refine rl ?_; refine o1 ?_; refine o1 ?_; refine ld ?_; refine o1 ?_; refine o1 ?_; refine nl ?_; refine cdp rfl (fun h8 => ?_) (fun h8 => ?_)
   ·refine sk ?_; refine sq ?_; refine bl ?_; refine sq ?_; refine rl ?_; refine o1 ?_; refine ld ?_; (iterate 3 refine o1 ?_)
    refine ldf ([.v (.int .i64 (nthU (runU c bk fw (ys ++ zs)) (i2)).v)]) (flat_sub' (f := (utr false)) (z := 14) (o := 0) (utr_len false) (nthU_get (by omega)) (Nat.le_of_ble_eq_true rfl) rfl) ?_
    (iterate 4 refine o1 ?_); refine WL.split (t := 106) rfl (fun h9 => ?_) (fun h9 => ?_)
    ·refine o1 ?_; refine ld ?_; (iterate 3 refine o1 ?_)
     refine ldf ([.v (.int .i64 (nthU (runU c bk fw (ys ++ zs)) (i2)).y)]) (flat_sub' (f := (utr false)) (z := 14) (o := 1) (utr_len false) (nthU_get (by omega)) (Nat.le_of_ble_eq_true rfl) rfl) ?_
     (iterate 4 refine o1 ?_); refine nl ?_; refine cdp rfl (fun h10 => ?_) (fun h10 => ?_)
     ·have hbh := hV2 _ (nthU_behind (us := (runU c bk fw ys)) (vs := V) (k := i2) (by omega) (by rw [← hV]; omega))
      rw [← hV] at hbh; omega
     refine sk ?_; refine rl ?_; refine o1 ?_; refine o1 ?_; refine WL.cast (t := 96) (u' := .int .i64 ((i2 + 1 : Nat) : Int)) rfl (cint (by omega)) ?_
     refine o1 ?_; refine nl ?_; exact ⟨i2 + 1, by omega, by omega, su0 h0 [0] _ _ (by decide) ⟨rfl, rfl, rfl, trivial⟩ ⟨oe rfl rfl, rfl⟩⟩
    (iterate 9 refine no_ ?_); refine o1 ?_; refine nl ?_; refine cdf rfl ?_; refine sk ?_; refine rl ?_; refine o1 ?_; refine o1 ?_
    refine WL.cast (t := 96) (u' := .int .i64 ((i2 + 1 : Nat) : Int)) rfl (cint (by omega)) ?_
    refine o1 ?_; refine nl ?_; exact ⟨i2 + 1, by omega, by omega, su0 h0 [0] _ _ (by decide) ⟨rfl, rfl, rfl, trivial⟩ ⟨oe rfl rfl, rfl⟩⟩
   refine ex ?_; refine sq ?_; refine rl ?_; refine ca (l_works) ok9 rfl (.one (tv (.bool true))) ?_; refine o1 ?_; refine nl ?_; refine rt ?_
   exact en (.inl rfl) rfl (pk1 (pkv _)) (by decide) (fun _ => trivial) rfl
  (iterate 3 refine o1 ?_); (iterate 6 refine no_ ?_); refine o1 ?_; refine nl ?_; refine cdt rfl ?_; refine sq ?_; refine rl ?_; refine ca (l_works) ok9 rfl (.one (tv (.bool true))) ?_
  refine o1 ?_; refine nl ?_; refine rt ?_; exact en (.inl rfl) rfl (pk1 (pkv _)) (by decide) (fun _ => trivial) rfl
 refine o1 ?_; refine o1 ?_; (iterate 4 refine no_ ?_); refine o1 ?_; refine o1 ?_; (iterate 6 refine no_ ?_); refine o1 ?_; refine nl ?_; refine cdt rfl ?_; refine sq ?_; refine rl ?_
 refine ca (l_works) ok9 rfl (.one (tv (.bool true))) ?_; refine o1 ?_; refine nl ?_; refine rt ?_; exact en (.inl rfl) rfl (pk1 (pkv _)) (by decide) (fun _ => trivial) rfl
end Go.Proofs.YtofllcodkcjajaaGreat
namespace Go.Proofs.YtofllcodkcjajaaGreat
open Go Go.RowKit Go.ChangeShapes
def Reads (P : Program) (t : TypeId) (z : Nat) (T : List Tr → Prop) : Prop :=
 P.cellsOf t = z ∧ ∀ (H : Type) (enc : TypeId × Value → H) (w : World) (fuel : Nat) (cs : List Value) (x : DataW H × List MemPlace), DataW.trod enc P w 0 (fun _ => true) true fuel t cs = some x → ∃ l, T l ∧ l.length = z ∧ FRL w (Old w) l cs
theorem frl_app {W : World} {N : Nat → Prop} : ∀ {l l' : List Tr} {us us' : List Value}, FRL W N l us → FRL W N l' us' → FRL W N (l ++ l') (us ++ us')
 | [], l', us, us', h, h' => by simp only [FRL] at h; subst h; exact h'
 | x :: l, l', u :: us, us', h, h' => by simp only [FRL, List.cons_append] at *; exact ⟨h.1, frl_app h.2 h'⟩
 | _ :: _, _, [], _, h, _ => by simp only [FRL] at h
theorem frl_get {W : World} {N : Nat → Prop} : ∀ {l : List Tr} {us : List Value} {j : Nat} {x : Tr}, FRL W N l us → l[j]? = some x → ∃ u, us[j]? = some u ∧ FR W N x u
 | [], _, _, _, _, h => by simp at h
 | y :: l, u :: us, 0, x, h, e => by
  simp only [FRL] at h
  simp at e
  subst e
  exact ⟨u, rfl, h.1⟩
 | y :: l, u :: us, j + 1, x, h, e => by
  simp only [FRL] at h
  exact frl_get (j := j) h.2 (by simpa using e)
 | _ :: _, [], _, _, h, _ => by simp only [FRL] at h
section
variable {P : Program} {t e : TypeId} {k : IntKind} {z : Nat} {T T' : List Tr → Prop}
theorem Reads.mono (h : Reads P t z T) (hi : ∀ l, T l → T' l) : Reads P t z T' := ⟨h.1, fun H enc w fuel cs x hx => let ⟨l, a, b⟩ := h.2 H enc w fuel cs x hx; ⟨l, hi l a, b⟩⟩
theorem rd_bool (ht : P.underlying t = some .bool) (hz : P.cellsOf t = 1) : Reads P t 1 (fun l => ∃ b, l = [.v (.bool b)]) := ⟨hz, fun H enc w fuel cs x hx => by
 obtain ⟨b, rfl, _⟩ := DataW.trod_bool ht hx
 exact ⟨_, ⟨b, rfl⟩, rfl, by simp [FRL, FR]⟩⟩
theorem rd_int (ht : P.underlying t = some (.int k)) (hz : P.cellsOf t = 1) : Reads P t 1 (fun l => ∃ n, l = [.v (.int k n)] ∧ k.min ≤ n ∧ n ≤ k.max) := ⟨hz, fun H enc w fuel cs x hx => by
 obtain ⟨n, rfl, _, h⟩ := DataW.trod_int ht hx
 simp only [Lit.wf, Bool.and_eq_true, decide_eq_true_eq] at h
 exact ⟨_, ⟨n, rfl, h⟩, rfl, by simp [FRL, FR]⟩⟩
inductive Flds (P : Program) : Nat → List Field → Nat → (List Tr → Prop) → Prop
 | nil {o : Nat} : Flds P o [] 0 (· = [])
 | cons {o z z' : Nat} {f : Field} {fs : List Field} {T T' : List Tr → Prop} (ho : f.offset = o) (h : Reads P f.type z T) (h' : Flds P (o + z) fs z' T') : Flds P o (f :: fs) (z + z') (fun l => ∃ a b, l = a ++ b ∧ T a ∧ T' b)
theorem Flds.read {H : Type} {enc : TypeId × Value → H} {w : World} {n o : Nat} {fs : List Field} (h : Flds P o fs z T) : ∀ {cs : List Value}, o + z ≤ cs.length → (∀ f ∈ fs, ∃ x, DataW.trod enc P w 0 (fun _ => true) true n f.type ((cs.drop f.offset).take (P.cellsOf f.type)) = some x) → ∃ l, T l ∧ l.length = z ∧ FRL w (Old w) l ((cs.drop o).take z) := by
 induction h with
 | nil => exact fun _ _ => ⟨[], rfl, rfl, by simp [FRL]⟩
 | @cons o z z' f fs T T' ho hr _ ih =>
  intro cs hl hf
  obtain ⟨b, h1, h2, h3⟩ := ih (cs := cs) (by omega) fun f hm => hf f (List.mem_cons_of_mem _ hm)
  obtain ⟨x, hx⟩ := hf f List.mem_cons_self
  obtain ⟨a, g1, g2, g3⟩ := hr.2 H enc w n _ x hx
  rw [ho, hr.1] at g3
  refine ⟨a ++ b, ⟨a, b, rfl, g1, h1⟩, by simp [g2, h2], ?_⟩
  rw [List.take_add, List.drop_drop]
  exact frl_app g3 h3
theorem rd_struct {fs : List Field} {z' : Nat} (ht : P.underlying t = some (.struct fs.toArray)) (hz : P.cellsOf t = z) (h : Flds P 0 fs z' T) (e : z' = z := by rfl) : Reads P t z T := ⟨hz, fun H enc w fuel cs x hx => by
 subst e
 obtain ⟨xs, n, _, rfl, hl, hlen, hf⟩ := DataW.trod_struct ht hx
 rw [hz] at hl
 obtain ⟨l, h1, h2, h3⟩ := h.read (H := H) (enc := enc) (w := w) (n := n) (cs := cs) (by omega) fun f hm => by
  obtain ⟨i, hi⟩ := List.mem_iff_getElem?.1 hm
  have h1 := hf i f (by simpa using hi)
  have h2 : i < xs.length := by
   have := (List.getElem?_eq_some_iff.1 hi).1
   simp at hlen
   omega
  rw [List.getElem?_eq_getElem h2] at h1
  exact ⟨_, h1⟩
 refine ⟨l, h1, h2, ?_⟩
 rw [List.drop_zero, List.take_of_length_le (by omega)] at h3
 exact h3⟩
theorem rd_slice (ht : P.underlying t = some (.slice e)) (hz : P.cellsOf t = 1) (hz0 : 0 < z) (h : Reads P e z T) : Reads P t 1 (fun l => ∃ rows : List (List Tr), (∀ r ∈ rows, T r ∧ r.length = z) ∧ l = [.s false e z rows.length rows.flatten]) := ⟨hz, fun H enc w fuel cs x hx => by
 have hlen : ∀ (rows : List (List Tr)), (∀ r ∈ rows, T r ∧ r.length = z) → rows.flatten.length = rows.length * z := by
  intro rows
  induction rows with
  | nil => intro _; simp
  | cons r rows ih =>
   intro hr
   rw [List.flatten_cons, List.length_append, (hr r List.mem_cons_self).2, ih fun r hm => hr r (List.mem_cons_of_mem _ hm), List.length_cons, Nat.succ_mul, Nat.add_comm]
 rcases Deep.open_slice ht hx with ⟨rfl, _⟩ | ⟨a, len, cap, m, n, D, Pl, rfl, _, hl, hm, hmm, _, hel⟩
 ·refine ⟨_, ⟨[], fun _ h => (by cases h), rfl⟩, rfl, ?_⟩
  simp only [FRL, FR, and_true]
  exact ⟨none, 0, rfl, Nat.le_refl _, by omega, by simp, .inl rfl⟩
 have hmc : m = cap := by simpa using hmm
 rw [h.1] at hel
 have hex : ∀ i : Nat, ∃ l : List Tr, i < len → T l ∧ l.length = z ∧ ∀ j y, l[j]? = some y → ∃ u, w.cell? ((a.add (i * z)).add j) = some u ∧ FR w (Old w) y u := fun i => by
  by_cases hi : i < len
  ·obtain ⟨cs', h1, h2⟩ := hel i (by omega)
   obtain ⟨l, g1, g2, g3⟩ := h.2 H enc w n cs' _ h2
   obtain ⟨_, h3, h4⟩ := World.cells?_some h1
   refine ⟨l, fun _ => ⟨g1, g2, fun j y hj => ?_⟩⟩
   obtain ⟨u, hu, hy⟩ := frl_get g3 hj
   have hjl := (List.getElem?_eq_some_iff.1 hj).1
   exact ⟨u, by rw [h4 j (by omega), hu], hy⟩
  exact ⟨[], fun h => absurd h hi⟩
 have hF := fun i => Classical.choose_spec (hex i)
 have hrow : ∀ r ∈ (List.range len).map (fun i => Classical.choose (hex i)), T r ∧ r.length = z := fun r hr => by
  obtain ⟨i, hi, rfl⟩ := List.mem_map.1 hr
  have := hF i (List.mem_range.1 hi)
  exact ⟨this.1, this.2.1⟩
 refine ⟨_, ⟨_, hrow, rfl⟩, rfl, ?_⟩
 have h5 := hlen _ hrow
 simp only [FRL, and_true, FR]
 refine ⟨some a, cap, by simp, by simpa using hl, by unfold maxLen at hm; omega, h5, ?_⟩
 rcases Nat.eq_zero_or_pos len with h0 | h0
 ·exact .inl (by simp [h0])
 refine .inr ⟨a, rfl, ?_, FRc_mk fun j y hj => ?_⟩
 ·obtain ⟨_, g2, g3⟩ := hF 0 h0
  obtain ⟨u, hu, _⟩ := g3 0 _ (List.getElem?_eq_getElem (by omega))
  have := World.block_lt_of_cell? w ((a.add (0 * z)).add 0) hu
  rwa [block_add, block_add] at this
 have hjl := (List.getElem?_eq_some_iff.1 hj).1
 rw [h5, List.length_map, List.length_range] at hjl
 have hi : j / z < len := Nat.div_lt_of_lt_mul (by rw [Nat.mul_comm]; exact hjl)
 obtain ⟨_, g2, g3⟩ := hF (j / z) hi
 have hz1 := Nat.mod_lt j hz0
 have hget : ∀ (rows : List (List Tr)), (∀ r ∈ rows, T r ∧ r.length = z) → ∀ (i o : Nat) (r : List Tr), rows[i]? = some r → o < z → rows.flatten[i * z + o]? = r[o]? := by
  intro rows
  induction rows with
  | nil => intro _ i o r h; simp at h
  | cons r rows ih =>
   intro hr i o r' hi ho
   have hrl := (hr r List.mem_cons_self).2
   cases i with
   | zero =>
    simp at hi
    subst hi
    rw [Nat.zero_mul, Nat.zero_add, List.flatten_cons, List.getElem?_append_left (by omega)]
   | succ i =>
    rw [List.flatten_cons, List.getElem?_append_right (by rw [Nat.succ_mul]; omega), hrl, show (i + 1) * z + o - z = i * z + o by rw [Nat.succ_mul]; omega]
    exact ih (fun r hm => hr r (List.mem_cons_of_mem _ hm)) i o r' (by simpa using hi) ho
 have hd := Nat.div_add_mod j z
 rw [Nat.mul_comm] at hd
 rw [← hd, hget _ hrow (j / z) (j % z) (Classical.choose (hex (j / z))) (by simp [hi]) hz1] at hj
 obtain ⟨u, hu, hy⟩ := g3 _ _ hj
 refine ⟨u, ?_, hy⟩
 rw [Nat.zero_add]
 have e2 : (a.add (j / z * z)).add (j % z) = a.add j := by rw [add_add, hd]
 rwa [e2] at hu⟩
theorem rows_of {α : Type} (f : α → List Tr) (Q : α → Prop) : ∀ {rows : List (List Tr)}, (∀ r ∈ rows, ∃ a, Q a ∧ r = f a) → ∃ xs : List α, (∀ a ∈ xs, Q a) ∧ rows.flatten = xs.flatMap f ∧ rows.length = xs.length
 | [], _ => ⟨[], fun _ h => (by cases h), rfl, rfl⟩
 | r :: rows, h => by
  obtain ⟨a, h1, rfl⟩ := h r List.mem_cons_self
  obtain ⟨xs, h2, h3, h4⟩ := rows_of f Q fun r hm => h r (List.mem_cons_of_mem _ hm)
  exact ⟨a :: xs, fun b hb => (List.mem_cons.1 hb).elim (fun e => e ▸ h1) (h2 b), by simp [h3], by simp [h4]⟩
theorem rd_limbs (ht : P.underlying t = some (.slice e)) (he : P.underlying e = some (.int .u32)) (hz : P.cellsOf t = 1) (hze : P.cellsOf e = 1) (hn : e = 109) : Reads P t 1 (fun l => ∃ xs : List Nat, Lim 4294967296 xs ∧ l = [sU false xs]) :=
 (rd_slice ht hz (by omega) (rd_int he hze)).mono fun l ⟨rows, h1, h2⟩ => by
  obtain ⟨xs, h3, h4, h5⟩ := rows_of (fun n : Nat => [Tr.v (.int .u32 (n : Int))]) (fun n => n < 4294967296) (rows := rows) fun r hr => by
   obtain ⟨⟨n, rfl, h1, h2⟩, _⟩ := h1 r hr
   have e1 : IntKind.u32.min = 0 := rfl
   have e2 : IntKind.u32.max = 4294967295 := rfl
   rw [e1] at h1
   rw [e2] at h2
   exact ⟨n.toNat, by omega, by rw [Int.toNat_of_nonneg h1]⟩
  refine ⟨xs, h3, ?_⟩
  rw [h2, h4, h5, sU, hn]
  have : ∀ xs : List Nat, xs.flatMap (fun n : Nat => [Tr.v (.int .u32 (n : Int))]) = u32T xs := by
   intro xs
   induction xs with
   | nil => rfl
   | cons n xs ih => rw [List.flatMap_cons, ih]; rfl
  rw [this]
theorem rd_frac (hb : Reads P t z (fun l => ∃ a b, l = a ++ b ∧ (∃ s, a = [.v (.bool s)]) ∧ ∃ b' c', b = b' ++ c' ∧ (∃ xs : List Nat, Lim 4294967296 xs ∧ b' = [sU false xs]) ∧ c' = [])) : Reads P t z (fun l => ∃ (s : Bool) (xs : List Nat), Lim 4294967296 xs ∧ l = [.v (.bool s), sU false xs]) :=
 hb.mono fun l ⟨a, b, h1, ⟨s, h2⟩, b', c', h3, ⟨xs, h4, h5⟩, h6⟩ => ⟨s, xs, h4, by rw [h1, h2, h3, h5, h6]; rfl⟩
end
def LimF (a : Fr4) : Prop := Lim 4294967296 a.x ∧ Lim 4294967296 a.y
end Go.Proofs.YtofllcodkcjajaaGreat
namespace Go.Proofs.YtofllcodkcjajaaGreat
open Go Go.ChangeShapes Go.WideShapes Go.ChangeAt Go.RowKit
theorem cz_big : Tryz.prog.cellsOf 24 = 2 := by kernel_rfl
theorem cz_bool : Tryz.prog.cellsOf 4 = 1 := by kernel_rfl
theorem cz_int : Tryz.prog.cellsOf 3 = 1 := by kernel_rfl
theorem cz_u32 : Tryz.prog.cellsOf 109 = 1 := by kernel_rfl
theorem cz_limbs : Tryz.prog.cellsOf 22 = 1 := by kernel_rfl
theorem cz_rat : Tryz.prog.cellsOf 26 = 4 := by kernel_rfl
theorem rd_big : Reads Tryz.prog 24 2 (fun l => ∃ (s : Bool) (xs : List Nat), Lim 4294967296 xs ∧ l = [.v (.bool s), sU false xs]) := by
 have h1 := rd_bool Tryz.underlying4 cz_bool
 have h2 := rd_limbs Tryz.underlying22 Tryz.underlying109 cz_limbs cz_u32 rfl
 have h3 := rd_struct Tryz.underlying24 cz_big (.cons rfl h1 (.cons rfl h2 .nil))
 exact rd_frac h3
theorem rd_rat : Reads Tryz.prog 26 4 (fun l => ∃ a : Fr4, LimF a ∧ l = a.tr false) :=
 (rd_struct Tryz.underlying26 cz_rat (.cons rfl rd_big (.cons rfl rd_big .nil))).mono fun l ⟨a, b, h1, ⟨s, xs, h2, h3⟩, b', c', h4, ⟨t, ys, h5, h6⟩, h7⟩ => ⟨⟨s, xs, t, ys⟩, ⟨h2, h5⟩, by rw [h1, h3, h4, h6, h7]; rfl⟩
theorem ARL_frl {W : World} {N : Nat → Prop} : ∀ {l : List Tr} {us : List Value}, FRL W N l us → ARL W N [] (l.map .t) us
 | [], us, h => by simpa [FRL, ARL] using h
 | x :: l, u :: us, h => by
  simp only [FRL] at h
  simp only [List.map_cons, ARL, AR]
  exact ⟨h.1, ARL_frl h.2⟩
 | _ :: _, [], h => by simp only [FRL] at h
theorem in_agg {W : World} {l : List Tr} {cs : Array Value} (h : FRL W (Old W) l (Value.agg cs).cells.toList) : FVR1 W (Old W) [] (.agg (l.map .t)) (.agg cs) := ⟨cs.toList, by simp, ARL_frl (by simpa [Value.cells] using h)⟩
theorem in_one {W : World} {y : Tr} {u : Value} (hu : u.cells.toList = [u]) (h : FRL W (Old W) [y] u.cells.toList) : FVR1 W (Old W) [] (.one (.t y)) u := by
 rw [hu] at h
 simp only [FRL, and_true] at h
 simpa only [FVR1, AR] using h
theorem LimF.sh {a : Fr4} (h : LimF a) : ShOk a := fun h2 => by
 simp only [shortM, Bool.and_eq_true, decide_eq_true_eq] at h2
 exact ⟨h.1, h.2, by omega, by omega⟩
theorem cz_yr : Tryz.prog.cellsOf 70 = 8 := by kernel_rfl
theorem cz_rules : Tryz.prog.cellsOf 28 = 6 := by kernel_rfl
theorem cz_yrs : Tryz.prog.cellsOf 29 = 1 := by kernel_rfl
theorem rd_yr : Reads Tryz.prog 70 8 (fun l => ∃ y : Fr4 × Fr4, (LimF y.1 ∧ LimF y.2) ∧ l = ytr y) :=
 (rd_struct Tryz.underlying70 cz_yr (.cons rfl rd_rat (.cons rfl rd_rat .nil))).mono
  fun l ⟨a, b, h1, ⟨p, h2, h3⟩, b', c', h4, ⟨q, h5, h6⟩, h7⟩ => ⟨(p, q), ⟨h2, h5⟩, by rw [h1, h3, h4, h6, h7]; rfl⟩
theorem rd_yrs : Reads Tryz.prog 29 1 (fun l => ∃ xs : List (Fr4 × Fr4), (∀ x ∈ xs, LimF x.1 ∧ LimF x.2) ∧ l = [sMy xs]) :=
 (rd_slice Tryz.underlying29 cz_yrs (by omega) rd_yr).mono fun l ⟨rows, h1, h2⟩ => by
  obtain ⟨xs, h3, h4, h5⟩ := rows_of ytr (fun y : Fr4 × Fr4 => LimF y.1 ∧ LimF y.2) (rows := rows) fun r hr => (h1 r hr).1
  exact ⟨xs, h3, by rw [h2, h4, h5]; rfl⟩
theorem rd_rules : Reads Tryz.prog 28 6 (fun l => ∃ (c : Fr4) (bk fw : Int), LimF c ∧ l = c.tr false ++ [.v (.int .i64 bk), .v (.int .i64 fw)]) :=
 (rd_struct Tryz.underlying28 cz_rules (.cons rfl rd_rat (.cons rfl (rd_int Tryz.underlying3 cz_int) (.cons rfl (rd_int Tryz.underlying3 cz_int) .nil)))).mono
  fun l ⟨a, b, h1, ⟨c, h2, h3⟩, b', c', h4, ⟨m, h5, _⟩, d, e, h6, ⟨n, h7, _⟩, h8⟩ => ⟨c, m, n, h2, by rw [h1, h3, h4, h5, h6, h7, h8]; rfl⟩
end Go.Proofs.YtofllcodkcjajaaGreat
