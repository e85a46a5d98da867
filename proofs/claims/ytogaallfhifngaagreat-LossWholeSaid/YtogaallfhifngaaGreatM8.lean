/- Part 8 of a proof: Av20 to Av22. -/
import Derived.Test.YtogaallfhifngaaGreatM4
import Derived.Test.YtogaallfhifngaaGreatM7
set_option linter.unusedVariables false
set_option linter.unusedSimpArgs false
/- Rows of one's own, read and written at a place that is reckoned; rows that are made. -/
namespace Go.Proofs.YtogaallfhifngaaGreat
open Go Go.RowKit

theorem dp_get {β : Type} : ∀ {o : Nat} {l : List AV} {a : AV} {r : List AV} {k : List AV → Option β}, l.drop o = a :: r → dp o l k = k (a :: r)
  | 0, l, a, r, k, h => by rw [List.drop_zero] at h; subst h; rfl
  | o + 1, [], a, r, k, h => by simp at h
  | o + 1, b :: l, a, r, k, h => by
    rw [List.drop_succ_cons] at h
    exact dp_get (o := o) h
theorem evL_at {ob : List (Option Ob)} {i : TI} {k o t z : Nat} {l : List AV} {a : AV} (ho : obAt ob k = some ⟨t, z, l⟩) (hx : l[o]? = some a) (ha : i.agg = false) (hr : rdA a = true) : evL ob i (.one (.pt k o)) = some (True, .one a) := by
  obtain ⟨h1, h2⟩ := List.getElem?_eq_some_iff.1 hx
  have h3 : l.drop o = a :: l.drop (o + 1) := by rw [List.drop_eq_getElem_cons h1, h2]
  unfold evL
  dsimp only
  rw [ho]
  dsimp only
  unfold evLd
  rw [dp_get h3, ha]
  simp [rdEv, rdL, hr, ev]
section
variable {x : Cx} {g : Nat → FV} {ob ob' : List (Option Ob)} {Q : Post} {ops : Array Oper} {rest : List Oper} {d : Nat} {ty : TypeId} {pos : String} {af : Array Edge} {gd : Option (Nat × Bool)} {T : List (Nat × TI)}
theorem os_mk {t e by_ k m : Nat} {ti : Bool} {ts0 : Nat} {z0 : List Value} {kk k1 k2 : IntKind} {a b : Operand} (hT : TTok x.P T) (ht : ttGet T t = some ⟨ti, ts0, z0, .sl e 1 by_ (.int kk 0)⟩) (ha : lk x.n g a = .one (tv (.int k1 (m : Int)))) (hb : lk x.n g b = .one (tv (.int k2 (m : Int)))) (hby : by_ ≤ 16) (hm : m ≤ 8796093022208) (hk : keyOk ob k = true) :
    OS x ⟨some d, .makeSlice t a b, ty, pos, af, gd⟩ g ob [] (fun g' ob2 => g' = upF g d (.one (.sl k 0 m)) ∧ ob2 = ob ++ [some ⟨e, 1, (List.replicate m (Value.int kk 0)).map tv⟩]) := by
  obtain ⟨_, hel⟩ := (tt_get hT ht).2.2.2
  obtain ⟨hu, i, hi, hz, hsize, hby', hzs, hsz⟩ := hel
  subst hby'
  have hk := Nat.eq_of_beq_eq_true hk
  subst hk
  intro cs ts W hR K Q' kk'
  have e1 := hR.lk a
  rw [ha] at e1
  have e1 := tv_of e1
  have e2 := hR.lk b
  rw [hb] at e2
  have e2 := tv_of e2
  have hmul : i.bytes * m ≤ 16 * 8796093022208 := Nat.mul_le_mul hby hm
  obtain ⟨w', hrun, h1, h2⟩ := run_make_full (P := x.P) W 0 t e i (.int kk 0) 1 hu hi hz hsize k1 k2 m (by omega) (by unfold maxLen; omega) (Nat.zero_le _)
  have hrun' : (execOp (Act.eval ⟨ts, []⟩) ⟨some d, .makeSlice t a b, ty, pos, af, gd⟩).run x.P W = .ok (.value (.slice (some ⟨W.heap.size, 0, none⟩) m m)) w' := by
    simp [execOp, e1, e2, hrun]
  have e0 : (madeCells (Value.int kk 0).cells (m * 1)).toList = List.replicate m (.int kk 0) := by
    rw [Nat.mul_one]
    show (madeCells #[Value.int kk 0] m).toList = _
    rw [toList_madeCells_one]
  rw [e0] at h1
  generalize hus : List.replicate m (Value.int kk 0) = us at h1 kk'
  have hbl : Below W.heap.size W w' := (Below.refl _ _).grown h2 (Nat.le_refl _) (fun k hk => by cases hk)
  rcases h1.2 with ⟨hh, _⟩ | ⟨g1, cap, cur, hv, _, hg, hnc, hcm, hcs, htake⟩
  · injection hh with h3; cases h3
  · injection hv with q1 q2 q3
    injection q1 with q1
    injection q1 with q1
    subst q1 q3
    have hlt : W.heap.size < w'.heap.size := (Array.getElem?_eq_some_iff.1 hg).1
    have hcur : cur.toList = us := by
      have h9 : cur.toList.length = m * 1 := by simpa using hcs
      rw [← htake, List.take_of_length_le (by omega)]
    have hS : ∀ b ∈ (resC (some ⟨e, 1, us.map tv⟩) ⟨some W.heap.size, m, us.map .w⟩).S, W.heap.size ≤ b ∧ b < w'.heap.size := by
      intro b hb
      simp [resC, fpL_w] at hb
      subst hb
      exact ⟨Nat.le_refl _, hlt⟩
    have hown : ∀ b ∈ ownd (ob ++ [some ⟨e, 1, us.map tv⟩]) (cs ++ [⟨some W.heap.size, m, us.map .w⟩]), b ∈ ownd ob cs ∨ W.heap.size ≤ b := by
      intro b hb
      unfold ownd ress at hb
      rw [List.zipWith_append hR.len, List.flatMap_append, List.mem_append] at hb
      rcases hb with hb | hb
      · exact .inl hb
      · exact .inr (hS b (by simpa using hb)).1
    have m1 : RelC x g (ob ++ [some ⟨e, 1, us.map tv⟩]) (cs ++ [⟨some W.heap.size, m, us.map .w⟩]) ts w' := by
      refine hR.push hbl _ _ ?_ hS (by simp [resC, fpL_w]) ?_ (fun e => by cases e)
      · have hul : us.length = m := by rw [← hus, List.length_replicate]
        simp only [resC, val_w]
        refine ⟨⟨[], ?_, by simp [hul]⟩, okL_w _, hcm⟩
        rw [List.append_nil, hg, ← hcur]
      · exact CRL_of (ARL_tv _) (rdL_tv _)
    refine wp_of_run hrun' (kk' _ _ _ _ _ ⟨rfl, rfl⟩ (m1.put d ?_) ((Aft.mk .app (fun k _ hk => co_app hk) hbl.size (fun b hlt _ => hbl.block b hlt) hown (fun _ _ => rfl) : Aft [] (some d) ob cs ts W _ _ ts w').then_put _))
    refine one_of ?_
    simp only [AR]
    rw [hR.len, co_last]
    exact ⟨by simp [hR.len], 0, m, rfl, Nat.le_refl _, hcm, fun _ => rfl, fun _ => rfl⟩
/-! a nil cell of an object, told as a row of one's own -/
inductive FzN (key : Nat) : List AV → List AV → Prop
  | nil : FzN key [] []
  | id {a : AV} {l l' : List AV} (h : FzN key l l') : FzN key (a :: l) (a :: l')
  | sl {l l' : List AV} (h : FzN key l l') : FzN key (tv (.slice none 0 0) :: l) (.sl key 0 0 :: l')
theorem FzN.ok {key : Nat} {W : World} {N : Nat → Prop} {cs : List Co} (hk : key < cs.length) (hb : (co cs key).b = none) : ∀ {l l' : List AV}, FzN key l l' → ∀ {ys : List VT}, CRL W N cs l ys → CRL W N cs l' ys
  | _, _, .nil, ys, h => h
  | _, _, .id h', [], h => by simp only [CRL] at h
  | _, _, .id h', y :: ys, h => by
    simp only [CRL] at h ⊢
    exact ⟨h.1, FzN.ok hk hb h' h.2⟩
  | _, _, .sl h', [], h => by simp only [CRL] at h
  | _, _, .sl h', y :: ys, h => by
    simp only [CRL] at h ⊢
    refine ⟨?_, FzN.ok hk hb h' h.2⟩
    have h1 := h.1
    simp only [tv, CR, OR] at h1
    subst h1
    simp only [CR, AR, hb]
    exact ⟨hk, trivial, trivial, trivial⟩
theorem FzN.nl {key : Nat} : ∀ {l l' : List AV}, FzN key l l' → (l = [] ↔ l' = [])
  | _, _, .nil => Iff.rfl
  | _, _, .id h' => by simp
  | _, _, .sl h' => by simp
theorem nro {j key e z t' z' : Nat} {l l' : List AV} (hz : Nat.beq z 0 = false) (hk : keyOk ob key = true) (ho : obAt ob j = some ⟨t', z', l⟩) (hl : FzN key l l') : Sub x g ob g (ob.set j (some ⟨t', z', l'⟩) ++ [some ⟨e, z, []⟩]) := by
  rintro ts W ⟨cs, hR⟩
  have hk := Nat.eq_of_beq_eq_true hk
  have hj := obAt_eq ho
  have hz0 : z ≠ 0 := fun e => by subst e; simp at hz
  have hlt := (List.getElem?_eq_some_iff.1 hj).1
  have m1 := hR.push (Below.refl _ _) ⟨e, z, []⟩ ⟨none, 0, []⟩ (by simp [resC]) (by simp [resC]) (by simp [resC]) (by simp [CRL]) (fun _ => ⟨rfl, hz0⟩)
  have hj' : (ob ++ [some ⟨e, z, []⟩])[j]? = some (some ⟨t', z', l⟩) := by rw [List.getElem?_append_left hlt]; exact hj
  have hb0 : (co (cs ++ [⟨none, 0, []⟩]) key).b = none := by rw [← hk, hR.len, co_last]
  have hkl : key < (cs ++ [(⟨none, 0, []⟩ : Co)]).length := by rw [← hk, hR.len]; simp
  have hm := m1.obs.2 j _ hj'
  have hup := m1.upd hj' ⟨t', z', l'⟩ (co (cs ++ [⟨none, 0, []⟩]) j) (Chg.refl _ _) rfl rfl (by rw [resC_l l' l]; exact m1.res hj') (fun b hb => .inl (by rw [resC_l l l']; exact hb)) (by rw [resC_l l' l]; exact m1.2.nd1 (List.mem_of_getElem? (ress_get m1.len hj')))
    (fun h1 h2 h3 => by
      have h4 : CRL W (x.fr W (ob ++ [some ⟨e, z, []⟩]) (cs ++ [⟨none, 0, []⟩])) (cs ++ [⟨none, 0, []⟩]) l' (co (cs ++ [⟨none, 0, []⟩]) j).l := hl.ok hkl hb0 hm.1
      exact CRL_keep (fun _ _ => rfl) h2 h3 _ _ h4) (fun hb => by
      have := hm.2 hb
      exact ⟨hl.nl.1 this.1, this.2⟩)
  have e1 : (ob ++ [some (⟨e, z, []⟩ : Ob)]).set j (some ⟨t', z', l'⟩) = ob.set j (some ⟨t', z', l'⟩) ++ [some ⟨e, z, []⟩] := List.set_append_left _ _ hlt
  rw [e1] at hup
  exact ⟨_, hup.1⟩
/-! short words -/
theorem mk {t e by_ m : Nat} {ti : Bool} {ts0 : Nat} {z0 : List Value} {kk k1 k2 : IntKind} {a b : Operand} (key : Nat) (hm : m ≤ 8796093022208) {l : List AV} (hl : (List.replicate m (Value.int kk 0)).map tv = l) (k : WL x ops rest (upF g d (.one (.sl key 0 m))) (ob ++ [some ⟨e, 1, l⟩]) Q) (hT : TTok x.P ttab := by exact ttok) (hw : wantA ops x.n g gd = some true := by rfl)
    (ht : ttGet ttab t = some ⟨ti, ts0, z0, .sl e 1 by_ (.int kk 0)⟩ := by rfl) (ha : lk x.n g a = .one (tv (.int k1 (m : Int))) := by rfl) (hb : lk x.n g b = .one (tv (.int k2 (m : Int))) := by rfl) (hby : by_ ≤ 16 := by decide) (hk : keyOk ob key = true := by rfl) : WL x ops (⟨some d, .makeSlice t a b, ty, pos, af, gd⟩ :: rest) g ob Q := by
  subst hl
  exact w_os (os_mk hT ht ha hb hby hm hk) hw (by rintro _ _ ⟨rfl, rfl⟩; exact k)
theorem ldo {t key o t' z' : Nat} {ti : TI} {a : Operand} {l : List AV} {v : AV} (hx : l[o]? = some v) (k : WL x ops rest (upF g d (.one v)) ob Q) (hT : TTok x.P ttab := by exact ttok) (hw : wantA ops x.n g gd = some true := by rfl) (hti : ttGet ttab t = some ti := by rfl) (hlk : lk x.n g a = .one (.pt key o) := by rfl) (ho : obAt ob key = some ⟨t', z', l⟩ := by rfl) (ha : ti.agg = false := by rfl) (hr : rdA v = true := by rfl) :
    WL x ops (⟨some d, .load t a, ty, pos, af, gd⟩ :: rest) g ob Q := w_ld hT hw hti (by rw [hlk]; exact evL_at ho hx ha hr) k
theorem sto {t key o t' z' : Nat} {ti : TI} {a b : Operand} {l l' us : List AV} (hl : putA l o us = l') (hle : o + us.length ≤ l.length) (k : WL x ops rest g (ob.set key (some ⟨t', z', l'⟩)) Q) (hT : TTok x.P ttab := by exact ttok) (hw : wantA ops x.n g gd = some true := by rfl) (hti : ttGet ttab t = some ti := by rfl) (hlk : lk x.n g a = .one (.pt key o) := by rfl) (ho : obAt ob key = some ⟨t', z', l⟩ := by rfl)
    (hb : celF (lk x.n g b) = some us := by rfl) (hlo : loneL us = true := by rfl) (hsz : Nat.beq us.length ti.size = true := by rfl) : WL x ops (⟨none, .store t a b, ty, pos, af, gd⟩ :: rest) g ob Q :=
  w_os (os_str hT hti hlk hb hlo hsz ho hle hl) hw (by rintro _ _ ⟨rfl, rfl⟩; exact k)
variable {late : Nat → Bool} {K fr : List Nat} {on : Bool} {fuel : Nat} {listed : Array Bool}
theorem dldo {t key o t' z' : Nat} {ti : TI} {a : Operand} {l : List AV} {v : AV} (i : Nat) (hx : l[o]? = some v) (k : WD x ops Q late K fr true fuel (listed.setIfInBounds i true) (upF g d (.one v)) ob) (hT : TTok x.P ttab := by exact ttok) (hi : ops[i]? = some ⟨some d, .load t a, ty, pos, af, gd⟩ := by rfl) (hst : stat ops late listed i = true := by kernel_rfl) (hw : wantA ops x.n g gd = some true := by rfl) (hti : ttGet ttab t = some ti := by rfl)
    (hlk : lk x.n g a = .one (.pt key o) := by rfl) (hK : K.contains key = true := by rfl) (ho : obAt ob key = some ⟨t', z', l⟩ := by rfl) (ha : ti.agg = false := by rfl) (hr : rdA v = true := by rfl) : WD x ops Q late K fr true (fuel + 1) listed g ob := dl i hT hi hst hw hti hlk hK (evL_at ho hx ha hr) k
theorem dsto {t key o t' z' : Nat} {ti : TI} {a b : Operand} {l l' us : List AV} (i : Nat) (hl : putA l o us = l') (hle : o + us.length ≤ l.length) (k : WD x ops Q late K fr false fuel (listed.setIfInBounds i true) g (ob.set key (some ⟨t', z', l'⟩))) (hT : TTok x.P ttab := by exact ttok) (hr : Region.ready .any ops listed = [i] := by kernel_rfl) (hi : ops[i]? = some ⟨none, .store t a b, ty, pos, af, gd⟩ := by rfl) (hw : wantA ops x.n g gd = some true := by rfl) (hti : ttGet ttab t = some ti := by rfl)
    (hlk : lk x.n g a = .one (.pt key o) := by rfl) (ho : obAt ob key = some ⟨t', z', l⟩ := by rfl) (hb : celF (lk x.n g b) = some us := by rfl) (hlo : loneL us = true := by rfl) (hsz : Nat.beq us.length ti.size = true := by rfl) (hlate : late i = true := by rfl) : WD x ops Q late K fr on (fuel + 1) listed g ob := by
  refine do_ i hr hi hw (os_str (ty := ty) (pos := pos) (af := af) (gd := gd) hT hti hlk hb hlo hsz ho hle hl) false (fun h => by cases h) (fun h => by rw [hlate] at h; cases h) (fun h => by cases h) fun g' ob' hR => ?_
  obtain ⟨rfl, rfl⟩ := hR
  exact k
end
end Go.Proofs.YtogaallfhifngaaGreat

/- Numbers of the references: plain laws. -/
namespace Go.Proofs.YtogaallfhifngaaGreat
open Go Go.RowKit

section
variable {l : List Nat} {k N : Nat} {z : Int} {xs : List Nat} {neg : Bool}
theorem zin_wrong' (hr : rightI neg xs = false) : zin neg xs = 0 := by simp [zin, hr]
theorem rightI_nil (h : xs.length = 0) : rightI neg xs = !neg := by
  rw [List.length_eq_zero_iff] at h
  subst h
  simp [rightI]
theorem rightI_pos {n : Nat} (hn : xs.length = n) (h : 0 < n) : rightI neg xs = decide (((nth xs (n - 1) : Nat) : Int) ≠ 0) := by
  subst hn
  rcases xs with _ | ⟨x, l⟩
  · simp at h
  · simp only [rightI, List.isEmpty_cons, Bool.false_and, Bool.not_false, Bool.true_and, Bool.false_or]
    by_cases h0 : nth (x :: l) ((x :: l).length - 1) = 0
    · rw [h0]; rfl
    · rw [bne_iff_ne.2 h0, decide_eq_true (by omega)]
theorem sgn_not (k : Int) : sgn (!(sgz k)) k.natAbs = -k := by
  unfold sgn sgz
  by_cases h : k < 0 <;> simp [h] <;> omega
theorem add_len {xs ys : List Nat} (hx : Lim 4294967296 xs) (hy : Lim 4294967296 ys) : (dg 4294967296 (vl 4294967296 xs + vl 4294967296 ys)).length ≤ xs.length + ys.length + 1 := by
  refine dg_length_le (by omega) ?_
  have h1 := vl_lt hx
  have h2 := vl_lt hy
  have h3 : 4294967296 ^ xs.length ≤ 4294967296 ^ (xs.length + ys.length) := Nat.pow_le_pow_right (by omega) (by omega)
  have h4 : 4294967296 ^ ys.length ≤ 4294967296 ^ (xs.length + ys.length) := Nat.pow_le_pow_right (by omega) (by omega)
  rw [Nat.pow_succ]
  omega
theorem sub_len {xs ys : List Nat} (hx : Lim 4294967296 xs) : (dg 4294967296 (vl 4294967296 xs - vl 4294967296 ys)).length ≤ xs.length := dg_length_le (by omega) (Nat.lt_of_le_of_lt (Nat.sub_le _ _) (vl_lt hx))
theorem mul_len {xs ys : List Nat} (hx : Lim 4294967296 xs) (hy : Lim 4294967296 ys) : (dg 4294967296 (vl 4294967296 xs * vl 4294967296 ys)).length ≤ xs.length + ys.length := by
  refine dg_length_le (by omega) ?_
  rw [Nat.pow_add]
  exact Nat.mul_lt_mul'' (vl_lt hx) (vl_lt hy)
theorem natAbs_val (k : Int) : vl 4294967296 (dg 4294967296 k.natAbs) = k.natAbs := vl_dg (by omega) _
theorem dg_le_len {a b : Nat} (h : a ≤ b) : (dg 4294967296 a).length ≤ (dg 4294967296 b).length := dg_length_mono (by omega) h
theorem addz_len (k k' : Int) : (dg 4294967296 (k + k').natAbs).length ≤ (dg 4294967296 k.natAbs).length + (dg 4294967296 k'.natAbs).length + 1 := by
  have h := add_len (Lim_dg (B := 4294967296) (by omega) k.natAbs) (Lim_dg (B := 4294967296) (by omega) k'.natAbs)
  rw [natAbs_val, natAbs_val] at h
  exact Nat.le_trans (dg_le_len (by omega)) h
theorem mulz_len (k k' : Int) : (dg 4294967296 (k * k').natAbs).length ≤ (dg 4294967296 k.natAbs).length + (dg 4294967296 k'.natAbs).length := by
  rw [Int.natAbs_mul]
  have h := mul_len (Lim_dg (B := 4294967296) (by omega) k.natAbs) (Lim_dg (B := 4294967296) (by omega) k'.natAbs)
  rwa [natAbs_val, natAbs_val] at h
theorem negz_len (k : Int) : (dg 4294967296 (-(k)).natAbs).length = (dg 4294967296 k.natAbs).length := by rw [Int.natAbs_neg]
theorem of_parts {n : Int} (h1 : -9223372036854775808 ≤ n) (h2 : n ≤ 9223372036854775807) : -4294967295 ≤ Int.tmod n 4294967296 ∧ Int.tmod n 4294967296 ≤ 4294967295 ∧ -2147483648 ≤ Int.tdiv n 4294967296 ∧ Int.tdiv n 4294967296 ≤ 2147483648 ∧ (Int.tmod n 4294967296).natAbs + 4294967296 * (Int.tdiv n 4294967296).natAbs = n.natAbs ∧ True := by
  obtain ⟨m, hm⟩ : ∃ m : Nat, n.natAbs = m := ⟨_, rfl⟩
  rw [hm]
  rcases (show n = m ∨ n = -(m : Int) by omega) with h | h
  · subst h
    have e1 : Int.tmod (m : Int) 4294967296 = ((m % 4294967296 : Nat) : Int) := by rw [Int.tmod_eq_emod_of_nonneg (by omega)]; omega
    have e2 : Int.tdiv (m : Int) 4294967296 = ((m / 4294967296 : Nat) : Int) := by rw [Int.tdiv_eq_ediv_of_nonneg (by omega)]; omega
    rw [e1, e2]
    exact ⟨by omega, by omega, by omega, by omega, by rw [Int.natAbs_natCast, Int.natAbs_natCast]; omega, trivial⟩
  · subst h
    have e1 : Int.tmod (-(m : Int)) 4294967296 = -((m % 4294967296 : Nat) : Int) := by rw [Int.neg_tmod, Int.tmod_eq_emod_of_nonneg (by omega)]; omega
    have e2 : Int.tdiv (-(m : Int)) 4294967296 = -((m / 4294967296 : Nat) : Int) := by rw [Int.neg_tdiv, Int.tdiv_eq_ediv_of_nonneg (by omega)]; omega
    rw [e1, e2]
    exact ⟨by omega, by omega, by omega, by omega, by rw [Int.natAbs_neg, Int.natAbs_neg, Int.natAbs_natCast, Int.natAbs_natCast]; omega, trivial⟩
theorem of_val {n : Int} {a b : Nat} (h : a + 4294967296 * b = n.natAbs) : sgn (decide (n < 0)) (vl 4294967296 [a, b]) = n := by
  have e : vl 4294967296 [a, b] = n.natAbs := by simp [vl]; omega
  rw [e]
  exact sgn_self n
theorem zadd_same {k k' : Int} {s : Bool} (h : s = sgz k) (h' : sgz k = sgz k') : sgn s (k.natAbs + k'.natAbs) = k + k' := by
  subst h
  unfold sgz at *
  unfold sgn
  by_cases h1 : k < 0 <;> by_cases h2 : k' < 0 <;> simp [h1, h2] at h' ⊢ <;> omega
theorem zadd_ge {k k' : Int} {s : Bool} (h : s = sgz k) (h' : sgz k ≠ sgz k') (hl : ¬ k.natAbs < k'.natAbs) : sgn s (k.natAbs - k'.natAbs) = k + k' := by
  subst h
  unfold sgz at *
  unfold sgn
  by_cases h1 : k < 0 <;> by_cases h2 : k' < 0 <;> simp [h1, h2] at h' ⊢ <;> omega
theorem zadd_lt {k k' : Int} {s : Bool} (h : s = sgz k') (h' : sgz k ≠ sgz k') (hl : k.natAbs < k'.natAbs) : sgn s (k'.natAbs - k.natAbs) = k + k' := by
  subst h
  unfold sgz at *
  unfold sgn
  by_cases h1 : k < 0 <;> by_cases h2 : k' < 0 <;> simp [h1, h2] at h' ⊢ <;> omega
theorem parts_step {X os : List Nat} {k q : Nat} {a : Nat} (hk : 0 < k) (hkx : k ≤ X.length) (hos : os.length = X.length) {v r : Nat} (h : vl 65536 (X.drop k) = v * vl 65536 (os.drop k) + r) (ha : a = nth X (k - 1)) (hq : q = (a + 65536 * r) / v) :
    vl 65536 (X.drop (k - 1)) = v * vl 65536 ((os.set (k - 1) q).drop (k - 1)) + (a + 65536 * r - q * v) := by
  obtain ⟨j, rfl⟩ : ∃ j, k = j + 1 := ⟨k - 1, by omega⟩
  simp only [Nat.add_sub_cancel] at *
  have e1 : X.drop j = nth X j :: X.drop (j + 1) := by rw [List.drop_eq_getElem_cons (by omega), nth_get (by omega)]
  have e2 : (os.set j q).drop j = q :: os.drop (j + 1) := by
    rw [List.drop_eq_getElem_cons (by rw [List.length_set]; omega), List.getElem_set_self, List.drop_set_of_lt (by omega)]
  have h2 : q * v ≤ a + 65536 * r := by rw [hq]; exact Nat.div_mul_le_self _ _
  rw [e1, e2, vl_cons, vl_cons, h, Nat.mul_add, Nat.mul_add, Nat.mul_comm v q, Nat.mul_left_comm v 65536, ← ha]
  omega
theorem half_mul_len {xs ys : List Nat} (hx : Lim 65536 xs) (hy : Lim 65536 ys) : (dg 65536 (vl 65536 xs * vl 65536 ys)).length ≤ xs.length + ys.length := by
  refine dg_length_le (by omega) ?_
  rw [Nat.pow_add]
  exact Nat.mul_lt_mul'' (vl_lt hx) (vl_lt hy)
theorem less_len {u v n m : Nat} (hn : (dg 65536 u).length = n) (hm : (dg 65536 v).length = m) (h : n ≠ m) : decide ((n : Int) < (m : Int)) = decide (u < v) := by
  have e1 := vl_dg (B := 65536) (by omega) u
  have e2 := vl_dg (B := 65536) (by omega) v
  rcases Nat.lt_or_gt_of_ne h with h1 | h1
  · have h2 := vl_lt_of_length (B := 65536) (a := dg 65536 u) (b := dg 65536 v) (by omega) (Lim_dg (by omega) u) (trim_dg (by omega) v) (by omega)
    rw [decide_eq_true (by omega), decide_eq_true (by omega)]
  · have h2 := vl_lt_of_length (B := 65536) (a := dg 65536 v) (b := dg 65536 u) (by omega) (Lim_dg (by omega) v) (trim_dg (by omega) u) (by omega)
    rw [decide_eq_false (by omega), decide_eq_false (by omega)]
theorem less_at {u v k : Nat} (hag : ∀ j, k + 1 ≤ j → nth (dg 65536 u) j = nth (dg 65536 v) j) (h : nth (dg 65536 u) k ≠ nth (dg 65536 v) k) : decide (((nth (dg 65536 u) k : Nat) : Int) < ((nth (dg 65536 v) k : Nat) : Int)) = decide (u < v) := by
  have e1 := vl_dg (B := 65536) (by omega) u
  have e2 := vl_dg (B := 65536) (by omega) v
  rcases Nat.lt_or_gt_of_ne h with h1 | h1
  · have h2 := lt_at (Lim_dg (by omega) u) hag h1
    rw [decide_eq_true (by omega), decide_eq_true (by omega)]
  · have h2 := lt_at (Lim_dg (by omega) v) (fun j hj => (hag j hj).symm) h1
    rw [decide_eq_false (by omega), decide_eq_false (by omega)]
theorem take_step {X Y os : List Nat} {n k br br' d : Nat} (hl : os.length = k) (h : vl 65536 os + n * vl 65536 (Y.take k) = vl 65536 (X.take k) + 65536 ^ k * br) (hd : d + n * nth Y k + br = nth X k + 65536 * br') :
    vl 65536 (os ++ [d]) + n * vl 65536 (Y.take (k + 1)) = vl 65536 (X.take (k + 1)) + 65536 ^ (k + 1) * br' := by
  rw [vl_snoc, vl_take_nth, vl_take_nth, hl, Nat.pow_succ, Nat.mul_assoc, Nat.mul_add, Nat.mul_left_comm n]
  have h3 : 65536 ^ k * (d + n * nth Y k + br) = 65536 ^ k * (nth X k + 65536 * br') := by rw [hd]
  rw [Nat.mul_add, Nat.mul_add, Nat.mul_add] at h3
  omega
theorem take_end {u v n k br ln : Nat} {os : List Nat} (hx : (dg 65536 u).length = ln) (hk : os.length = ln) (hol : Lim 65536 os) (h : vl 65536 os + n * vl 65536 ((dg 65536 v).take k) = vl 65536 ((dg 65536 u).take k) + 65536 ^ k * br) (hnv : n * v ≤ u) (hkk : k = ln := by omega) : vl 65536 os = u - n * v := by
  have h1 := vl_lt hol
  rw [vl_take_all 65536 (l := dg 65536 u) (by omega), vl_dg (by omega)] at h
  have h2 : n * vl 65536 ((dg 65536 v).take k) = n * v := by
    rcases Nat.eq_zero_or_pos n with h0 | h0
    · rw [h0, Nat.zero_mul, Nat.zero_mul]
    · have h3 : v ≤ u := Nat.le_trans (Nat.le_mul_of_pos_left v h0) hnv
      have h4 := dg_length_mono (B := 65536) (by omega) h3
      rw [vl_take_all 65536 (l := dg 65536 v) (by omega), vl_dg (by omega)]
  rw [h2] at h
  rcases Nat.eq_zero_or_pos br with h0 | h0
  · rw [h0, Nat.mul_zero] at h
    omega
  · have h5 : 65536 ^ k * 1 ≤ 65536 ^ k * br := Nat.mul_le_mul_left _ h0
    rw [hk, ← hkk] at h1
    omega
theorem often_end {u v lo hi : Nat} (h1 : lo * v ≤ u) (h2 : u < hi * v) (h : hi = lo + 1) : u / v = lo := by
  subst h
  have hv : 0 < v := by
    rcases Nat.eq_zero_or_pos v with h0 | h0
    · subst h0; simp at h2
    · exact h0
  exact (Nat.div_eq_iff hv).2 (by rw [Nat.add_mul] at h2; omega)
theorem trim_cons_dg {a r : Nat} (ha : a < 65536) : trim ([a] ++ dg 65536 r) = dg 65536 (a + 65536 * r) :=
  dg_of (by omega) (Lim.cons ha (Lim_dg (by omega) r)) (by show a + 65536 * vl 65536 (dg 65536 r) = _; rw [vl_dg (by omega)])
theorem cons_len {a r v : Nat} (ha : a < 65536) (hr : r < v) : (dg 65536 (a + 65536 * r)).length ≤ (dg 65536 v).length + 1 := by
  rw [← trim_cons_dg ha]
  refine Nat.le_trans (trim_length _) ?_
  have := dg_length_mono (B := 65536) (by omega) (Nat.le_of_lt hr)
  simp only [List.length_append, List.length_cons, List.length_nil]
  omega
theorem nth_set_self {l : List Nat} {j v : Nat} (h : j < l.length) : nth (l.set j v) j = v := by simp [nth, h]
theorem parts_end {u v r q : Nat} (h : u = v * q + r) (hr : r < v) : q = u / v ∧ r = u % v := by
  subst h
  rw [Nat.mul_add_div (by omega), Nat.div_eq_of_lt hr, Nat.mul_add_mod, Nat.mod_eq_of_lt hr]
  exact ⟨rfl, rfl⟩
theorem sign_ne {x y : Int} (hx : x.sign ≠ 0) (h : x.sign ≠ y.sign) (hy : y ≠ 0) : (x < 0 ∧ 0 < y) ∨ (0 < x ∧ y < 0) := by
  rcases Int.lt_trichotomy x 0 with h1 | h1 | h1
  · rcases Int.lt_trichotomy y 0 with h2 | h2 | h2
    · rw [Int.sign_eq_neg_one_of_neg h1, Int.sign_eq_neg_one_of_neg h2] at h; exact absurd rfl h
    · exact absurd h2 hy
    · exact .inl ⟨h1, h2⟩
  · rw [h1] at hx; exact absurd rfl hx
  · rcases Int.lt_trichotomy y 0 with h2 | h2 | h2
    · exact .inr ⟨h1, h2⟩
    · exact absurd h2 hy
    · rw [Int.sign_eq_one_of_pos h1, Int.sign_eq_one_of_pos h2] at h; exact absurd rfl h
theorem sign_or {x y : Int} (h : x.sign = 0 ∨ x.sign = y.sign) (hy : y ≠ 0) : x = 0 ∨ (x < 0 ∧ y < 0) ∨ (0 < x ∧ 0 < y) := by
  rcases Int.lt_trichotomy x 0 with h1 | h1 | h1
  · rw [Int.sign_eq_neg_one_of_neg h1] at h
    rcases Int.lt_trichotomy y 0 with h2 | h2 | h2
    · exact .inr (.inl ⟨h1, h2⟩)
    · exact absurd h2 hy
    · rw [Int.sign_eq_one_of_pos h2] at h; omega
  · exact .inl h1
  · rw [Int.sign_eq_one_of_pos h1] at h
    rcases Int.lt_trichotomy y 0 with h2 | h2 | h2
    · rw [Int.sign_eq_neg_one_of_neg h2] at h; omega
    · exact absurd h2 hy
    · exact .inr (.inr ⟨h1, h2⟩)
theorem dm_tr {a b : Int} (h0 : b ≠ 0) : sgn (sgz a) (a.natAbs % b.natAbs) + b * sgn (sgz a != sgz b) (a.natAbs / b.natAbs) = a ∧ (sgn (sgz a) (a.natAbs % b.natAbs)).natAbs < b.natAbs := by
  have e := Nat.div_add_mod a.natAbs b.natAbs
  have l := Nat.mod_lt a.natAbs (show 0 < b.natAbs by omega)
  refine ⟨?_, by rw [sgn_abs]; exact l⟩
  generalize a.natAbs / b.natAbs = q at *
  generalize a.natAbs % b.natAbs = r at *
  have e2 : (b.natAbs : Int) * q + r = a.natAbs := by exact_mod_cast e
  by_cases hb : b < 0 <;> by_cases ha : a < 0
  · rw [show (b.natAbs : Int) = -b by omega, show (a.natAbs : Int) = -a by omega, Int.neg_mul] at e2
    simp [sgn, sgz, hb, ha]; omega
  · rw [show (b.natAbs : Int) = -b by omega, show (a.natAbs : Int) = a by omega, Int.neg_mul] at e2
    simp [sgn, sgz, hb, ha, Int.mul_neg]; omega
  · rw [show (b.natAbs : Int) = b by omega, show (a.natAbs : Int) = -a by omega] at e2
    simp [sgn, sgz, hb, ha, Int.mul_neg]; omega
  · rw [show (b.natAbs : Int) = b by omega, show (a.natAbs : Int) = a by omega] at e2
    simp [sgn, sgz, hb, ha]; omega
theorem dm_adj1 {a b r q : Int} (h0 : b ≠ 0) (hr : r = sgn (sgz a) (a.natAbs % b.natAbs)) (hq : q = sgn (sgz a != sgz b) (a.natAbs / b.natAbs)) (h1 : r.sign ≠ 0) (h2 : r.sign ≠ b.sign) : q - 1 = a.fdiv b ∧ r + b = a.fmod b := by
  obtain ⟨h3, h4⟩ := dm_tr (a := a) h0
  rw [← hr] at h3 h4
  rw [← hq] at h3
  have h5 := sign_ne h1 h2 h0
  have h6 := fdm (a := a) (b := b) (q := q - 1) (r := r + b) h0 (by rw [Int.mul_sub, Int.mul_one]; omega) (by omega) (by omega)
  exact ⟨h6.1.symm, h6.2.symm⟩
theorem dm_adj2 {a b r q : Int} (h0 : b ≠ 0) (hr : r = sgn (sgz a) (a.natAbs % b.natAbs)) (hq : q = sgn (sgz a != sgz b) (a.natAbs / b.natAbs)) (h : r.sign = 0 ∨ r.sign = b.sign) : q = a.fdiv b ∧ r = a.fmod b := by
  obtain ⟨h3, h4⟩ := dm_tr (a := a) h0
  rw [← hr] at h3 h4
  rw [← hq] at h3
  have h5 := sign_or h h0
  have h6 := fdm (a := a) (b := b) (q := q) (r := r) h0 h3 (by omega) (by omega)
  exact ⟨h6.1.symm, h6.2.symm⟩
theorem natabs_zero {k : Int} (h : (dg 4294967296 k.natAbs).length = 0) : k.natAbs = 0 := (dg_eq_nil (by omega)).1 (List.length_eq_zero_iff.1 h)
theorem natabs_nz {k : Int} (h : (dg 4294967296 k.natAbs).length ≠ 0) : k ≠ 0 := by
  intro h0
  subst h0
  exact h (by rw [show Int.natAbs 0 = 0 from rfl, dg_zero]; rfl)
def lbp (l : List Nat) (k N : Nat) : List Nat := lb (l.take k) ++ List.replicate (N - (k + 1) / 2) 0
theorem lbp_zero : lbp l 0 N = List.replicate N 0 := by simp [lbp, lb]
theorem lbp_all (hN : N = (l.length + 1) / 2) (h : l.length ≤ k) : lbp l k N = lb l := by
  unfold lbp
  rw [List.take_of_length_le h, show N - (k + 1) / 2 = 0 by omega]
  simp
theorem lbp_len (hN : N = (l.length + 1) / 2) (hk : k ≤ l.length) : (lbp l k N).length = N := by
  unfold lbp
  rw [List.length_append, List.length_replicate, lb_len, List.length_take, Nat.min_eq_left hk]
  omega
theorem lb_even : ∀ {l : List Nat} {j : Nat}, 2 * j < l.length → lb (l.take (2 * j + 1)) = lb (l.take (2 * j)) ++ [nth l (2 * j)]
  | [], _, h => by simp at h
  | [a], 0, _ => by simp [lb, nth]
  | [a], j + 1, h => by simp at h
  | a :: b :: l, 0, _ => by simp [lb, nth]
  | a :: b :: l, j + 1, h => by
    have ih := lb_even (l := l) (j := j) (by simp at h; omega)
    have e2 : 2 * (j + 1) = 2 * j + 1 + 1 := by omega
    rw [e2, List.take_succ_cons, List.take_succ_cons, List.take_succ_cons, List.take_succ_cons]
    simp only [lb, List.cons_append]
    rw [ih]
    simp [nth]
theorem set_mid {α : Type} (A R : List α) (x y : α) {j : Nat} (h : A.length = j) : (A ++ x :: R).set j y = A ++ y :: R := by
  subst h
  rw [List.set_append_right _ _ (Nat.le_refl _), Nat.sub_self]
  rfl
theorem nth_mid (A R : List Nat) (x : Nat) {j : Nat} (h : A.length = j) : nth (A ++ x :: R) j = x := by
  subst h
  simp [nth]
theorem lbp_even (hN : N = (l.length + 1) / 2) (hk : k < l.length) (he : k % 2 = 0) : (lbp l k N).set (k / 2) (nth l k) = lbp l (k + 1) N := by
  obtain ⟨j, rfl⟩ : ∃ j, k = 2 * j := ⟨k / 2, by omega⟩
  have hA : (lb (l.take (2 * j))).length = j := by rw [lb_len, List.length_take, Nat.min_eq_left (by omega)]; omega
  unfold lbp
  rw [show 2 * j / 2 = j by omega, show N - (2 * j + 1) / 2 = (N - (2 * j + 1 + 1) / 2) + 1 by omega, List.replicate_succ, set_mid _ _ _ _ hA, lb_even hk, List.append_assoc]
  rfl
theorem lbp_odd_nth (hN : N = (l.length + 1) / 2) (hk : k < l.length) (ho : k % 2 = 1) : nth (lbp l k N) (k / 2) = nth l (k - 1) := by
  obtain ⟨j, rfl⟩ : ∃ j, k = 2 * j + 1 := ⟨k / 2, by omega⟩
  have hA : (lb (l.take (2 * j))).length = j := by rw [lb_len, List.length_take, Nat.min_eq_left (by omega)]; omega
  unfold lbp
  rw [show (2 * j + 1) / 2 = j by omega, lb_even (by omega), List.append_assoc]
  exact nth_mid _ _ _ hA
theorem lbp_odd (hN : N = (l.length + 1) / 2) (hk : k < l.length) (ho : k % 2 = 1) : (lbp l k N).set (k / 2) (nth (lbp l k N) (k / 2) + 65536 * nth l k) = lbp l (k + 1) N := by
  rw [lbp_odd_nth hN hk ho]
  obtain ⟨j, rfl⟩ : ∃ j, k = 2 * j + 1 := ⟨k / 2, by omega⟩
  have hA : (lb (l.take (2 * j))).length = j := by rw [lb_len, List.length_take, Nat.min_eq_left (by omega)]; omega
  unfold lbp
  rw [show (2 * j + 1) / 2 = j by omega, lb_even (by omega), List.append_assoc, show 2 * j + 1 + 1 = 2 * (j + 1) by omega, lb_take (by omega), List.append_assoc, show 2 * j + 1 - 1 = 2 * j by omega]
  rw [show N - (2 * (j + 1)) / 2 = N - (2 * (j + 1) + 1) / 2 by omega]
  exact set_mid _ _ _ _ hA
theorem vl_set {l : List Nat} {j v : Nat} : j < l.length → vl 65536 (l.set j v) + 65536 ^ j * nth l j = vl 65536 l + 65536 ^ j * v := by
  induction l generalizing j with
  | nil => intro h; simp at h
  | cons x l ih =>
    intro h
    rcases j with _ | j
    · simp [nth, vl_cons]; omega
    · have := ih (j := j) (by simpa using h)
      simp only [List.set_cons_succ, vl_cons]
      rw [Nat.pow_succ, show nth (x :: l) (j + 1) = nth l j by simp [nth], Nat.mul_comm (65536 ^ j) 65536, Nat.mul_assoc, Nat.mul_assoc]
      omega
theorem times_step {os a b : List Nat} {i k cr x : Nat} (hj : i + k < os.length) (h : vl 65536 os + 65536 ^ (i + k) * cr = vl 65536 (a.take i) * vl 65536 b + 65536 ^ i * (nth a i * vl 65536 (b.take k))) (hx : x = nth os (i + k) + cr + nth a i * nth b k) :
    vl 65536 (os.set (i + k) (x % 65536)) + 65536 ^ (i + (k + 1)) * (x / 65536) = vl 65536 (a.take i) * vl 65536 b + 65536 ^ i * (nth a i * vl 65536 (b.take (k + 1))) := by
  have h1 := vl_set (v := x % 65536) hj
  have h2 := Nat.mod_add_div x 65536
  have h3 : 65536 ^ (i + k) * x = 65536 ^ (i + k) * (x % 65536) + 65536 ^ (i + k) * (65536 * (x / 65536)) := by rw [← Nat.mul_add, h2]
  have h4 : 65536 ^ (i + k) * x = 65536 ^ (i + k) * nth os (i + k) + 65536 ^ (i + k) * cr + 65536 ^ (i + k) * (nth a i * nth b k) := by rw [hx, Nat.mul_add, Nat.mul_add]
  rw [vl_take_nth, Nat.mul_add, Nat.mul_add, show i + (k + 1) = i + k + 1 by omega, Nat.pow_succ, Nat.mul_assoc]
  have h5 : 65536 ^ i * (nth a i * (65536 ^ k * nth b k)) = 65536 ^ (i + k) * (nth a i * nth b k) := by
    rw [Nat.pow_add, Nat.mul_left_comm (nth a i), Nat.mul_assoc]
  omega
theorem times_next {a b : List Nat} {i k : Nat} (hk : b.length ≤ k) : vl 65536 (a.take i) * vl 65536 b + 65536 ^ i * (nth a i * vl 65536 (b.take k)) = vl 65536 (a.take (i + 1)) * vl 65536 b := by
  rw [vl_take_all 65536 hk, vl_take_nth, Nat.add_mul, Nat.mul_assoc]
theorem times_in {os a b : List Nat} {i k cr : Nat} (ha : Lim 65536 a) (hb : Lim 65536 b) (hi : i < a.length) (hk : k ≤ b.length + 1) (h : vl 65536 os + 65536 ^ (i + k) * cr = vl 65536 (a.take i) * vl 65536 b + 65536 ^ i * (nth a i * vl 65536 (b.take k))) (hc : 0 < cr) : k ≤ b.length := by
  rcases Nat.lt_or_ge b.length k with h1 | h1
  · exfalso
    rw [times_next (by omega)] at h
    have h2 := vl_lt (ha.take (i + 1))
    have h3 := vl_lt hb
    have h4 : vl 65536 (a.take (i + 1)) * vl 65536 b < 65536 ^ (a.take (i + 1)).length * 65536 ^ b.length := Nat.mul_lt_mul'' h2 h3
    rw [← Nat.pow_add, List.length_take, Nat.min_eq_left (by omega), show i + 1 + b.length = i + k by omega] at h4
    have h5 : 65536 ^ (i + k) * 1 ≤ 65536 ^ (i + k) * cr := Nat.mul_le_mul_left _ hc
    omega
  · exact h1
end
theorem zcmp_pn {k k' : Int} (h : sgz k = true) (h' : sgz k' = false) : (-1 : Int) = (k - k').sign := by
  unfold sgz at h h'
  simp at h h'
  rw [Int.sign_eq_neg_one_of_neg (by omega)]
theorem zcmp_np {k k' : Int} (h : sgz k = false) (h' : sgz k' = true) : (1 : Int) = (k - k').sign := by
  unfold sgz at h h'
  simp at h h'
  rw [Int.sign_eq_one_of_pos (by omega)]
theorem zcmp_nn {k k' : Int} (h : sgz k = true) (h' : sgz k' = true) : (((k'.natAbs : Nat) : Int) - ((k.natAbs : Nat) : Int)).sign = (k - k').sign := by
  unfold sgz at h h'
  simp at h h'
  rw [show ((k'.natAbs : Nat) : Int) - ((k.natAbs : Nat) : Int) = k - k' by omega]
theorem zcmp_pp {k k' : Int} (h : sgz k = false) (h' : sgz k' = false) : (((k.natAbs : Nat) : Int) - ((k'.natAbs : Nat) : Int)).sign = (k - k').sign := by
  unfold sgz at h h'
  simp at h h'
  rw [show ((k.natAbs : Nat) : Int) - ((k'.natAbs : Nat) : Int) = k - k' by omega]
theorem dg_limb_len2 (v : Nat) : (dg 4294967296 v).length ≤ (dg 65536 v).length := by
  rw [← lb_dg, lb_len]
  omega
/-! rows that are written over -/
theorem i64_ob (xs : List Nat) {k : Nat} (h : k < xs.length) : ((i64T xs).map AV.t)[0 + k * 1]? = some (tv (.int .i64 ((nth xs k : Nat) : Int))) := by simp [i64T, nth_get h, h, tv]
theorem u32_ob (xs : List Nat) {k : Nat} (h : k < xs.length) : ((u32T xs).map AV.t)[0 + k * 1]? = some (tv (.int .u32 ((nth xs k : Nat) : Int))) := by simp [u32T, nth_get h, h, tv]
theorem i64_put (xs : List Nat) {k v : Nat} (h : k < xs.length) : putA ((i64T xs).map AV.t) (0 + k * 1) [tv (.int .i64 (v : Int))] = (i64T (xs.set k v)).map .t := by
  rw [Nat.zero_add, Nat.mul_one, List.set_eq_take_append_cons_drop, if_pos h]
  simp [putA, i64T, tv, List.map_take, List.map_drop]
theorem u32_put (xs : List Nat) {k v : Nat} (h : k < xs.length) : putA ((u32T xs).map AV.t) (0 + k * 1) [tv (.int .u32 (v : Int))] = (u32T (xs.set k v)).map .t := by
  rw [Nat.zero_add, Nat.mul_one, List.set_eq_take_append_cons_drop, if_pos h]
  simp [putA, u32T, tv, List.map_take, List.map_drop]
theorem i64_le (xs : List Nat) {k : Nat} {a : AV} (h : k < xs.length) : 0 + k * 1 + [a].length ≤ ((i64T xs).map AV.t).length := by simp [i64T]; omega
theorem u32_le (xs : List Nat) {k : Nat} {a : AV} (h : k < xs.length) : 0 + k * 1 + [a].length ≤ ((u32T xs).map AV.t).length := by simp [u32T]; omega
theorem i64_zero (m : Nat) : (List.replicate m (Value.int .i64 0)).map tv = (i64T (List.replicate m 0)).map .t := by simp [i64T, tv]
theorem u32_zero (m : Nat) : (List.replicate m (Value.int .u32 0)).map tv = (u32T (List.replicate m 0)).map .t := by simp [u32T, tv]
/-! numbers as abstract values -/
/-- a number as it is handed in: a sign, limbs -/
structure Zi where
  s : Bool
  x : List Nat
def Zi.of (k : Int) : Zi := ⟨sgz k, dg 4294967296 k.natAbs⟩
def gF (a : Zi) : FV := .agg (([.v (.bool a.s), sU false a.x] : List Tr).map .t)
def kF (k : Int) : FV := .agg (([.v (.bool (sgz k)), sU false (dg 4294967296 k.natAbs)] : List Tr).map .t)
def kO (k : Int) : FV := .agg (([.v (.bool (sgz k)), sU true (dg 4294967296 k.natAbs)] : List Tr).map .t)
/-- it is the number k -/
def Zn (a : Zi) (k : Int) : Prop := Lim 4294967296 a.x ∧ a.x.length ≤ 137438953472 ∧ zin a.s a.x = k
theorem Zn.of {k : Int} (h : (dg 4294967296 k.natAbs).length ≤ 137438953472) : Zn (.of k) k := ⟨Lim_dg (by omega) _, h, zin_dg k⟩
theorem zn0 : Zn ⟨false, []⟩ 0 := ⟨Lim.nil, by simp, rfl⟩
theorem Zn.len {a : Zi} {k : Int} (h : Zn a k) : (dg 4294967296 k.natAbs).length ≤ 137438953472 := by
  obtain ⟨h1, h2, rfl⟩ := h
  exact Nat.le_trans (zin_len h1) h2
theorem Zn.right {a : Zi} {k : Int} (h : Zn a k) (hr : rightI a.s a.x = true) : sgz k = a.s ∧ dg 4294967296 k.natAbs = a.x := by
  obtain ⟨h1, h2, rfl⟩ := h
  exact ⟨zin_neg h1 hr, zin_abs h1 hr⟩
theorem Zn.wrong {a : Zi} {k : Int} (h : Zn a k) (hr : rightI a.s a.x = false) : k = 0 := by
  obtain ⟨h1, h2, rfl⟩ := h
  exact zin_wrong' hr
theorem kF_right {a : Zi} {k : Int} (h : Zn a k) (hr : rightI a.s a.x = true) : gF a = kF k := by
  obtain ⟨h1, h2⟩ := h.right hr
  unfold gF kF
  rw [h1, h2]
theorem kO_eq {b : Bool} {m : Nat} {k : Int} (h : b = sgz k) (hm : m = k.natAbs) : FV.agg [tv (.bool b), .t (sU true (dg 4294967296 m))] = kO k := by subst h hm; rfl
theorem kF_zero : FV.agg [tv (.bool false), .t (sU false [])] = kF 0 := by
  unfold kF
  rw [show Int.natAbs 0 = 0 from rfl, dg_zero]
  rfl
theorem nofr_z (k : Int) : NoFrF (kO k) := by
  simp only [NoFrF, kO, NoFrF1, List.map_cons, List.map_nil, NoFrAL, NoFrA, sU, NoFr]
  exact ⟨trivial, .inl ⟨trivial, nofr_u32 _⟩, trivial⟩
theorem nofr_zm (b : Bool) (m : Nat) : NoFrF (.agg (([.v (.bool b), sU true (dg 4294967296 m)] : List Tr).map .t)) := by
  simp only [NoFrF, NoFrF1, List.map_cons, List.map_nil, NoFrAL, NoFrA, sU, NoFr]
  exact ⟨trivial, .inl ⟨trivial, nofr_u32 _⟩, trivial⟩
end Go.Proofs.YtogaallfhifngaaGreat

/- Fractions of the references: plain laws. -/
namespace Go.Proofs.YtogaallfhifngaaGreat
open Go Go.RowKit

/-- it is the fraction p -/
def Qn (a : Fr4) (p : Rat) : Prop := a.ok ∧ a.q = p
section
variable {a : Fr4} {p q : Rat} {k k' : Int} {L M : Nat}
theorem zn_n (h : Qn a p) : Zn ⟨a.s, a.x⟩ (zin a.s a.x) := ⟨h.1.1, by have := h.1.2.2.1; dsimp only; omega, rfl⟩
theorem zn_d (h : Qn a p) : Zn ⟨a.t, a.y⟩ (zin a.t a.y) := ⟨h.1.2.1, by have := h.1.2.2.2; dsimp only; omega, rfl⟩
theorem zn_num (h : Sz L p) (hL : L ≤ 137438953472 := by omega) : Zn (.of p.num) p.num := .of (Nat.le_trans h.1 hL)
theorem zn_den (h : Sz L p) (hL : L ≤ 137438953472 := by omega) : Zn ⟨false, dg 4294967296 p.den⟩ (p.den : Int) := ⟨Lim_dg (by omega) _, Nat.le_trans h.2 hL, zin_nat p.den⟩
theorem Qn.sz (h : Qn a p) : Sz 68719476736 p := by
  obtain ⟨⟨h1, h2, h3, h4⟩, rfl⟩ := h
  exact qin_sz h1 h2 h3 h4 (by omega)
theorem Qn.of (h : Sz L p) (hL : L ≤ 68719476736 := by omega) : Qn (.of p) p := ⟨⟨Lim_dg (by omega) _, Lim_dg (by omega) _, Nat.le_trans h.1 hL, Nat.le_trans h.2 hL⟩, Fr4.q_of p⟩
theorem Qn.right (h : Qn a p) (hr : rightQ a.s a.x a.t a.y = true) : Fr4.of p = a := by
  obtain ⟨⟨l1, l2, _, _⟩, rfl⟩ := h
  obtain ⟨h1, h2, h3, h4⟩ := rightQ_of hr
  have e1 := qin_num hr
  have e2 := qin_den hr
  have e3 := zin_neg l1 h1
  have e4 := zin_abs l1 h1
  have e5 := zin_neg l2 h2
  have e6 := zin_abs l2 h2
  rw [← e1] at e3 e4
  rw [← e2] at e5 e6
  rw [sgz_den] at e5
  rw [Int.natAbs_natCast] at e6
  unfold Fr4.of Fr4.q
  rw [e3, e4, e5, e6]
theorem Qn.wrong (h : Qn a p) (hr : rightQ a.s a.x a.t a.y = false) : p = 0 := by
  obtain ⟨_, rfl⟩ := h
  exact qin_wrong hr
theorem qF_make (hn : q.num = k) (hd : (q.den : Int) = k') : FV.agg [tv (.bool (sgz k)), .t (sU false (dg 4294967296 k.natAbs)), tv (.bool (sgz k')), .t (sU false (dg 4294967296 k'.natAbs))] = qF (.of q) := by
  subst hn hd
  have e : sgz (q.den : Int) = false := by unfold sgz; exact decide_eq_false (by omega)
  rw [e]
  rfl
theorem sign_dec (k k' : Int) : decide ((k - k').sign = 0) = decide (k = k') := by
  rw [decide_eq_decide, Int.sign_eq_zero_iff_zero]
  omega
theorem gcd_len (h0 : k' ≠ 0) : (dg 4294967296 (((Int.gcd k k' : Nat) : Int)).natAbs).length ≤ (dg 4294967296 k'.natAbs).length := by
  rw [Int.natAbs_natCast]
  exact dg_le_len (Nat.le_of_dvd (by omega) (Int.gcd_dvd_natAbs_right k k'))
theorem of_len {n : Int} (h1 : -9223372036854775808 ≤ n) (h2 : n ≤ 9223372036854775807) : (dg 4294967296 n.natAbs).length ≤ 2 := dg_length_le (by omega) (by omega)
theorem new_laws {a b : Int} (h0 : b ≠ 0) : (0 < b → (Rat.divInt a b).num = a.fdiv (Int.gcd a b) ∧ ((Rat.divInt a b).den : Int) = b.fdiv (Int.gcd a b)) ∧ (b < 0 → (Rat.divInt a b).num = (-a).fdiv (Int.gcd (-a) (-b)) ∧ ((Rat.divInt a b).den : Int) = (-b).fdiv (Int.gcd (-a) (-b))) := by
  refine ⟨fun h => fdiv_gcd h, fun h => ?_⟩
  rw [← Rat.neg_divInt_neg]
  exact fdiv_gcd (by omega)
theorem gcd_nz {a b : Int} (h : b ≠ 0) : ((Int.gcd a b : Nat) : Int) ≠ 0 := by
  have := Int.gcd_pos_of_ne_zero_right a h
  omega
theorem gcd_dec (n : Nat) : decide ((n : Int) = 1) = (n == 1) := by
  by_cases h : n = 1
  · subst h; rfl
  · rw [beq_eq_false_iff_ne.2 h, decide_eq_false (by omega)]
end
end Go.Proofs.YtogaallfhifngaaGreat

/- Rows of fractions as abstract values; least and greatest ones. -/
namespace Go.Proofs.YtogaallfhifngaaGreat
open Go Go.RowKit

def qmax0 : List Rat → Rat | [] => 0 | a :: l => qmax a l
/-- a list's elements cells in a row -/
theorem flat_at {α : Type} {f : α → List Tr} {z : Nat} (hf : ∀ x, (f x).length = z) : ∀ {xs : List α} {k : Nat} {x : α}, xs[k]? = some x → ((xs.flatMap f).drop (k * z)).take z = f x
  | [], _, _, h => by simp at h
  | y :: xs, 0, x, h => by
    simp at h
    subst h
    rw [Nat.zero_mul, List.drop_zero, List.flatMap_cons, List.take_append_of_le_length (by rw [hf]; exact Nat.le_refl _), List.take_of_length_le (by rw [hf]; exact Nat.le_refl _)]
  | y :: xs, k + 1, x, h => by
    rw [List.getElem?_cons_succ] at h
    have e : (f y ++ xs.flatMap f).drop z = xs.flatMap f := by rw [← hf y]; simp
    rw [List.flatMap_cons, Nat.succ_mul, Nat.add_comm, ← List.drop_drop, e]
    exact flat_at hf h
theorem flat_len {α : Type} {f : α → List Tr} {z : Nat} (hf : ∀ x, (f x).length = z) : ∀ (xs : List α), (xs.flatMap f).length = xs.length * z
  | [] => by simp
  | y :: xs => by rw [List.flatMap_cons, List.length_append, hf, flat_len hf xs, List.length_cons, Nat.succ_mul, Nat.add_comm]
def nilF : Fr4 := ⟨false, [], false, []⟩
def nthF (xs : List Fr4) (k : Nat) : Fr4 := xs.getD k nilF
theorem nthF_get {xs : List Fr4} {k : Nat} (h : k < xs.length) : xs[k]? = some (nthF xs k) := by simp [nthF, h]
theorem nthF_mem {xs : List Fr4} {k : Nat} (h : k < xs.length) : nthF xs k ∈ xs := List.mem_of_getElem? (nthF_get h)
def sQ (o : Bool) (xs : List Fr4) : Tr := .s o 45 4 xs.length (xs.flatMap (Fr4.tr o))
theorem rat_at (xs : List Fr4) {k : Nat} (h : k < xs.length) : ((xs.flatMap (Fr4.tr false)).drop (k * 4)).take ((nthF xs k).tr false).length = (nthF xs k).tr false := flat_at (f := Fr4.tr false) (fun _ => rfl) (nthF_get h)
section
variable {xs : List Fr4} {k : Nat}
theorem take_q (h : k < xs.length) : (xs.take (k + 1)).map Fr4.q = (xs.take k).map Fr4.q ++ [(nthF xs k).q] := by rw [List.take_add_one, nthF_get h]; simp
theorem qmax0_one (h : 0 < xs.length) : qmax0 ((xs.take 1).map Fr4.q) = (nthF xs 0).q := by
  rw [take_q h]
  simp [qmax0, qmax]
theorem qmax0_step (h1 : 1 ≤ k) (h : k < xs.length) : qmax0 ((xs.take (k + 1)).map Fr4.q) = if qmax0 ((xs.take k).map Fr4.q) < (nthF xs k).q then (nthF xs k).q else qmax0 ((xs.take k).map Fr4.q) := by
  rw [take_q h]
  rcases e : (xs.take k).map Fr4.q with _ | ⟨a, l⟩
  · have := congrArg List.length e
    simp at this
    rcases this with h2 | h2
    · omega
    · subst h2; simp at h
  · show List.foldl _ a (l ++ [_]) = _
    rw [List.foldl_append]
    rfl
theorem lt_sgn (p q : Rat) : (p - q).num.sign < 0 ↔ p < q := by simpa using lt_sign q p
theorem gt_sgn (p q : Rat) : 0 < (p - q).num.sign ↔ q < p := by simpa using gt_sign q p
end
/-! vintages -/
theorem flat_sub {α : Type} {f : α → List Tr} {z o m : Nat} (hf : ∀ x, (f x).length = z) {xs : List α} {k : Nat} {x : α} (h : xs[k]? = some x) (hm : o + m ≤ z) : ((xs.flatMap f).drop (k * z + o)).take m = ((f x).drop o).take m := by
  have e := flat_at hf h
  rw [← List.drop_drop, ← e, List.drop_take, List.take_take, Nat.min_eq_left (by omega)]
def vtr (o : Bool) (x : Int × Rat) : List Tr := .v (.int .i64 x.1) :: (Fr4.of x.2).tr o
def nthV (vs : List (Int × Rat)) (k : Nat) : Int × Rat := vs.getD k (0, 0)
section
variable {vs : List (Int × Rat)} {k : Nat}
theorem nthV_get (h : k < vs.length) : vs[k]? = some (nthV vs k) := by simp [nthV, h]
theorem nthV_mem (h : k < vs.length) : nthV vs k ∈ vs := List.mem_of_getElem? (nthV_get h)
theorem take_v (h : k < vs.length) : vs.take (k + 1) = vs.take k ++ [nthV vs k] := by rw [List.take_add_one, nthV_get h]; rfl
theorem vin_at (o : Bool) (h : k < vs.length) : ((vs.flatMap (vtr o)).drop (k * 5)).take (vtr o (nthV vs k)).length = vtr o (nthV vs k) := flat_at (f := vtr o) (fun _ => rfl) (nthV_get h)
theorem vin_y (o : Bool) (h : k < vs.length) : ((vs.flatMap (vtr o)).drop (k * 5 + 0)).take [Tr.v (.int .i64 (nthV vs k).1)].length = [Tr.v (.int .i64 (nthV vs k).1)] := flat_sub (f := vtr o) (o := 0) (m := 1) (fun _ => rfl) (nthV_get h) (by omega)
theorem vin_q (o : Bool) (h : k < vs.length) : ((vs.flatMap (vtr o)).drop (k * 5 + 1)).take ((Fr4.of (nthV vs k).2).tr o).length = (Fr4.of (nthV vs k).2).tr o := flat_sub (f := vtr o) (o := 1) (m := 4) (fun _ => rfl) (nthV_get h) (by omega)
/-- a row of vintages of type t -/
def sV (t : Nat) (o : Bool) (vs : List (Int × Rat)) : Tr := .s o t 5 vs.length (vs.flatMap (vtr o))
theorem vflat_len (o : Bool) (vs : List (Int × Rat)) : (vs.flatMap (vtr o)).length = vs.length * 5 := flat_len (f := vtr o) (z := 5) (fun _ => rfl) vs
end
def qsum (l : List Rat) : Rat := l.foldl (· + ·) 0
theorem qsum_snoc (l : List Rat) (q : Rat) : qsum (l ++ [q]) = qsum l + q := by simp [qsum]
theorem rd_v (vs : List (Int × Rat)) : rdL ((vs.flatMap (vtr false)).map .t) = true := by
  induction vs with
  | nil => rfl
  | cons x vs ih => simpa [vtr, Fr4.tr, sU, rdL, rdA] using ih
theorem lone_v (vs : List (Int × Rat)) : loneL ((vs.flatMap (vtr false)).map .t) = true := by
  induction vs with
  | nil => rfl
  | cons x vs ih => simpa [vtr, Fr4.tr, sU, loneL, lone] using ih
def putE (right : Bool) (q : Rat) (y last : Int) (pt : Bool) : Int :=
  if !right then 2 else if decide (q.num.sign < 0) then 2 else if pt && decide (y ≤ last) then 4 else 0
def putL (e : Int) (q : Rat) (y : Int) (l : List (Int × Rat)) : List (Int × Rat) := if e = 0 then (if decide (0 < q.num.sign) then l ++ [(y, q)] else l) else l
def putY (e : Int) (y last : Int) : Int := if e = 0 then y else last
def putP (e : Int) (pt : Bool) : Bool := if e = 0 then true else pt
end Go.Proofs.YtogaallfhifngaaGreat

/- Ledgers of losses: plain laws. -/
namespace Go.Proofs.YtogaallfhifngaaGreat
open Go Go.RowKit

def dl0 (_ : Int) (q : Rat) : Bool := decide (q.num.sign = 0)
theorem qmin_sz {N : Nat} {p : Rat} {l : List Rat} (hp : Sz N p) (h : ∀ q ∈ l, Sz N q) : Sz N (qmin p l) := by
  rcases qmin_mem p l with h1 | h1
  · rw [h1]; exact hp
  · exact h _ h1
theorem qmax_sz {N : Nat} {p : Rat} {l : List Rat} (hp : Sz N p) (h : ∀ q ∈ l, Sz N q) : Sz N (qmax p l) := by
  rcases qmax_mem p l with h1 | h1
  · rw [h1]; exact hp
  · exact h _ h1
def szq (q : Rat) : Nat := max (dg 4294967296 q.num.natAbs).length (dg 4294967296 q.den).length
theorem sz_iff {L : Nat} {q : Rat} : Sz L q ↔ szq q ≤ L := by
  unfold Sz szq
  omega
def wt (q : Rat) : Nat := szq q + 1
def wts (l : List Rat) : Nat := (l.map wt).sum
theorem wts_mem {l : List Rat} {q : Rat} (h : q ∈ l) : wt q ≤ wts l := by
  unfold wts
  induction l with
  | nil => cases h
  | cons x l ih =>
    rw [List.map_cons, List.sum_cons]
    rcases List.mem_cons.1 h with rfl | h
    · omega
    · have := ih h; omega
theorem wts_append (a b : List Rat) : wts (a ++ b) = wts a + wts b := by simp [wts]
theorem wts_sub {a b : List Rat} (h : List.Sublist a b) : wts a ≤ wts b := by
  induction h with
  | slnil => omega
  | cons x h ih => simp only [wts, List.map_cons, List.sum_cons] at ih ⊢; omega
  | cons_cons x h ih => simp only [wts, List.map_cons, List.sum_cons] at ih ⊢; omega
theorem wt_zero : wt 0 ≤ 2 := by
  have h := int_sz (z := 0) (by omega) (by omega)
  have h1 : szq (0 : Rat) = 1 := by
    unfold szq
    rw [show (0 : Rat).num = 0 from rfl, show (0 : Rat).den = 1 from rfl]
    have e1 : (dg 4294967296 (Int.natAbs 0)).length = 0 := by rw [show Int.natAbs 0 = 0 from rfl, dg_nil0]; rfl
    have e2 : (dg 4294967296 1).length = 1 := by
      rw [dg_pos (by omega) (by omega)]
      rw [show 1 / 4294967296 = 0 by omega, dg_nil0]
      rfl
    rw [e1, e2]
    rfl
  unfold wt
  omega
theorem wt_sub (p q : Rat) : wt (p - q) ≤ wt p + wt q := by
  have h := sub_sz (sz_iff.2 (Nat.le_refl (szq p))) (sz_iff.2 (Nat.le_refl (szq q)))
  have := sz_iff.1 h
  unfold wt
  omega
theorem qmin_two (v m : Rat) : qmin v [m] = if m < v then m else v := rfl
theorem wt_min (v m : Rat) : wt (v - qmin v [m]) + wt (m - qmin v [m]) ≤ wt v + wt m + 2 := by
  rw [qmin_two]
  split
  · rw [show m - m = 0 by grind]
    have := wt_zero
    have := wt_sub v m
    omega
  · rw [show v - v = 0 by grind]
    have := wt_zero
    have := wt_sub m v
    omega
theorem wt_min1 (v m : Rat) : wt (qmin v [m]) ≤ wt v + wt m := by
  rw [qmin_two]
  split <;> omega
def useS (fr : Int) (s : List (Int × Rat) × List (Int × Rat) × Rat) (x : Int × Rat) : List (Int × Rat) × List (Int × Rat) × Rat :=
  if decide (fr ≤ x.1) && decide (0 < s.2.2.num.sign) then (s.1 ++ [(x.1, x.2 - qmin x.2 [s.2.2])], s.2.1 ++ [(x.1, qmin x.2 [s.2.2])], s.2.2 - qmin x.2 [s.2.2]) else (s.1 ++ [x], s.2.1, s.2.2)
def useL (fr : Int) (l : List (Int × Rat)) (p : Rat) : List (Int × Rat) × List (Int × Rat) × Rat := l.foldl (useS fr) ([], [], p)
theorem useS_yes {fr : Int} {s : List (Int × Rat) × List (Int × Rat) × Rat} {y : Int} {q : Rat} (h1 : fr ≤ y) (h2 : 0 < s.2.2.num.sign) :
    useS fr s (y, q) = (s.1 ++ [(y, q - qmin q [s.2.2])], s.2.1 ++ [(y, qmin q [s.2.2])], s.2.2 - qmin q [s.2.2]) := by
  unfold useS
  rw [if_pos (by simp only [Bool.and_eq_true, decide_eq_true_eq]; exact ⟨h1, h2⟩)]
theorem useS_no {fr : Int} {s : List (Int × Rat) × List (Int × Rat) × Rat} {x : Int × Rat} (h : ¬ (fr ≤ x.1 ∧ 0 < s.2.2.num.sign)) : useS fr s x = (s.1 ++ [x], s.2.1, s.2.2) := by
  unfold useS
  rw [if_neg (by simp only [Bool.and_eq_true, decide_eq_true_eq]; exact h)]
theorem useL_len (fr : Int) (l : List (Int × Rat)) (p : Rat) : (useL fr l p).1.length = l.length := by
  have key : ∀ (l : List (Int × Rat)) s, (l.foldl (useS fr) s).1.length = s.1.length + l.length := by
    intro l
    induction l with
    | nil => intro s; simp
    | cons x l ih =>
      intro s
      rw [List.foldl_cons, ih]
      unfold useS
      split <;> simp <;> omega
  have := key l ([], [], p)
  simpa [useL] using this
theorem sgn_pos (q : Rat) : 0 < q.num.sign ↔ 0 < q := by
  rw [Int.sign_pos_iff, ← gt_iff_lt, Rat.lt_iff]
  simp
theorem sgn_zero (q : Rat) : q.num.sign = 0 ↔ q = 0 := by rw [Int.sign_eq_zero_iff_zero, Rat.num_eq_zero]
def refS (fr : Int) (s : List (Int × Rat) × List (Int × Rat) × Rat) (x : Int × Rat) : List (Int × Rat) × List (Int × Rat) × Rat :=
  if fr ≤ x.1 ∧ 0 < s.2.2.num.sign then (if 0 < (x.2 - qmin x.2 [s.2.2]).num.sign then s.1 ++ [(x.1, x.2 - qmin x.2 [s.2.2])] else s.1, s.2.1 ++ [(x.1, qmin x.2 [s.2.2])], s.2.2 - qmin x.2 [s.2.2])
  else (if 0 < (x.2 - ((0 : Int) : Rat)).num.sign then s.1 ++ [(x.1, x.2 - ((0 : Int) : Rat))] else s.1, s.2.1, s.2.2)
def refL (fr : Int) (l : List (Int × Rat)) (p : Rat) : List (Int × Rat) × List (Int × Rat) × Rat := l.foldl (refS fr) ([], [], p)
theorem qmax0_sz {N : Nat} : ∀ {l : List Rat}, l ≠ [] → (∀ q ∈ l, Sz N q) → Sz N (qmax0 l)
  | [], h, _ => absurd rfl h
  | a :: l, _, h => qmax_sz (h a (by simp)) fun q hq => h q (List.mem_cons_of_mem _ hq)
theorem refS_yes {fr : Int} {s : List (Int × Rat) × List (Int × Rat) × Rat} {x : Int × Rat} (h : fr ≤ x.1 ∧ 0 < s.2.2.num.sign) : refS fr s x = (if 0 < (x.2 - qmin x.2 [s.2.2]).num.sign then s.1 ++ [(x.1, x.2 - qmin x.2 [s.2.2])] else s.1, s.2.1 ++ [(x.1, qmin x.2 [s.2.2])], s.2.2 - qmin x.2 [s.2.2]) := by
  unfold refS
  rw [if_pos h]
theorem refS_no {fr : Int} {s : List (Int × Rat) × List (Int × Rat) × Rat} {x : Int × Rat} (h : ¬ (fr ≤ x.1 ∧ 0 < s.2.2.num.sign)) : refS fr s x = (if 0 < (x.2 - ((0 : Int) : Rat)).num.sign then s.1 ++ [(x.1, x.2 - ((0 : Int) : Rat))] else s.1, s.2.1, s.2.2) := by
  unfold refS
  rw [if_neg h]
theorem use_ref (fr : Int) (xs : List (Int × Rat)) (h : ∀ x ∈ xs, 0 < x.2) : ∀ (s s' : List (Int × Rat) × List (Int × Rat) × Rat), s'.1 = s.1.filter (fun x => !dl0 x.1 x.2) → s'.2 = s.2 →
    (xs.foldl (refS fr) s').1 = (xs.foldl (useS fr) s).1.filter (fun x => !dl0 x.1 x.2) ∧ (xs.foldl (refS fr) s').2 = (xs.foldl (useS fr) s).2 := by
  induction xs with
  | nil => intro s s' h1 h2; exact ⟨h1, h2⟩
  | cons x xs ih =>
    intro s s' h1 h2
    have hx := h x (by simp)
    rw [List.foldl_cons, List.foldl_cons]
    obtain ⟨a, b, c⟩ := s
    obtain ⟨a', b', c'⟩ := s'
    simp only [Prod.mk.injEq] at h1 h2
    obtain ⟨rfl, rfl⟩ := h2
    subst h1
    have h0 : x.2 - ((0 : Int) : Rat) = x.2 := by simp; grind
    refine ih (fun y hy => h y (List.mem_cons_of_mem _ hy)) _ _ ?_ ?_
    · by_cases hc : fr ≤ x.1 ∧ 0 < c'.num.sign
      · rw [refS_yes (s := (_, b', c')) hc, show x = (x.1, x.2) from rfl, useS_yes (s := (a, b', c')) hc.1 hc.2]
        dsimp only
        rw [List.filter_append]
        have hle : qmin x.2 [c'] ≤ x.2 := by rw [qmin_two]; split <;> grind
        by_cases hp : 0 < (x.2 - qmin x.2 [c']).num.sign
        · rw [if_pos hp]
          have : dl0 x.1 (x.2 - qmin x.2 [c']) = false := decide_eq_false (by omega)
          simp [this]
        · rw [if_neg hp]
          have h1 : (x.2 - qmin x.2 [c']).num.sign = 0 := by
            rw [sgn_pos] at hp
            rw [sgn_zero]
            grind
          have : dl0 x.1 (x.2 - qmin x.2 [c']) = true := decide_eq_true h1
          simp [this]
      · rw [refS_no (s := (_, b', c')) hc, useS_no (s := (a, b', c')) hc]
        dsimp only
        rw [List.filter_append, h0, if_pos ((sgn_pos _).2 hx)]
        have : dl0 x.1 x.2 = false := decide_eq_false (by have := (sgn_pos x.2).2 hx; omega)
        simp [this]
    · by_cases hc : fr ≤ x.1 ∧ 0 < c'.num.sign
      · rw [refS_yes (s := (_, b', c')) hc, show x = (x.1, x.2) from rfl, useS_yes (s := (a, b', c')) hc.1 hc.2]
      · rw [refS_no (s := (_, b', c')) hc, useS_no (s := (a, b', c')) hc]
theorem useL_refL {fr : Int} {xs : List (Int × Rat)} {p : Rat} (h : ∀ x ∈ xs, 0 < x.2) : (refL fr xs p).1 = (useL fr xs p).1.filter (fun x => !dl0 x.1 x.2) ∧ (refL fr xs p).2 = (useL fr xs p).2 := use_ref fr xs h _ _ rfl rfl
theorem wt_min2 (v m : Rat) : wt (m - qmin v [m]) ≤ wt v + wt m + 2 := by have := wt_min v m; omega
end Go.Proofs.YtogaallfhifngaaGreat

/- Parts of objects opened and closed; calls that lend objects, calls of functions that have captured. Over any program. -/
namespace Go.Proofs.YtogaallfhifngaaGreat
open Go Go.RowKit

theorem Loc.cut {M : List Nat} {w W : World} {L L' : List Res} {F : List Sh} (h : Loc M w W L F) (hc : ∀ b, (L'.flatMap Res.S).count b ≤ (L.flatMap Res.S).count b) (hφ : ∀ r ∈ L', r.φ W) : Loc M w W L' F := by
  have hin : ∀ b, b ∈ L'.flatMap Res.S → b ∈ L.flatMap Res.S := fun b hb => List.count_pos_iff.1 (Nat.lt_of_lt_of_le (List.count_pos_iff.2 hb) (hc b))
  exact ⟨h.chg, hφ, fun b hb => h.blk b (hin b hb), List.nodup_iff_count.2 fun b => Nat.le_trans (hc b) (List.nodup_iff_count.1 h.nd b), fun q hq => q.mono _ _ _ (fun b hb => ⟨hb.1, fun hm => hb.2 (hin b hm)⟩) (h.shr q hq)⟩
theorem fpL_set {y y' : VT} (b : Nat) : ∀ {l : List VT} {p : Nat}, l[p]? = some y → (VT.fpL (l.set p y')).count b + y.fp.count b = (VT.fpL l).count b + y'.fp.count b
  | [], _, h => by simp at h
  | z :: l, 0, h => by
    simp at h
    subst h
    simp only [List.set_cons_zero, VT.fpL, List.count_append]
    omega
  | z :: l, p + 1, h => by
    have := fpL_set (y' := y') b (l := l) (p := p) (by simpa using h)
    simp only [List.set_cons_succ, VT.fpL, List.count_append]
    omega
theorem okL_set {W : World} {y' : VT} (hy : y'.ok W) : ∀ {l : List VT} {p : Nat}, VT.okL W l → VT.okL W (l.set p y')
  | [], _, h => by simpa using h
  | z :: l, 0, h => by
    simp only [VT.okL] at h
    simp only [List.set_cons_zero, VT.okL]
    exact ⟨hy, h.2⟩
  | z :: l, p + 1, h => by
    simp only [VT.okL] at h
    simp only [List.set_cons_succ, VT.okL]
    exact ⟨h.1, okL_set hy h.2⟩
theorem val_set {y y' : VT} (hv : y'.val = y.val) {l : List VT} {p : Nat} (h : l[p]? = some y) : (l.set p y').map VT.val = l.map VT.val := by
  rw [List.map_set, hv]
  apply List.ext_getElem?
  intro j
  rw [List.getElem?_set]
  split
  · rename_i e
    subst e
    obtain ⟨h1, h2⟩ := List.getElem?_eq_some_iff.1 h
    simp [h1, h2]
  · rfl
theorem CRL_set {W : World} {N : Nat → Prop} {cs : List Co} {a : AV} {y : VT} (ha : CR W N cs a y) : ∀ {l : List AV} {ys : List VT} {p : Nat}, CRL W N cs l ys → CRL W N cs (l.set p a) (ys.set p y)
  | [], ys, p, h => by
    simp only [CRL] at h
    subst h
    simp [CRL]
  | b :: l, [], p, h => by simp only [CRL] at h
  | b :: l, z :: ys, 0, h => by
    simp only [CRL] at h
    simp only [List.set_cons_zero, CRL]
    exact ⟨ha, h.2⟩
  | b :: l, z :: ys, p + 1, h => by
    simp only [CRL] at h
    simp only [List.set_cons_succ, CRL]
    exact ⟨h.1, CRL_set ha h.2⟩
section
variable {x : Cx} {g g' : Nat → FV} {ob ob' : List (Option Ob)} {cs cs' : List Co} {ts ts' : Array Value} {W W' : World} {T : List (Nat × TI)} {Q : Post} {ops : Array Oper} {rest : List Oper}
theorem Same.set {k : Nat} {c : Co} (hk : k < cs.length) (hb : c.b = (co cs k).b) (hc : c.c = (co cs k).c) : Same cs (cs.set k c) := ⟨by simp, fun j hj => by
  rw [co_set hk]
  split
  · rename_i e
    subst e
    exact ⟨hb, hc⟩
  · exact ⟨rfl, rfl⟩⟩
/-- a part of an object's cell becomes an object -/
theorem opn {j key p e z n t' z' : Nat} {l l' : List AV} {trs : List Tr} (hk : keyOk ob key = true) (hz : Nat.beq z 0 = false) (ho : obAt ob j = some ⟨t', z', l⟩) (hp : l[p]? = some (.t (.s true e z n trs))) (hl : l.set p (.sl key 0 n) = l') : Sub x g ob g (ob.set j (some ⟨t', z', l'⟩) ++ [some ⟨e, z, trs.map .t⟩]) := by
  subst hl
  rintro ts W ⟨cs, hR⟩
  have hk := Nat.eq_of_beq_eq_true hk
  have hj := obAt_eq ho
  have hcl := hR.crl hj
  obtain ⟨y, hy, hr⟩ := CRL_get hcl hp
  have hlt := (List.getElem?_eq_some_iff.1 hj).1
  have hlen := hR.len
  have hjl : j < cs.length := by omega
  cases hbj : (co cs j).b with
  | none =>
    have := ((hR.obs.2 j _ hj).2 hbj).1
    dsimp only at this
    subst this
    simp at hp
  | some bj =>
    obtain ⟨⟨rs, k1, k1l⟩, k2, k3⟩ := hR.blk hj hbj
    have hyok := okL_get k2 hy
    rcases bndA_ok (k := key) (a := .t (.s true e z n trs)) (a' := .sl key 0 n) (os := [⟨e, z, trs.map .t⟩]) (N := x.fr W ob cs) (by simpa only [CR] using hr) hyok (by simp [bndA, hz]) with ⟨h0, _⟩ | ⟨o1, h0, hS, hφ, hA, hnone⟩
    · cases h0
    · injection h0 with h0
      subst h0
      have hval : (VT.w y.val).val = y.val := rfl
      have hsame1 := Same.set (c := ⟨(co cs j).b, (co cs j).c, (co cs j).l.set p (.w y.val)⟩) hjl rfl rfl
      have hsame : Same cs (cs.set j ⟨(co cs j).b, (co cs j).c, (co cs j).l.set p (.w y.val)⟩ ++ [coOf y]) := hsame1.trans .app
      have hcok : co (cs.set j ⟨(co cs j).b, (co cs j).c, (co cs j).l.set p (.w y.val)⟩ ++ [coOf y]) key = coOf y := by
        have := co_last (cs := cs.set j ⟨(co cs j).b, (co cs j).c, (co cs j).l.set p (.w y.val)⟩) (c := coOf y)
        rwa [List.length_set, ← hlen, hk] at this
      have hcoj : co (cs.set j ⟨(co cs j).b, (co cs j).c, (co cs j).l.set p (.w y.val)⟩ ++ [coOf y]) j = ⟨(co cs j).b, (co cs j).c, (co cs j).l.set p (.w y.val)⟩ := by
        rw [co_app (by simpa using hjl), co_set hjl, if_pos rfl]
      have hrs : ress (ob.set j (some ⟨t', z', l.set p (.sl key 0 n)⟩) ++ [some ⟨e, z, trs.map .t⟩]) (cs.set j ⟨(co cs j).b, (co cs j).c, (co cs j).l.set p (.w y.val)⟩ ++ [coOf y]) = (ress ob cs).set j (resC (some ⟨t', z', l.set p (.sl key 0 n)⟩) ⟨(co cs j).b, (co cs j).c, (co cs j).l.set p (.w y.val)⟩) ++ [resC (some ⟨e, z, trs.map .t⟩) (coOf y)] := by
        rw [← ress_set]
        unfold ress
        rw [List.zipWith_append (by simpa using hlen)]
        rfl
      have m := hR.recut (ob' := ob.set j (some ⟨t', z', l.set p (.sl key 0 n)⟩) ++ [some ⟨e, z, trs.map .t⟩]) (cs' := cs.set j ⟨(co cs j).b, (co cs j).c, (co cs j).l.set p (.w y.val)⟩ ++ [coOf y]) (fun b => by
        have h1 := cnt_set (r' := resC (some ⟨t', z', l.set p (.sl key 0 n)⟩) ⟨(co cs j).b, (co cs j).c, (co cs j).l.set p (.w y.val)⟩) (ress_get hlen hj) b
        have h2 := fpL_set (y' := .w y.val) b hy
        have h3 : (resC (some ⟨t', z', l⟩) (co cs j)).S = bj :: VT.fpL (co cs j).l := by simp [resC, hbj]
        have h4 : (resC (some ⟨t', z', l.set p (.sl key 0 n)⟩) ⟨(co cs j).b, (co cs j).c, (co cs j).l.set p (.w y.val)⟩).S = bj :: VT.fpL ((co cs j).l.set p (.w y.val)) := by simp [resC, hbj]
        have h5 : (VT.w y.val).fp = [] := rfl
        rw [h3, h4, List.count_cons, List.count_cons] at h1
        rw [h5, List.count_nil] at h2
        unfold ownd
        rw [hrs, List.flatMap_append, List.count_append, List.flatMap_cons, List.flatMap_nil, List.append_nil, hS]
        omega) (fun r hr' => by
        rw [hrs] at hr'
        rcases List.mem_append.1 hr' with hr' | hr'
        · rcases List.mem_or_eq_of_mem_set hr' with hr' | rfl
          · exact hR.2.res r hr'
          · simp only [resC, hbj]
            rw [val_set hval hy]
            exact ⟨⟨rs, k1, by rw [k1l]; simp⟩, okL_set (by simp [VT.ok]) k2, k3⟩
        · simp at hr'
          subst hr'
          exact hφ) (fun hN => by
        refine ⟨by simp [hlen], fun i o hi => ?_⟩
        obtain ⟨q1, q2⟩ := hA _ _ hN (by simp; omega) hcok
        rcases Nat.lt_or_ge i ob.length with hil | hil
        · rw [List.getElem?_append_left (by simpa using hil)] at hi
          by_cases hij : j = i
          · subst hij
            rw [List.getElem?_set_self hlt] at hi
            injection hi with hi
            injection hi with hi
            subst hi
            rw [hcoj]
            refine ⟨CRL_set (by simpa only [CR] using q1) (CRL_keep (fun _ _ => rfl) hN hsame _ _ hcl), fun h => ?_⟩
            rw [hbj] at h
            cases h
          · rw [List.getElem?_set_ne hij] at hi
            have h1 := hR.obs.2 i o hi
            rw [co_app (by simp; omega), co_set hjl, if_neg (fun h => hij h.symm)]
            exact ⟨CRL_keep (fun _ _ => rfl) hN hsame _ _ h1.1, h1.2⟩
        · have e1 : i = key := by
            have := (List.getElem?_eq_some_iff.1 hi).1
            simp at this
            omega
          subst e1
          rw [List.getElem?_append_right (by simp; omega)] at hi
          simp [hk] at hi
          subst hi
          rw [hcok]
          exact ⟨q2, hnone⟩) hsame
      exact ⟨_, m.1⟩
/-- an object goes into the cell that tells of it -/
theorem cls {j k p e z n t' z' : Nat} {l l' l2 : List AV} {trs : List Tr} (hne : Nat.beq j k = false) (hz : Nat.beq z 0 = false) (ho : obAt ob j = some ⟨t', z', l⟩) (hok : obAt ob k = some ⟨e, z, l2⟩) (hp : l[p]? = some (.sl k 0 n)) (hl2 : l2.take (n * z) = trs.map .t) (hn : trs.length = n * z) (hl : l.set p (.t (.s true e z n trs)) = l') : Sub x g ob g ((ob.set j (some ⟨t', z', l'⟩)).set k none) := by
  subst hl
  rintro ts W ⟨cs, hR⟩
  have hjk : j ≠ k := fun h => by subst h; simp at hne
  have hz0 : z ≠ 0 := fun e => by subst e; simp at hz
  have hj := obAt_eq ho
  have hkk := obAt_eq hok
  have hcl := hR.crl hj
  have hck := hR.crl hkk
  obtain ⟨y, hy, hr⟩ := CRL_get hcl hp
  have hlt := (List.getElem?_eq_some_iff.1 hj).1
  have hkt := (List.getElem?_eq_some_iff.1 hkk).1
  have hlen := hR.len
  have hjl : j < cs.length := by omega
  have hkl : k < cs.length := by omega
  cases y with
  | s b c t z n l => simp only [CR] at hr
  | p b t l => simp only [CR] at hr
  | w u =>
    simp only [CR, AR] at hr
    obtain ⟨_, hr⟩ := hr
    have hort : ORL W (x.fr W ob cs) trs ((co cs k).l.take (n * z)) := by
      have := CRL_take (n * z) hck
      dsimp only at this
      rw [hl2] at this
      exact CRL_ORL this
    -- what stands in the cell from here on
    obtain ⟨y', hv, hor, hyok, hfp⟩ : ∃ y' : VT, y'.val = u ∧ OR W (x.fr W ob cs) (.s true e z n trs) y' ∧ y'.ok W ∧ ∀ b, y'.fp.count b ≤ (resC (some ⟨e, z, l2⟩) (co cs k)).S.count b := by
      cases hb : (co cs k).b with
      | none =>
        rw [hb] at hr
        obtain ⟨rfl, _, rfl⟩ := hr
        refine ⟨.w (.slice none 0 0), rfl, ?_, by simp [VT.ok], fun b => by simp [VT.fp]⟩
        simp only [OR]
        exact .inl ⟨trivial, trivial, List.eq_nil_of_length_eq_zero (by simpa using hn), trivial⟩
      | some b =>
        rw [hb] at hr
        obtain ⟨o', c, rfl, h1, h2, h3, h4⟩ := hr
        obtain rfl := h3 (.inr trivial)
        have hc := h4 trivial
        subst hc
        obtain ⟨⟨rs, k1, k1l⟩, k2, k3⟩ := hR.blk hkk hb
        dsimp only at k1l
        rw [hz, cond_false] at k1l
        refine ⟨.s b (co cs k).c e z n ((co cs k).l.take (n * z)), rfl, ?_, ?_, fun b' => ?_⟩
        · simp only [OR]
          exact ⟨trivial, trivial, trivial, trivial, hort⟩
        · simp only [VT.ok]
          refine ⟨⟨((co cs k).l.drop (n * z)).map VT.val ++ rs, ?_, ?_⟩, h1, k3, by rw [ORL_len hort, hn], okL_take _ _ k2⟩
          · rw [← List.append_assoc, map_val_take]
            exact k1
          · rw [← List.append_assoc, map_val_take, k1l]
        · simp only [VT.fp, resC, hb]
          exact ((fpL_take (co cs k).l (n * z)).cons_cons b).count_le b'
    cases hbj : (co cs j).b with
    | none =>
      have := ((hR.obs.2 j _ hj).2 hbj).1
      dsimp only at this
      subst this
      simp at hp
    | some bj =>
      obtain ⟨⟨rs, k1, k1l⟩, k2, k3⟩ := hR.blk hj hbj
      have hsame := Same.set (c := ⟨(co cs j).b, (co cs j).c, (co cs j).l.set p y'⟩) hjl rfl rfl
      have hcoj : co (cs.set j ⟨(co cs j).b, (co cs j).c, (co cs j).l.set p y'⟩) j = ⟨(co cs j).b, (co cs j).c, (co cs j).l.set p y'⟩ := by rw [co_set hjl, if_pos rfl]
      have hcok : co (cs.set j ⟨(co cs j).b, (co cs j).c, (co cs j).l.set p y'⟩) k = co cs k := by rw [co_set hjl, if_neg (fun h => hjk h.symm)]
      have hkl2 : k < (cs.set j ⟨(co cs j).b, (co cs j).c, (co cs j).l.set p y'⟩).length := by simpa using hkl
      have hrs : ress ((ob.set j (some ⟨t', z', l.set p (.t (.s true e z n trs))⟩)).set k none) (cs.set j ⟨(co cs j).b, (co cs j).c, (co cs j).l.set p y'⟩) = ((ress ob cs).set j (resC (some ⟨t', z', l.set p (.t (.s true e z n trs))⟩) ⟨(co cs j).b, (co cs j).c, (co cs j).l.set p y'⟩)).set k (resC none (co cs k)) := by
        rw [← ress_set, ← ress_set]
        congr 1
        rw [← hcok]
        exact (co_same hkl2).symm
      have hk2 : ((ress ob cs).set j (resC (some ⟨t', z', l.set p (.t (.s true e z n trs))⟩) ⟨(co cs j).b, (co cs j).c, (co cs j).l.set p y'⟩))[k]? = some (resC (some ⟨e, z, l2⟩) (co cs k)) := by
        rw [List.getElem?_set_ne hjk]
        exact ress_get hlen hkk
      have m := hR.recut (ob' := (ob.set j (some ⟨t', z', l.set p (.t (.s true e z n trs))⟩)).set k none) (cs' := cs.set j ⟨(co cs j).b, (co cs j).c, (co cs j).l.set p y'⟩) (fun b => by
        have h1 := cnt_set (r' := resC (some ⟨t', z', l.set p (.t (.s true e z n trs))⟩) ⟨(co cs j).b, (co cs j).c, (co cs j).l.set p y'⟩) (ress_get hlen hj) b
        have h6 := cnt_set (r' := resC none (co cs k)) hk2 b
        have h2 := fpL_set (y' := y') b hy
        have h3 : (resC (some ⟨t', z', l⟩) (co cs j)).S = bj :: VT.fpL (co cs j).l := by simp [resC, hbj]
        have h4 : (resC (some ⟨t', z', l.set p (.t (.s true e z n trs))⟩) ⟨(co cs j).b, (co cs j).c, (co cs j).l.set p y'⟩).S = bj :: VT.fpL ((co cs j).l.set p y') := by simp [resC, hbj]
        have h5 : (VT.w u).fp = [] := rfl
        have h7 : (resC none (co cs k)).S = [] := by cases hb : (co cs k).b <;> simp [resC]
        have h8 := hfp b
        rw [h3, h4, List.count_cons, List.count_cons] at h1
        rw [h5, List.count_nil] at h2
        rw [h7, List.count_nil] at h6
        unfold ownd
        rw [hrs]
        omega) (fun r hr' => by
        rw [hrs] at hr'
        rcases List.mem_or_eq_of_mem_set hr' with hr' | rfl
        · rcases List.mem_or_eq_of_mem_set hr' with hr' | rfl
          · exact hR.2.res r hr'
          · simp only [resC, hbj]
            rw [val_set (hv.trans rfl) hy]
            exact ⟨⟨rs, k1, by rw [k1l]; simp⟩, okL_set hyok k2, k3⟩
        · cases hb : (co cs k).b <;> simp [resC]) (fun hN => by
        refine ⟨by simp [hlen], fun i o hi => ?_⟩
        rw [List.getElem?_set] at hi
        split at hi
        · split at hi
          · simp at hi
          · cases hi
        · by_cases hij : j = i
          · subst hij
            rw [List.getElem?_set_self hlt] at hi
            injection hi with hi
            injection hi with hi
            subst hi
            rw [hcoj]
            refine ⟨CRL_set (by simpa only [CR] using OR_keep (fun _ _ => rfl) hN _ _ hor) (CRL_keep (fun _ _ => rfl) hN hsame _ _ hcl), fun h => ?_⟩
            rw [hbj] at h
            cases h
          · rw [List.getElem?_set_ne hij] at hi
            have h1 := hR.obs.2 i o hi
            rw [co_set hjl, if_neg (fun h => hij h.symm)]
            exact ⟨CRL_keep (fun _ _ => rfl) hN hsame _ _ h1.1, h1.2⟩) hsame
      exact ⟨_, m.1⟩
end
end Go.Proofs.YtogaallfhifngaaGreat

/- Calls that lend objects; calls of functions that have captured. Over any program. -/
namespace Go.Proofs.YtogaallfhifngaaGreat
open Go Go.RowKit

/-- objects K are lent as these; what they tell of one another goes by their places in K0 -/
def lentOk (ob : List (Option Ob)) (K0 : List Nat) : List Nat → List Lt → Prop
  | [], l => l = []
  | _ :: _, [] => False
  | k :: K, a :: l => OEq K0 (obAt ob k) a.ob ∧ lentOk ob K0 K l
/-- what comes back, in the names of here -/
def backOk (K0 : List Nat) : List Lt → List (Option Ob) → Prop
  | [], l => l = []
  | _ :: _, [] => False
  | a :: l, o :: os => OEq K0 o a.ob ∧ backOk K0 l os
def putO : List (Option Ob) → List Nat → List (Option Ob) → List (Option Ob)
  | ob, k :: K, a :: l => putO (ob.set k a) K l
  | ob, _, _ => ob
def putC : List Co → List Nat → List Co → List Co
  | cs, k :: K, c :: l => putC (cs.set k c) K l
  | cs, _, _ => cs
def nones (K : List Nat) : List (Option Ob) := K.map fun _ => none
/-- what is handed on, in the names of the lent objects -/
def alK (n : Nat) (g : Nat → FV) (K : List Nat) : List Operand → List FV → Prop
  | [], aa => aa = []
  | _ :: _, [] => False
  | o :: os, a :: aa => renF K a = some (lk n g o) ∧ alK n g K os aa
/-- the function that is called, and what it has captured -/
def Clo (x : Cx) (g : Nat → FV) (cf : Operand) (f : FuncId) (fst caps : List Tr) : Prop := ∀ ob cs ts W, RelC x g ob cs ts W → ∃ us0 us, Act.eval ⟨ts, []⟩ cf = .func (.func f) us0.toArray us.toArray ∧ FRL W (x.fr W ob cs) fst us0 ∧ FRL W (x.fr W ob cs) caps us
def capF1 : Tr → FV
  | .a l => .agg (l.map .t)
  | c => .one (.t c)
def capF (caps : List Tr) : List FV := caps.map capF1
section
variable {x : Cx} {g g' : Nat → FV} {ob ob' : List (Option Ob)} {cs cs' : List Co} {ts ts' : Array Value} {W W' : World}
theorem clo_f (f : FuncId) : Clo x g (.func f) f [] [] := fun _ _ _ _ _ => ⟨[], [], rfl, by simp [FRL], by simp [FRL]⟩
theorem clo_t {cf : Operand} {f : FuncId} {fst caps : List Tr} (h : lk x.n g cf = .one (.t (.f f fst caps))) : Clo x g cf f fst caps := fun _ _ _ _ hR => by
  have h1 := hR.lk cf
  rw [h] at h1
  simp only [FVR, FVR1, AR, FR] at h1
  obtain ⟨us0, us, e, h2⟩ := h1
  exact ⟨us0, us, e, h2⟩
theorem FRL_ARL {N : Nat → Prop} : ∀ {l : List Tr} {us : List Value}, FRL W N l us → ARL W N cs (l.map .t) us
  | [], us, h => by simpa [FRL, ARL] using h
  | y :: l, [], h => by simp only [FRL] at h
  | y :: l, u :: us, h => by
    simp only [FRL] at h
    simp only [List.map_cons, ARL, AR]
    exact ⟨h.1, FRL_ARL h.2⟩
theorem putO_len : ∀ {K : List Nat} {l : List (Option Ob)} {ob : List (Option Ob)}, (putO ob K l).length = ob.length
  | [], l, ob => by simp [putO]
  | k :: K, [], ob => by simp [putO]
  | k :: K, a :: l, ob => by simp [putO, putO_len (K := K)]
theorem putC_len : ∀ {K : List Nat} {l : List Co} {cs : List Co}, (putC cs K l).length = cs.length
  | [], l, cs => by simp [putC]
  | k :: K, [], cs => by simp [putC]
  | k :: K, a :: l, cs => by simp [putC, putC_len (K := K)]
theorem putO_out : ∀ {K : List Nat} {l : List (Option Ob)} {ob : List (Option Ob)} {j : Nat}, j ∉ K → (putO ob K l)[j]? = ob[j]?
  | [], l, ob, j, _ => by simp [putO]
  | k :: K, [], ob, j, _ => by simp [putO]
  | k :: K, a :: l, ob, j, h => by
    simp only [List.mem_cons, not_or] at h
    simp only [putO]
    rw [putO_out h.2, List.getElem?_set_ne (fun e => h.1 e.symm)]
theorem putC_out : ∀ {K : List Nat} {l : List Co} {cs : List Co} {j : Nat}, j ∉ K → co (putC cs K l) j = co cs j
  | [], l, cs, j, _ => by simp [putC]
  | k :: K, [], cs, j, _ => by simp [putC]
  | k :: K, a :: l, cs, j, h => by
    simp only [List.mem_cons, not_or] at h
    simp only [putC]
    rw [putC_out h.2]
    unfold co
    rw [List.getElem?_set_ne (fun e => h.1 e.symm)]
theorem putO_in : ∀ {K : List Nat} {l : List (Option Ob)} {ob : List (Option Ob)} {i k : Nat}, K.Nodup → l.length = K.length → K[i]? = some k → k < ob.length → (putO ob K l)[k]? = l[i]?
  | [], l, ob, i, k, _, _, h, _ => by simp at h
  | k0 :: K, [], ob, i, k, _, hl, _, _ => by simp at hl
  | k0 :: K, a :: l, ob, 0, k, hn, hl, h, hk => by
    simp at h
    subst h
    have hn := List.nodup_cons.1 hn
    simp only [putO]
    rw [putO_out hn.1, List.getElem?_set_self hk]
    rfl
  | k0 :: K, a :: l, ob, i + 1, k, hn, hl, h, hk => by
    have hn := List.nodup_cons.1 hn
    simp only [putO]
    exact putO_in hn.2 (by simpa using hl) (by simpa using h) (by simpa using hk)
theorem putC_in : ∀ {K : List Nat} {l : List Co} {cs : List Co} {i k : Nat}, K.Nodup → l.length = K.length → K[i]? = some k → k < cs.length → co (putC cs K l) k = co l i
  | [], l, cs, i, k, _, _, h, _ => by simp at h
  | k0 :: K, [], cs, i, k, _, hl, _, _ => by simp at hl
  | k0 :: K, a :: l, cs, 0, k, hn, hl, h, hk => by
    simp at h
    subst h
    have hn := List.nodup_cons.1 hn
    simp only [putC]
    rw [putC_out hn.1]
    simp [co, List.getElem?_set_self hk]
  | k0 :: K, a :: l, cs, i + 1, k, hn, hl, h, hk => by
    have hn := List.nodup_cons.1 hn
    simp only [putC]
    rw [putC_in hn.2 (by simpa using hl) (by simpa using h) (by simpa using hk)]
    simp [co]
theorem lentOk_len {K0 : List Nat} : ∀ {K : List Nat} {l : List Lt}, lentOk ob K0 K l → l.length = K.length
  | [], l, h => by
    simp only [lentOk] at h
    simp [h]
  | k :: K, [], h => by simp only [lentOk] at h
  | k :: K, a :: l, h => by
    simp only [lentOk] at h
    simp [lentOk_len h.2]
theorem lentOk_get {K0 : List Nat} : ∀ {K : List Nat} {l : List Lt} {i k : Nat}, lentOk ob K0 K l → K[i]? = some k → ∃ (a : Lt) (l' : List AV), l[i]? = some a ∧ renL K0 a.l = some l' ∧ ob[k]? = some (some ⟨a.t, a.z, l'⟩)
  | [], l, i, k, _, h => by simp at h
  | k0 :: K, [], i, k, h, _ => by simp only [lentOk] at h
  | k0 :: K, a :: l, 0, k, h, hk => by
    simp only [lentOk] at h
    simp at hk
    subst hk
    obtain ⟨⟨l', h1, h2⟩, _⟩ := h
    exact ⟨a, l', rfl, h1, obAt_eq h2⟩
  | k0 :: K, a :: l, i + 1, k, h, hk => by
    simp only [lentOk] at h
    exact lentOk_get (i := i) h.2 (by simpa using hk)
theorem backOk_len {K0 : List Nat} : ∀ {l : List Lt} {os : List (Option Ob)}, backOk K0 l os → os.length = l.length
  | [], l, h => by
    simp only [backOk] at h
    simp [h]
  | k :: K, [], h => by simp only [backOk] at h
  | k :: K, a :: l, h => by
    simp only [backOk] at h
    simp [backOk_len h.2]
theorem backOk_get {K0 : List Nat} : ∀ {l : List Lt} {os : List (Option Ob)} {i : Nat} {a : Lt}, backOk K0 l os → l[i]? = some a → ∃ l', renL K0 a.l = some l' ∧ os[i]? = some (some ⟨a.t, a.z, l'⟩)
  | [], _, _, _, _, h => by simp at h
  | b :: l, [], _, _, h, _ => by simp only [backOk] at h
  | b :: l, o :: os, 0, a, h, ha => by
    simp only [backOk] at h
    simp at ha
    subst ha
    obtain ⟨⟨l', h1, h2⟩, _⟩ := h
    exact ⟨l', h1, by rw [h2]; rfl⟩
  | b :: l, o :: os, i + 1, a, h, ha => by
    simp only [backOk] at h
    obtain ⟨l', h1, h2⟩ := backOk_get (i := i) h.2 (by simpa using ha)
    exact ⟨l', h1, by simpa using h2⟩
/-- told in the names of here -/
def CoTo (K : List Nat) (cl cs2 : List Co) : Prop := ∀ i k, K[i]? = some k → k < cs2.length ∧ co cs2 k = co cl i
mutual
theorem AR_to {K : List Nat} {N : Nat → Prop} {cl cs2 : List Co} (hc : CoTo K cl cs2) : ∀ (a a' : AV) (u : Value), renA K a = some a' → AR W N cl a u → AR W N cs2 a' u
  | .t y, a', u, h, hr => by
    simp only [renA, Option.some.injEq] at h
    subst h
    simpa only [AR] using hr
  | .sl k o n, a', u, h, hr => by
    simp only [renA] at h
    split at h
    · rename_i t ht
      simp only [Option.some.injEq] at h
      subst h
      simp only [AR] at hr ⊢
      rw [(hc k t ht).2]
      exact ⟨(hc k t ht).1, hr.2⟩
    · cases h
  | .pt k o, a', u, h, hr => by
    simp only [renA] at h
    split at h
    · rename_i t ht
      simp only [Option.some.injEq] at h
      subst h
      simp only [AR] at hr ⊢
      rw [(hc k t ht).2]
      exact hr
    · cases h
  | .ef l o, a', u, h, hr => by
    simp only [renA, Option.some.injEq] at h
    subst h
    simpa only [AR] using hr
  | .fn f a b, a', u, h, hr => by
    simp only [renA] at h
    split at h
    · rename_i a1 b1 h1 h2
      simp only [Option.some.injEq] at h
      subst h
      simp only [AR] at hr ⊢
      obtain ⟨us, vs, e, r1, r2⟩ := hr
      exact ⟨us, vs, e, ARL_to hc a a1 us h1 r1, ARL_to hc b b1 vs h2 r2⟩
    · cases h
theorem ARL_to {K : List Nat} {N : Nat → Prop} {cl cs2 : List Co} (hc : CoTo K cl cs2) : ∀ (l l' : List AV) (us : List Value), renL K l = some l' → ARL W N cl l us → ARL W N cs2 l' us
  | [], l', us, h, hr => by
    simp only [renL, Option.some.injEq] at h
    subst h
    simpa only [ARL] using hr
  | a :: l, l', us, h, hr => by
    simp only [renL] at h
    split at h
    · rename_i a1 l1 h1 h2
      simp only [Option.some.injEq] at h
      subst h
      cases us with
      | nil => simp only [ARL] at hr
      | cons u us =>
        simp only [ARL] at hr ⊢
        exact ⟨AR_to hc a a1 u h1 hr.1, ARL_to hc l l1 us h2 hr.2⟩
    · cases h
end
theorem CR_w {N : Nat → Prop} {a : AV} {u : Value} (h : ∀ z, a ≠ .t z) : CR W N cs a (.w u) ↔ AR W N cs a u := by
  cases a with
  | t z => exact absurd rfl (h z)
  | _ => simp only [CR]
theorem ren_t1 {K : List Nat} {a a' : AV} (h : renA K a = some a') (hn : ∀ z, a ≠ .t z) : ∀ z, a' ≠ .t z := by
  intro z e
  subst e
  cases a with
  | t z => exact hn z rfl
  | ef l o => simp [renA] at h
  | _ =>
    simp only [renA] at h
    split at h <;> simp at h
theorem CR_to {K : List Nat} {N : Nat → Prop} {cl cs2 : List Co} (hc : CoTo K cl cs2) {a a' : AV} {y : VT} (h : renA K a = some a') (hr : CR W N cl a y) : CR W N cs2 a' y := by
  by_cases ht : ∃ z, a = .t z
  · obtain ⟨z, rfl⟩ := ht
    simp only [renA, Option.some.injEq] at h
    subst h
    simpa only [CR] using hr
  · have hn : ∀ z, a ≠ .t z := fun z e => ht ⟨z, e⟩
    cases y with
    | w u => exact (CR_w (ren_t1 h hn)).2 (AR_to hc _ _ u h ((CR_w hn).1 hr))
    | _ =>
      cases a with
      | t z => exact absurd rfl (hn z)
      | _ => simp only [CR] at hr
theorem CRL_to {K : List Nat} {N : Nat → Prop} {cl cs2 : List Co} (hc : CoTo K cl cs2) : ∀ {l l' : List AV} {ys : List VT}, renL K l = some l' → CRL W N cl l ys → CRL W N cs2 l' ys
  | [], l', ys, h, hr => by
    simp only [renL, Option.some.injEq] at h
    subst h
    simpa only [CRL] using hr
  | a :: l, l', ys, h, hr => by
    simp only [renL] at h
    split at h
    · rename_i a1 l1 h1 h2
      simp only [Option.some.injEq] at h
      subst h
      cases ys with
      | nil => simp only [CRL] at hr
      | cons y ys =>
        simp only [CRL] at hr ⊢
        exact ⟨CR_to hc h1 hr.1, CRL_to hc h2 hr.2⟩
    · cases h
theorem renL_nil {K : List Nat} {l l' : List AV} (h : renL K l = some l') : l = [] ↔ l' = [] := by
  cases l with
  | nil =>
    simp only [renL, Option.some.injEq] at h
    simp [← h]
  | cons a l =>
    simp only [renL] at h
    split at h
    · simp only [Option.some.injEq] at h
      simp [← h]
    · cases h
/-- counted: the lent ones and the others are all -/
theorem cnt_put (b : Nat) : ∀ {K : List Nat} {l : List (Option Ob)} {lc : List Co} {ob : List (Option Ob)} {cs : List Co}, K.Nodup → l.length = K.length → lc.length = K.length → ob.length = cs.length → (∀ k ∈ K, k < ob.length) →
    (ownd (putO ob K l) (putC cs K lc)).count b = (ownd (putO ob K (nones K)) cs).count b + ((ress l lc).flatMap Res.S).count b
  | [], l, lc, ob, cs, _, h1, h2, _, _ => by
    obtain rfl := List.eq_nil_of_length_eq_zero h1
    obtain rfl := List.eq_nil_of_length_eq_zero h2
    simp [putO, putC, nones, ress]
  | k :: K, [], lc, ob, cs, _, h1, h2, _, _ => by simp at h1
  | k :: K, a :: l, [], ob, cs, _, h1, h2, _, _ => by simp at h2
  | k :: K, a :: l, c :: lc, ob, cs, hn, h1, h2, h3, h4 => by
    have hn' := List.nodup_cons.1 hn
    have hk := h4 k (by simp)
    have ih1 := cnt_put b (K := K) (l := l) (lc := lc) (ob := ob.set k a) (cs := cs.set k c) hn'.2 (by simpa using h1) (by simpa using h2) (by simpa using h3) (fun j hj => by simpa using h4 j (List.mem_cons_of_mem _ hj))
    have e1 : nones (k :: K) = none :: nones K := rfl
    simp only [putO, putC, e1, ress, List.zipWith_cons_cons, List.flatMap_cons, List.count_append]
    unfold ress at ih1
    rw [ih1]
    -- the k-th of the others
    have e2 : putO (ob.set k none) K (nones K) = (putO (ob.set k a) K (nones K)).set k none := by
      apply List.ext_getElem?
      intro j
      by_cases hj : j ∈ K
      · obtain ⟨i, hi⟩ := List.mem_iff_getElem?.1 hj
        have hkj : k ≠ j := fun e => hn'.1 (e ▸ hj)
        rw [List.getElem?_set_ne hkj, putO_in hn'.2 (by simp [nones]) hi (by simpa using h4 j (List.mem_cons_of_mem _ hj)), putO_in hn'.2 (by simp [nones]) hi (by simpa using h4 j (List.mem_cons_of_mem _ hj))]
      · rw [putO_out hj]
        by_cases hkj : k = j
        · subst hkj
          rw [List.getElem?_set_self hk, List.getElem?_set_self (by rw [putO_len]; simpa using hk)]
        · rw [List.getElem?_set_ne hkj, List.getElem?_set_ne hkj, putO_out hj, List.getElem?_set_ne hkj]
    have e3 : (putO (ob.set k a) K (nones K))[k]? = some a := by rw [putO_out hn'.1, List.getElem?_set_self hk]
    have hck : co (cs.set k c) k = c := by simp [co, List.getElem?_set_self (show k < cs.length by omega)]
    have hl0 : (putO (ob.set k a) K (nones K)).length = (cs.set k c).length := by rw [putO_len]; simpa using h3
    have h5 := cnt_set (r' := resC none (co cs k)) (ress_get hl0 e3) b
    rw [hck] at h5
    have e4 : (ress (putO (ob.set k a) K (nones K)) (cs.set k c)).set k (resC none (co cs k)) = ress (putO (ob.set k none) K (nones K)) cs := by
      rw [e2, ← ress_set]
      congr 1
      rw [List.set_set, co_same (by omega)]
    have h6 : (resC none (co cs k)).S = [] := by cases hb : (co cs k).b <;> simp [resC]
    rw [e4, h6, List.count_nil] at h5
    unfold ownd ress
    unfold ress at h5
    omega
theorem ress_none_mem {K : List Nat} (hn : K.Nodup) (hl : ob.length = cs.length) (hK : ∀ k ∈ K, k < ob.length) {r : Res} (h : r ∈ ress (putO ob K (nones K)) cs) : r ∈ ress ob cs ∨ r.S = [] ∧ ∀ W, r.φ W := by
  obtain ⟨j, hj⟩ := List.mem_iff_getElem?.1 h
  by_cases hjK : j ∈ K
  · obtain ⟨i, hi⟩ := List.mem_iff_getElem?.1 hjK
    have h1 := putO_in (l := nones K) hn (by simp [nones]) hi (hK j hjK)
    have h2 : (nones K)[i]? = some none := by simp [nones, hi]
    rw [h2] at h1
    rw [ress_get (by rw [putO_len]; exact hl) h1] at hj
    injection hj with hj
    subst hj
    refine .inr ⟨?_, fun W => ?_⟩ <;> cases hb : (co cs j).b <;> simp [resC]
  · left
    have h1 := putO_out (l := nones K) (ob := ob) hjK
    cases h2 : ob[j]? with
    | none =>
      rw [h2] at h1
      have : ¬ j < (putO ob K (nones K)).length := fun h => by simp [h] at h1
      have h3 := (List.getElem?_eq_some_iff.1 hj).1
      rw [ress_len (by rw [putO_len]; exact hl)] at h3
      rw [putO_len] at this
      omega
    | some o =>
      rw [h2] at h1
      rw [ress_get (by rw [putO_len]; exact hl) h1] at hj
      injection hj with hj
      subst hj
      exact List.mem_of_getElem? (ress_get hl h2)
theorem alK_ok {K : List Nat} {N' : Nat → Prop} (hR : RelC x g ob cs ts W) (hN : ∀ b, x.fr W ob cs b → N' b) : ∀ {os : List Operand} {aa : List FV}, alK x.n g K os aa → FVL W N' (K.map (co cs)) aa (os.map (Act.eval ⟨ts, []⟩))
  | [], aa, h => by
    simp only [alK] at h
    simp [h, FVL]
  | o :: os, [], h => by simp only [alK] at h
  | o :: os, a :: aa, h => by
    simp only [alK] at h
    simp only [List.map_cons, FVL]
    refine ⟨?_, alK_ok hR hN h.2⟩
    have := FVR_ren hN h.1 (hR.lk o)
    cases a with
    | tup l => simp [renF] at h
    | _ => exact this
theorem FVL_app {N : Nat → Prop} : ∀ {l l' : List FV} {us us' : List Value}, FVL W N cs l us → FVL W N cs l' us' → FVL W N cs (l ++ l') (us ++ us')
  | [], l', us, us', h, h' => by
    simp only [FVL] at h
    subst h
    simpa using h'
  | a :: l, l', u :: us, us', h, h' => by
    simp only [FVL] at h
    simp only [List.cons_append, FVL]
    exact ⟨h.1, FVL_app h.2 h'⟩
  | _ :: _, _, [], _, h, _ => by simp only [FVL] at h
theorem FVL_caps {N N' : Nat → Prop} (hN : ∀ b, N b → N' b) : ∀ {caps : List Tr} {us : List Value}, FRL W N caps us → FVL W N' cs (capF caps) us
  | [], us, h => by
    simp only [FRL] at h
    simp [h, capF, FVL]
  | c :: caps, [], h => by simp only [FRL] at h
  | c :: caps, u :: us, h => by
    simp only [FRL] at h
    simp only [capF, List.map_cons, FVL]
    refine ⟨?_, FVL_caps hN h.2⟩
    have h1 := FR_keep (W' := W) (fun _ _ => rfl) hN _ _ h.1
    cases c with
    | a l =>
      simp only [FR] at h1
      obtain ⟨us, e, h2⟩ := h1
      exact ⟨us, e, FRL_ARL h2⟩
    | _ => simpa only [capF1, FVR1, AR] using h1
/-- what a call that lends objects K leaves; oz: what becomes of its answer -/
theorem callL_core {fresh : Bool} {f : FuncId} {args : List FV} {R : List Lt → FV → Prop} {lent : List Lt} {K : List Nat} {os : List Operand} {fst caps : List Tr} {fus cus : List Value} (hS : Spec fresh x.P f lent (capF fst ++ args ++ capF caps) R) (hK : lentOk ob K K lent) (hnd : K.Nodup) (ha : alK x.n g K os args) (hfst : FRL W (x.fr W ob cs) fst fus) (hcap : FRL W (x.fr W ob cs) caps cus) (hR : RelC x g ob cs ts W) :
    Calls x.P f (fus ++ os.map (Act.eval ⟨ts, []⟩) ++ cus).toArray W (fun e W' => ∃ v lent' r ys cl N2, e = .returned v ∧ R lent' r ∧ lent'.length = K.length ∧ cl.length = K.length ∧ RO W' N2 cl r v ys ∧ VT.okL W' ys ∧ (VT.fpL ys).Nodup ∧
      ∀ (ok : List (Option Ob)), backOk K lent' ok → ∀ (oz : List Ob) (csn : List Co), csn.length = oz.length → (∀ b, ((ress (oz.map some) csn).flatMap Res.S).count b ≤ (VT.fpL ys).count b) → (∀ r ∈ ress (oz.map some) csn, r.φ W') →
        (∀ b, N2 b → x.fr W' (putO ob K ok ++ oz.map some) (putC cs K cl ++ csn) b) ∧
        ((∀ i o, oz[i]? = some o → CRL W' (x.fr W' (putO ob K ok ++ oz.map some) (putC cs K cl ++ csn)) (putC cs K cl ++ csn) o.l (co csn i).l ∧ ((co csn i).b = none → o.l = [] ∧ o.z ≠ 0)) →
          RelC x g (putO ob K ok ++ oz.map some) (putC cs K cl ++ csn) ts W' ∧ ∀ d, Aft K d ob cs ts W (putO ob K ok ++ oz.map some) (putC cs K cl ++ csn) ts W')) := by
  have hlen := hR.len
  have hll := lentOk_len hK
  have hKl : ∀ k ∈ K, k < ob.length := fun k hk => by
    obtain ⟨i, hi⟩ := List.mem_iff_getElem?.1 hk
    obtain ⟨a, l', _, _, h2⟩ := lentOk_get hK hi
    exact (List.getElem?_eq_some_iff.1 h2).1
  have hlobs : (lobs lent).length = K.length := by rw [lobs_len, hll]
  have hput0 : ress (putO ob K (lobs lent)) cs = ress ob cs := by
    have hl0 : (putO ob K (lobs lent)).length = cs.length := by rw [putO_len]; exact hlen
    apply List.ext_getElem?
    intro j
    by_cases hjl : j < ob.length
    · by_cases hj : j ∈ K
      · obtain ⟨i, hi⟩ := List.mem_iff_getElem?.1 hj
        obtain ⟨a, l', h1, _, h2⟩ := lentOk_get hK hi
        have h3 := putO_in hnd hlobs hi hjl
        rw [lobs_get, h1] at h3
        rw [ress_get hl0 h3, ress_get hlen h2]
        exact congrArg some (resC_l _ _)
      · have h3 := putO_out (l := lobs lent) (ob := ob) hj
        rw [List.getElem?_eq_getElem hjl] at h3
        rw [ress_get hl0 h3, ress_get hlen (List.getElem?_eq_getElem hjl)]
    · rw [List.getElem?_eq_none (by rw [ress_len hl0]; omega), List.getElem?_eq_none (by rw [ress_len hlen]; omega)]
  have hputc : putC cs K (K.map (co cs)) = cs := by
    have key : ∀ (K : List Nat), (∀ k ∈ K, k < cs.length) → putC cs K (K.map (co cs)) = cs := by
      intro K
      induction K with
      | nil => intro _; rfl
      | cons k K ih =>
        intro h
        simp only [List.map_cons, putC]
        rw [co_same (h k (by simp))]
        exact ih fun j hj => h j (List.mem_cons_of_mem _ hj)
    exact key K fun k hk => by rw [← hlen]; exact hKl k hk
  have hcnt0 := fun b => cnt_put b (l := lobs lent) (lc := K.map (co cs)) (cs := cs) hnd hlobs (by simp) hlen hKl
  unfold ownd at hcnt0
  rw [hputc, hput0] at hcnt0
  have hfr0 : ∀ b, x.fr W ob cs b → Free W (ress (lobs lent) (K.map (co cs))) b := fun b hb => And.intro hb.1.1 fun hm => hb.1.2 (by
    have h1 := List.count_pos_iff.2 hm
    have h2 := hcnt0 b
    exact List.count_pos_iff.1 (show 0 < ((ress ob cs).flatMap Res.S).count b by omega))
  have hgetL : ∀ i k, K[i]? = some k → ∃ (a : Lt) (l' : List AV), lent[i]? = some a ∧ renL K a.l = some l' ∧ ob[k]? = some (some (⟨a.t, a.z, l'⟩ : Ob)) := fun i k hi => lentOk_get hK hi
  have hφ0 : ∀ r ∈ ress (lobs lent) (K.map (co cs)), r.φ W := fun r hr => by
    obtain ⟨i, hi⟩ := List.mem_iff_getElem?.1 hr
    have hil := (List.getElem?_eq_some_iff.1 hi).1
    have hil2 : i < K.length := by
      rw [ress_len (by simp [hlobs])] at hil
      simpa using hil
    obtain ⟨a, l', h1, _, h2⟩ := hgetL i K[i] (List.getElem?_eq_getElem hil2)
    have e1 : (lobs lent)[i]? = some (some a.ob) := by rw [lobs_get, h1]; rfl
    rw [ress_get (by simp [hlobs]) e1, co_ren (List.getElem?_eq_getElem hil2)] at hi
    injection hi with hi
    subst hi
    rw [show resC (some a.ob) (co cs K[i]) = resC (some ⟨a.t, a.z, l'⟩) (co cs K[i]) from resC_l _ _]
    exact hR.res h2
  have h1 : Loc x.M x.w W (ress (lobs lent) (K.map (co cs)) ++ ress (putO ob K (nones K)) cs) [] := (hR.2.pickS []).cut (fun b => by
    rw [List.flatMap_append, List.count_append]
    have := hcnt0 b
    omega) (fun r hr => by
    rcases List.mem_append.1 hr with hr | hr
    · exact hφ0 r hr
    · rcases ress_none_mem hnd hlen hKl hr with hr | hr
      · exact hR.2.res r hr
      · exact hr.2 W)
  have h2 : Loc ((ress (lobs lent) (K.map (co cs))).flatMap Res.S) W W (ress (lobs lent) (K.map (co cs))) [(shS lent (K.map (co cs)) (capF fst ++ args ++ capF caps) (fus ++ os.map (Act.eval ⟨ts, []⟩) ++ cus)).on (x.fr W ob cs)] := by
    refine h1.focus.read _ ⟨⟨by simp [hlobs], fun k o hk => ?_⟩, FVL_app (FVL_app (FVL_caps (fun b hb => ⟨hfr0 b hb, hb⟩) hfst) (alK_ok hR (fun b hb => ⟨hfr0 b hb, hb⟩) ha)) (FVL_caps (fun b hb => ⟨hfr0 b hb, hb⟩) hcap)⟩
    rw [lobs_get] at hk
    cases hq : lent[k]? with
    | none => rw [hq] at hk; cases hk
    | some a =>
      rw [hq] at hk
      simp at hk
      subst hk
      have hkK : k < K.length := by rw [← hll]; exact (List.getElem?_eq_some_iff.1 hq).1
      obtain ⟨a', l', q1, q0, q2⟩ := hgetL k K[k] (List.getElem?_eq_getElem hkK)
      rw [hq] at q1
      injection q1 with q1
      subst q1
      have q3 := hR.obs.2 _ _ q2
      rw [co_ren (List.getElem?_eq_getElem hkK)]
      exact ⟨CRL_ren (fun b hb => ⟨hfr0 b hb, hb⟩) q0 q3.1, fun h => ⟨(renL_nil q0).2 (q3.2 h).1, (q3.2 h).2⟩⟩
  refine (hS _ W _ _ h2).mono fun e W' hE => ?_
  obtain ⟨v, lent', cl, r, ys, rfl, hr, hl', hty, hcl, hsame, h3⟩ := hE
  have h4 := Loc.turn h1 h3
  have hsh := Sh.off (h3.sh 0 rfl)
  have hcl' : cl.length = K.length := by simpa using hcl
  have hlK : lent'.length = K.length := by rw [hl', hll]
  refine ⟨v, lent', r, ys, cl, _, rfl, hr, hlK, hcl', hsh.2, h3.res (resY ys) (by simp), ?_, fun ok hbk oz csn hlz hcz hφz => ?_⟩
  · have := h3.nd
    rw [List.flatMap_append, List.nodup_append] at this
    simpa [resY] using this.2.1
  have hlob' : ok.length = K.length := by rw [backOk_len hbk, hlK]
  have hrk : ress ok cl = ress (lobs lent') cl := by
    apply List.ext_getElem?
    intro j
    by_cases hj : j < lent'.length
    · obtain ⟨l', q1, q2⟩ := backOk_get hbk (List.getElem?_eq_getElem hj)
      rw [ress_get (by rw [hlob', hcl']) q2, ress_get (ob := lobs lent') (by rw [lobs_len, hlK, hcl']) (o := some (lent'[j]).ob) (by rw [lobs_get, List.getElem?_eq_getElem hj]; rfl)]
      exact congrArg some (resC_l _ _)
    · rw [List.getElem?_eq_none (by rw [ress_len (by rw [hlob', hcl'])]; omega), List.getElem?_eq_none (by rw [ress_len (by rw [lobs_len, hlK, hcl'])]; omega)]
  have hlen2 : (putO ob K ok).length = (putC cs K cl).length := by rw [putO_len, putC_len]; exact hlen
  have hrs : ress (putO ob K ok ++ oz.map some) (putC cs K cl ++ csn) = ress (putO ob K ok) (putC cs K cl) ++ ress (oz.map some) csn := by
    unfold ress
    rw [List.zipWith_append hlen2]
  have hcnt2 : ∀ b, (ownd (putO ob K ok ++ oz.map some) (putC cs K cl ++ csn)).count b ≤ (((ress (lobs lent') cl ++ [resY ys]) ++ ress (putO ob K (nones K)) cs).flatMap Res.S).count b := fun b => by
    have q1 := cnt_put b (l := ok) (lc := cl) (cs := cs) hnd hlob' hcl' hlen hKl
    rw [hrk] at q1
    have q2 := hcz b
    unfold ownd at q1 ⊢
    rw [hrs, List.flatMap_append, List.count_append, List.flatMap_append, List.count_append, List.flatMap_append, List.count_append, List.flatMap_cons, List.flatMap_nil, List.append_nil]
    have q3 : (resY ys).S = VT.fpL ys := rfl
    rw [q3]
    omega
  have hin2 : ∀ b, b ∈ ownd (putO ob K ok ++ oz.map some) (putC cs K cl ++ csn) → b ∈ ((ress (lobs lent') cl ++ [resY ys]) ++ ress (putO ob K (nones K)) cs).flatMap Res.S := fun b hb => List.count_pos_iff.1 (Nat.lt_of_lt_of_le (List.count_pos_iff.2 hb) (hcnt2 b))
  have hrest : ∀ b, b ∈ (ress (putO ob K (nones K)) cs).flatMap Res.S → b ∈ ownd ob cs := fun b hb => by
    obtain ⟨r, hr, hb⟩ := List.mem_flatMap.1 hb
    rcases ress_none_mem hnd hlen hKl hr with hr | hr
    · exact List.mem_flatMap.2 ⟨r, hr, hb⟩
    · rw [hr.1] at hb
      cases hb
  have hlentS : ∀ b, b ∈ (ress (lobs lent) (K.map (co cs))).flatMap Res.S → b ∈ ownd ob cs := fun b hb => by
    have q1 := List.count_pos_iff.2 hb
    have q2 := hcnt0 b
    exact List.count_pos_iff.1 (show 0 < ((ress ob cs).flatMap Res.S).count b by omega)
  have hfree : ∀ b, Free W' (ress (lobs lent') cl ++ [resY ys]) b → (x.fr W ob cs b ∨ b ∈ (ress (lobs lent) (K.map (co cs))).flatMap Res.S ∨ W.heap.size ≤ b) → x.fr W' (putO ob K ok ++ oz.map some) (putC cs K cl ++ csn) b := fun b hb hb' => by
    refine ⟨⟨hb.1, fun hm => ?_⟩, ?_⟩
    · have hm := hin2 b hm
      rw [List.flatMap_append, List.mem_append] at hm
      rcases hm with hm | hm
      · exact hb.2 hm
      · have hm2 := hrest b hm
        rcases hb' with hb' | hb' | hb'
        · exact hb'.1.2 hm2
        · have q1 := hcnt0 b
          have q2 := List.nodup_iff_count.1 hR.2.nd b
          have q3 := List.count_pos_iff.2 hb'
          have q4 := List.count_pos_iff.2 hm
          unfold ownd at q1
          omega
        · have := (hR.2.blk b hm2).2
          omega
    · rcases hb' with hb' | hb' | hb'
      · exact hb'.2
      · exact .inr (hR.2.blk b (hlentS b hb')).1
      · exact .inr (.inr (Nat.le_trans hR.2.chg.size hb'))
  have hsize : W.heap.size ≤ W'.heap.size := h3.chg.size
  have hfr : ∀ b, x.fr W ob cs b → x.fr W' (putO ob K ok ++ oz.map some) (putC cs K cl ++ csn) b := fun b hb => by
    refine hfree b ⟨Nat.lt_of_lt_of_le hb.1.1 hsize, fun hm => ?_⟩ (.inl hb)
    have q1 := h3.blk b hm
    rcases q1.1 with q1 | q1
    · exact hb.1.2 (hlentS b q1)
    · have := hb.1.1
      omega
  have hkeep : ∀ b, x.fr W ob cs b → W'.heap[b]? = W.heap[b]? := fun b hb => h3.chg.block b hb.1.1 (fun hm => hb.1.2 (hlentS b hm))
  refine ⟨fun b hb => hfree b hb.2.1 hb.2.2, fun hoz => ?_⟩
  have hcoK : ∀ i k, K[i]? = some k → co (putC cs K cl) k = co cl i := fun i k hi => putC_in hnd hcl' hi (by rw [← hlen]; exact hKl k (List.mem_of_getElem? hi))
  have hsame2 : Same cs (putC cs K cl) := ⟨by rw [putC_len]; exact Nat.le_refl _, fun k hk => by
    by_cases hkK : k ∈ K
    · obtain ⟨i, hi⟩ := List.mem_iff_getElem?.1 hkK
      have := hsame.2 i (by simpa using (List.getElem?_eq_some_iff.1 hi).1)
      rw [co_ren hi] at this
      rw [hcoK i k hi]
      exact this
    · rw [putC_out hkK]
      exact ⟨rfl, rfl⟩⟩
  have happ : ∀ {k}, k < (putC cs K cl).length → co (putC cs K cl ++ csn) k = co (putC cs K cl) k := fun hk => by simp [co, List.getElem?_append_left hk]
  have hsame3 : Same cs (putC cs K cl ++ csn) := hsame2.trans ⟨by simp, fun k hk => by rw [happ hk]; exact ⟨rfl, rfl⟩⟩
  have hLf : Loc x.M x.w W' (ress (putO ob K ok ++ oz.map some) (putC cs K cl ++ csn)) [] := h4.cut hcnt2 (fun r hr => by
    rw [hrs] at hr
    rcases List.mem_append.1 hr with hr | hr
    · obtain ⟨j, hj⟩ := List.mem_iff_getElem?.1 hr
      have hjl := (List.getElem?_eq_some_iff.1 hj).1
      rw [ress_len hlen2, putC_len, ← hlen] at hjl
      by_cases hjK : j ∈ K
      · obtain ⟨i, hi⟩ := List.mem_iff_getElem?.1 hjK
        have q1 := putO_in hnd hlob' hi (hKl j hjK)
        have q2 : i < ok.length := by rw [hlob']; exact (List.getElem?_eq_some_iff.1 hi).1
        rw [List.getElem?_eq_getElem q2] at q1
        rw [ress_get hlen2 q1, hcoK i j hi] at hj
        injection hj with hj
        subst hj
        refine h3.res _ (List.mem_append_left _ (by rw [← hrk]; exact List.mem_of_getElem? (ress_get (by rw [hlob', hcl']) (List.getElem?_eq_getElem q2))))
      · have q1 : (putO ob K ok)[j]? = ob[j]? := putO_out hjK
        rw [List.getElem?_eq_getElem hjl] at q1
        rw [ress_get hlen2 q1, putC_out hjK] at hj
        injection hj with hj
        subst hj
        have q2 : (putO ob K (nones K))[j]? = ob[j]? := putO_out hjK
        rw [List.getElem?_eq_getElem hjl] at q2
        exact h4.res _ (List.mem_append_right _ (List.mem_of_getElem? (ress_get (by rw [putO_len]; exact hlen) q2)))
    · exact hφz r hr)
  refine ⟨.of hR.1 hLf ⟨by rw [List.length_append, List.length_append, hlen2, List.length_map, hlz], fun k o hk => ?_⟩ (fun i hi => ?_) (hR.3.trans hsame3), fun d => ⟨hsame3, fun k hk hkc => ?_, hsize, fun b hlt hb => ?_, fun b hb => ?_, fun _ _ => rfl⟩⟩
  · rcases Nat.lt_or_ge k (putO ob K ok).length with hlt | hge
    · rw [List.getElem?_append_left hlt] at hk
      rw [happ (by rw [← hlen2]; exact hlt)]
      rw [putO_len] at hlt
      by_cases hkK : k ∈ K
      · obtain ⟨i, hi⟩ := List.mem_iff_getElem?.1 hkK
        rw [putO_in hnd hlob' hi hlt] at hk
        have hil : i < lent'.length := by rw [hlK]; exact (List.getElem?_eq_some_iff.1 hi).1
        obtain ⟨l', q0, q2⟩ := backOk_get hbk (List.getElem?_eq_getElem hil)
        rw [q2] at hk
        injection hk with hk
        injection hk with hk
        subst hk
        have q1 := hsh.1.2 i (lent'[i]).ob (by rw [lobs_get, List.getElem?_eq_getElem hil]; rfl)
        rw [hcoK i k hi]
        have q3 : CoTo K cl (putC cs K cl ++ csn) := fun i k hi => by
          have hkl := hKl k (List.mem_of_getElem? hi)
          have hkp : k < (putC cs K cl).length := by rw [putC_len, ← hlen]; exact hkl
          exact ⟨by rw [List.length_append]; omega, by rw [happ hkp, hcoK i k hi]⟩
        exact ⟨CRL_keep (fun _ _ => rfl) (fun b hb => hfree b hb.2.1 hb.2.2) .refl _ _ (CRL_to q3 q0 q1.1), fun h => ⟨(renL_nil q0).1 (q1.2 h).1, (q1.2 h).2⟩⟩
      · rw [putO_out hkK] at hk
        rw [putC_out hkK]
        have q1 := hR.obs.2 k o hk
        exact ⟨CRL_keep hkeep hfr hsame3 _ _ q1.1, q1.2⟩
    · rw [List.getElem?_append_right hge] at hk
      have ho : oz[k - (putO ob K ok).length]? = some o := by
        rw [List.getElem?_map] at hk
        cases hq : oz[k - (putO ob K ok).length]? with
        | none => rw [hq] at hk; cases hk
        | some o' =>
          rw [hq] at hk
          simp at hk
          rw [hk]
      have q1 := hoz _ o ho
      have e : co (putC cs K cl ++ csn) k = co csn (k - (putO ob K ok).length) := by
        unfold co
        rw [List.getElem?_append_right (by rw [← hlen2]; exact hge), hlen2]
      rw [e]
      exact q1
  · obtain ⟨u, q1, q2⟩ := hR.fv hi
    exact ⟨u, q1, FVR_keep hkeep hfr hsame3 _ _ q2⟩
  · rw [happ (by rw [putC_len]; exact hkc), putC_out hk]
  · refine h3.chg.block b hlt fun hm => ?_
    obtain ⟨r, hr, hbr⟩ := List.mem_flatMap.1 hm
    obtain ⟨i, hi⟩ := List.mem_iff_getElem?.1 hr
    have hil := (List.getElem?_eq_some_iff.1 hi).1
    have hil2 : i < K.length := by
      rw [ress_len (by simp [hlobs])] at hil
      simpa using hil
    obtain ⟨a, l', q1, _, q2⟩ := hgetL i K[i] (List.getElem?_eq_getElem hil2)
    have e1 : (lobs lent)[i]? = some (some a.ob) := by rw [lobs_get, q1]; rfl
    rw [ress_get (by simp [hlobs]) e1, co_ren (List.getElem?_eq_getElem hil2)] at hi
    injection hi with hi
    subst hi
    rw [show resC (some a.ob) (co cs K[i]) = resC (some ⟨a.t, a.z, l'⟩) (co cs K[i]) from resC_l _ _] at hbr
    exact hb K[i] (List.getElem_mem hil2) _ q2 hbr
  · have q1 := hin2 b hb
    rw [List.flatMap_append, List.mem_append] at q1
    rcases q1 with q1 | q1
    · rcases (h3.blk b q1).1 with q2 | q2
      · exact .inl (hlentS b q2)
      · exact .inr q2
    · exact .inl (hrest b q1)
end
end Go.Proofs.YtogaallfhifngaaGreat

