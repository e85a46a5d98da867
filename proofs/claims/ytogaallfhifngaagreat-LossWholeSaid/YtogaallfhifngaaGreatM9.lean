/- Part 9 of a proof: Av23 to B1. -/
import Derived.Test.YtogaallfhifngaaGreatM8
set_option linter.unusedVariables false
set_option linter.unusedSimpArgs false
/- Words for calls that lend; rows compared with nil, empty rows, rows cleared; pointers that are read; elements of one's own rows. Over any program. -/
namespace Go.Proofs.YtogaallfhifngaaGreat
open Go Go.RowKit

theorem bndA_t {k : Nat} {a : AV} (h : (bndA k a).isSome = true) : ∃ y, a = .t y := by
  cases a with
  | t y => exact ⟨y, rfl⟩
  | _ => simp [bndA] at h
theorem bndL_t {W : World} {N : Nat → Prop} {cs : List Co} : ∀ {l : List AV} {k : Nat} {r : List AV × List Ob} {ys : List VT}, bndL k l = some r → CRL W N cs l ys → CRL W N [] l ys
  | [], _, _, ys, _, h => by simpa [CRL] using h
  | a :: l, k, r, [], _, h => by simp only [CRL] at h
  | a :: l, k, r, y :: ys, hb, h => by
    simp only [CRL] at h ⊢
    unfold bndL at hb
    split at hb
    · rename_i a' ha
      split at hb
      · rename_i l' os hl
        obtain ⟨z, rfl⟩ := bndA_t (k := k) (by rw [ha]; rfl)
        exact ⟨h.1, bndL_t hl h.2⟩
      · cases hb
    · rename_i a' o r' ha
      split at hb
      · rename_i l' os hl
        obtain ⟨z, rfl⟩ := bndA_t (k := k) (by rw [ha]; rfl)
        exact ⟨h.1, bndL_t hl h.2⟩
      · cases hb
    · cases hb
theorem bnd1_t {W : World} {N : Nat → Prop} {cs : List Co} {k : Nat} {r : FV} {b : FV × List Ob} {u : Value} {ys : List VT} (hb : bnd1 k r = some b) (h : RO1 W N cs r u ys) : RO1 W N [] r u ys := by
  cases r with
  | any => exact h.elim
  | tup l => exact h.elim
  | one a =>
    unfold bnd1 at hb
    dsimp only at hb
    split at hb
    · rename_i a' os ha
      obtain ⟨z, rfl⟩ := bndA_t (k := k) (by rw [ha]; rfl)
      exact h
    · cases hb
  | agg l =>
    unfold bnd1 at hb
    dsimp only at hb
    split at hb
    · rename_i l' os hl
      exact ⟨h.1, bndL_t hl h.2⟩
    · cases hb
theorem bndT_t {W : World} {N : Nat → Prop} {cs : List Co} : ∀ {l : List FV} {k : Nat} {b : List FV × List Ob} {us : List Value} {ys : List VT}, bndT k l = some b → ROL W N cs l us ys → ROL W N [] l us ys
  | [], _, _, us, ys, _, h => h
  | a :: l, k, b, us, ys, hb, ⟨v, vs, y1, y2, h1, h2, h3, h4⟩ => by
    unfold bndT at hb
    split at hb
    · rename_i a' os ha
      split at hb
      · rename_i l' os' hl
        exact ⟨v, vs, y1, y2, h1, h2, bnd1_t ha h3, bndT_t hl h4⟩
      · cases hb
    · cases hb
theorem bnd_t {W : World} {N : Nat → Prop} {cs : List Co} {k : Nat} {r : FV} {b : FV × List Ob} {u : Value} {ys : List VT} (hb : bnd k r = some b) (h : RO W N cs r u ys) : RO W N [] r u ys := by
  cases r with
  | tup l =>
    obtain ⟨vs, e, h⟩ := h
    unfold bnd at hb
    dsimp only at hb
    split at hb
    · rename_i l' os hl
      exact ⟨vs, e, bndT_t hl h⟩
    · cases hb
  | any => exact h.elim
  | one a => exact bnd1_t (r := .one a) hb h
  | agg l => exact bnd1_t (r := .agg l) hb h
section
variable {x : Cx} {g g' : Nat → FV} {ob ob' : List (Option Ob)} {cs cs' : List Co} {ts ts' : Array Value} {W W' : World} {T : List (Nat × TI)} {Q : Post} {ops : Array Oper} {rest : List Oper} {d : Nat} {op : Op} {ty : TypeId} {pos : String} {af : Array Edge} {gd : Option (Nat × Bool)}
theorem run_callV {cf : Operand} {f : FuncId} {us0 us : List Value} {aa : Array Operand} {ats : Array TypeId} (hf : CallOk x.P f) (e0 : Act.eval ⟨ts, []⟩ cf = .func (.func f) us0.toArray us.toArray) :
    (execOp (Act.eval ⟨ts, []⟩) ⟨some d, .call ⟨.value cf, aa, ats⟩, ty, pos, af, gd⟩).run x.P W = .ok (.enter f (us0 ++ aa.toList.map (Act.eval ⟨ts, []⟩) ++ us).toArray) W := by
  obtain ⟨fn, c, h1, h2, h3⟩ := hf
  have e1 : aa.map (Act.eval ⟨ts, []⟩) = (aa.toList.map (Act.eval ⟨ts, []⟩)).toArray := by apply Array.ext'; simp only [Array.toList_map]
  simp [execOp, resolve, e0, Deferred.ofValue, invoke, e1, callFunc, h1, h3]
  intro hn
  rw [hn] at h2
  simp at h2
/-- a call that lends; its answer's owned parts become objects -/
theorem os_callL {fresh : Bool} {f : FuncId} {args : List FV} {R : List Lt → FV → Prop} {lent : List Lt} {K : List Nat} {aa : Array Operand} {ats : Array TypeId} {cf : Operand} {fst caps : List Tr} {key : Nat} (hS : Spec fresh x.P f lent (capF fst ++ args ++ capF caps) R) (hf : CallOk x.P f) (hc : Clo x g cf f fst caps) (hK : lentOk ob K K lent) (hnd : K.Nodup) (ha : alK x.n g K aa.toList args) (hk : keyOk ob key = true) (hb : ∀ l r, R l r → l.length = K.length → (bnd key r).isSome = true ∧ ∃ ok, backOk K l ok) :
    OS x ⟨some d, .call ⟨.value cf, aa, ats⟩, ty, pos, af, gd⟩ g ob K (fun g' ob' => ∃ l r v os ok, R l r ∧ l.length = K.length ∧ bnd key r = some (v, os) ∧ backOk K l ok ∧ g' = upF g d v ∧ ob' = putO ob K ok ++ os.map some) := by
  intro cs ts W hR K' Q kk
  obtain ⟨us0, us, e0, hfst, hcap⟩ := hc ob cs ts W hR
  unfold Oper.wp
  rw [run_callV hf e0]
  refine (callL_core hS hK hnd ha hfst hcap hR).mono fun e W' hE => ?_
  obtain ⟨v, lent', r, ys, cl, N2, rfl, hr, hl1, hl2, hro, hok, hndy, fin⟩ := hE
  obtain ⟨hb1, ok, hbk⟩ := hb _ r hr hl1
  obtain ⟨⟨v', os⟩, hbn⟩ := Option.isSome_iff_exists.1 hb1
  obtain ⟨csn, e1, e2, e3, e4⟩ := bnd_ok (bnd_t hbn hro) hok hbn
  obtain ⟨hN, hfin⟩ := fin ok hbk os csn e1 (fun b => by rw [e2]; exact Nat.le_refl _) e3
  have hk := Nat.eq_of_beq_eq_true hk
  have hpl : (putC cs K cl).length = key := by rw [putC_len, ← hR.len, hk]
  obtain ⟨g1, g2⟩ := e4 _ (putC cs K cl ++ csn) hN (by simp [hpl, e1]) (fun i _ => by
    unfold co
    rw [List.getElem?_append_right (by omega), hpl, show key + i - key = i by omega])
  obtain ⟨m1, m2⟩ := hfin g2
  exact kk _ _ _ _ _ ⟨lent', r, v', os, ok, hr, hl1, hbn, hbk, rfl, rfl⟩ (m1.put d g1) ((m2 (some d)).then_put v)
/-- one that answers with a part of what was lent -/
theorem os_callR {fresh : Bool} {f : FuncId} {args : List FV} {R : List Lt → FV → Prop} {lent : List Lt} {K : List Nat} {aa : Array Operand} {ats : Array TypeId} {cf : Operand} {fst caps : List Tr} {i k : Nat} (hS : Spec fresh x.P f lent (capF fst ++ args ++ capF caps) R) (hf : CallOk x.P f) (hc : Clo x g cf f fst caps) (hK : lentOk ob K K lent) (hnd : K.Nodup) (ha : alK x.n g K aa.toList args) (hi : K[i]? = some k) (hb : ∀ l r, R l r → l.length = K.length → (∃ o n, r = .one (.sl i o n)) ∧ ∃ ok, backOk K l ok) :
    OS x ⟨some d, .call ⟨.value cf, aa, ats⟩, ty, pos, af, gd⟩ g ob K (fun g' ob' => ∃ l o n ok, R l (.one (.sl i o n)) ∧ l.length = K.length ∧ backOk K l ok ∧ g' = upF g d (.one (.sl k o n)) ∧ ob' = putO ob K ok) := by
  intro cs ts W hR K' Q kk
  obtain ⟨us0, us, e0, hfst, hcap⟩ := hc ob cs ts W hR
  unfold Oper.wp
  rw [run_callV hf e0]
  refine (callL_core hS hK hnd ha hfst hcap hR).mono fun e W' hE => ?_
  obtain ⟨v, lent', r, ys, cl, N2, rfl, hr, hl1, hl2, hro, hok, hndy, fin⟩ := hE
  obtain ⟨⟨o, n, rfl⟩, ok, hbk⟩ := hb _ r hr hl1
  obtain ⟨hN, hfin⟩ := fin ok hbk [] [] rfl (fun b => by simp [ress]) (by simp [ress])
  obtain ⟨m1, m2⟩ := hfin (fun i o h => by simp at h)
  have hkl : k < cs.length := by
    obtain ⟨a, l', _, _, h2⟩ := lentOk_get hK hi
    have := (List.getElem?_eq_some_iff.1 h2).1
    rw [← hR.len]
    exact this
  simp only [List.map_nil, List.append_nil] at m1 m2
  refine kk _ _ _ _ _ ⟨lent', o, n, ok, hr, hl1, hbk, rfl, rfl⟩ (m1.put d ?_) ((m2 (some d)).then_put v)
  obtain ⟨z, rfl, rfl, hz⟩ := hro
  cases z with
  | s b c t z n l => simp only [CR] at hz
  | p b t l => simp only [CR] at hz
  | w u =>
    simp only [CR, AR] at hz
    simp only [FVR, FVR1, AR, VT.val]
    rw [putC_in hnd hl2 hi hkl]
    exact ⟨by rw [putC_len]; exact hkl, hz.2⟩
/-- drawn: an operation that writes objects Wr -/
theorem o_osW {late : Nat → Bool} {K fr : List Nat} {fuel : Nat} {listed : Array Bool} {o : Oper} {Wr : List Nat} {R : (Nat → FV) → List (Option Ob) → Prop} (i : Nat) (hi : ops[i]? = some o) (hd : o.dst = some d) (hw : wantA ops x.n g o.guard = some true) (h : OS x o g ob Wr R) (hW : ∀ k ∈ K, k ∉ Wr)
    (hg : ∀ g' ob', R g' ob' → (∃ v, g' = upF g d v) ∧ ∀ k ∈ K, ob'[k]? = ob[k]?) (k : ∀ g' ob', R g' ob' → WD x ops Q late K (d :: fr) true fuel (listed.setIfInBounds i true) g' ob') : WO x ops Q late K fr true fuel listed i g ob := by
  refine wo_ i hi hw h true (fun _ => ⟨rfl, hW⟩) (fun _ => rfl) (fun _ g' ob' hR => ?_) fun g' ob' hR => by rw [hd]; exact k g' ob' hR
  obtain ⟨⟨v, h1⟩, h2⟩ := hg g' ob' hR
  exact ⟨by rw [hd, h1]; exact upF_ne, h2⟩
theorem d_osW {late : Nat → Bool} {K fr : List Nat} {fuel : Nat} {listed : Array Bool} {o : Oper} {Wr : List Nat} {R : (Nat → FV) → List (Option Ob) → Prop} (i : Nat) (hr : Region.ready .any ops listed = [i]) (hi : ops[i]? = some o) (hd : o.dst = some d) (hw : wantA ops x.n g o.guard = some true) (h : OS x o g ob Wr R) (hW : ∀ k ∈ K, k ∉ Wr)
    (hg : ∀ g' ob', R g' ob' → (∃ v, g' = upF g d v) ∧ ∀ k ∈ K, ob'[k]? = ob[k]?) (k : ∀ g' ob', R g' ob' → WD x ops Q late K (d :: fr) true fuel (listed.setIfInBounds i true) g' ob') : WD x ops Q late K fr true (fuel + 1) listed g ob :=
  WO.one hr (o_osW i hi hd hw h hW hg k)
theorem backOk_eq {K0 : List Nat} : ∀ {l : List Lt} {a b : List (Option Ob)}, backOk K0 l a → backOk K0 l b → a = b
  | [], a, b, h, h' => by
    simp only [backOk] at h h'
    rw [h, h']
  | x :: l, [], b, h, _ => by simp only [backOk] at h
  | x :: l, a :: al, [], _, h => by simp only [backOk] at h
  | x :: l, a :: al, b :: bl, h, h' => by
    simp only [backOk] at h h'
    obtain ⟨⟨l1, e1, e2⟩, h2⟩ := h
    obtain ⟨⟨l2, f1, f2⟩, h3⟩ := h'
    rw [e1] at f1
    injection f1 with f1
    subst f1
    rw [e2, f2, backOk_eq h2 h3]
/-- it leaves just this -/
def Rt (l0 : List Lt) (r0 : FV) : List Lt → FV → Prop := fun l r => l = l0 ∧ r = r0
/-! pointers that are read -/
theorem sub_re {i : Nat} {v : FV} (hi : Nat.blt i x.n = true) (h : ∀ W N cs u, FVR W N cs (g i) u → FVR W N cs v u) : Sub x g ob (upF g i v) ob := by
  rintro ts W ⟨cs, hR⟩
  have hi : i < x.n := by simpa [Nat.blt, Nat.lt_iff_add_one_le] using hi
  obtain ⟨u, e1, e2⟩ := hR.fv hi
  have e3 : ts.setIfInBounds i u = ts := by
    apply Array.ext_getElem?
    intro j
    by_cases hj : i = j
    · subst hj
      have : i < ts.size := by rw [hR.1]; exact hi
      rw [Array.getElem?_setIfInBounds_self_of_lt this, e1]
    · rw [Array.getElem?_setIfInBounds_ne hj]
  have := hR.put i (h _ _ _ _ e2)
  rw [e3] at this
  exact ⟨cs, this⟩
theorem pef {i t : Nat} {o : Bool} {l : List Tr} (hi : Nat.blt i x.n = true) (h : g i = .one (.t (.p o t l))) : Sub x g ob (upF g i (.one (.ef l 0))) ob := sub_re hi fun W N cs u hu => by
  rw [h] at hu
  simp only [FVR, FVR1, AR, FR] at hu ⊢
  obtain ⟨ad, h1, h2, h3⟩ := hu
  exact ⟨ad, h2, h3, by rw [addr0]; exact h1⟩
/-! elements of one's own rows -/
theorem dp_drop {β : Type} : ∀ {o : Nat} {l : List AV} {k : List AV → Option β}, o ≤ l.length → dp o l k = k (l.drop o)
  | 0, l, k, _ => by simp [dp]
  | o + 1, [], k, h => by simp at h
  | o + 1, a :: l, k, h => by
    simp only [dp, List.drop_succ_cons]
    exact dp_drop (by simpa using h)
theorem tk_take {β : Type} : ∀ {n : Nat} {l : List AV} {k : List AV → Option β}, n ≤ l.length → tk n l k = k (l.take n)
  | 0, l, k, _ => by simp [tk]
  | n + 1, [], k, h => by simp at h
  | n + 1, a :: l, k, h => by
    simp only [tk, List.take_succ_cons]
    exact tk_take (by simpa using h)
theorem evL_us {i : TI} {k o t z : Nat} {l us : List AV} (ho : obAt ob k = some ⟨t, z, l⟩) (hx : (l.drop o).take us.length = us) (ha : i.agg = true) (hn : us.length = i.size) (h0 : us ≠ []) (hr : rdL us = true) : evL ob i (.one (.pt k o)) = some (True, .agg us) := by
  have hl : us.length ≤ (l.drop o).length := by
    have := congrArg List.length hx
    rw [List.length_take] at this
    omega
  have h1 : 0 < us.length := List.length_pos_iff.2 h0
  have h2 : o ≤ l.length := by
    rw [List.length_drop] at hl
    omega
  unfold evL
  dsimp only
  rw [ho]
  dsimp only
  unfold evLd
  rw [dp_drop h2, ha]
  dsimp only
  rw [tk_take (by omega), ← hn, hx]
  simp [rdEv, hr, ev]
/-! rows -/
theorem os_nil {t e z by_ : Nat} {zz : Value} {ti : Bool} {ts0 : Nat} {z0 : List Value} {a : Operand} {t2 : TypeId} {m : Nat} (hT : TTok x.P T) (ht : ttGet T t = some ⟨ti, ts0, z0, .sl e z by_ zz⟩) (ha : lenF (lk x.n g a) = some m) :
    OS x ⟨some d, .binOp .eql t a (.const (.slice none 0 0)) t2, ty, pos, af, gd⟩ g ob [] (fun g' ob' => ∃ q : Bool, (q = true → m = 0) ∧ g' = upF g d (.one (tv (.bool q))) ∧ ob' = ob) := by
  obtain ⟨hts, _⟩ := (tt_get hT ht).2.2.2
  obtain ⟨i, e1, _, _⟩ := hts
  intro cs ts W hR K Q kk
  obtain ⟨A, c, hu⟩ := lenF_ok (hR.lk a) ha
  have h0 : ∀ A c, Act.eval ⟨ts, []⟩ a = .slice A m c → (A = none → m = 0) := by
    intro A c hu hA
    subst hA
    have hv := hR.lk a
    rw [hu] at hv
    cases hlk : lk x.n g a with
    | any => rw [hlk] at ha; simp [lenF] at ha
    | agg l => rw [hlk] at ha; simp [lenF] at ha
    | tup l => rw [hlk] at ha; simp [lenF] at ha
    | one av =>
      rw [hlk] at hv ha
      cases av with
      | pt => simp [lenF] at ha
      | ef => simp [lenF] at ha
      | fn => simp [lenF] at ha
      | sl k o n =>
        simp only [FVR, FVR1, AR] at hv
        cases hb : (co cs k).b with
        | none =>
          rw [hb] at hv
          obtain ⟨_, h1, _, h3⟩ := hv
          injection h3
        | some b =>
          rw [hb] at hv
          obtain ⟨_, _, _, h3, _⟩ := hv
          injection h3 with h3
          cases h3
      | t y =>
        cases y with
        | p => simp [lenF] at ha
        | f => simp [lenF] at ha
        | a => simp [lenF] at ha
        | s o t z n l =>
          simp only [FVR, FVR1, AR, FR] at hv
          obtain ⟨A, c, h1, _, _, _, h5⟩ := hv
          injection h1 with h1 h2 _
          subst h1
          rcases h5 with h5 | ⟨ad, h5, _⟩
          · omega
          · cases h5
        | v w =>
          simp only [FVR, FVR1, AR, FR] at hv
          subst hv
          unfold lenF at ha
          split at ha
          · rename_i h9
            cases h9
          · rename_i h9
            cases h9
          · rename_i h9
            injection ha with ha
            exact ha.symm
          · cases ha
  have hrun : (execOp (Act.eval ⟨ts, []⟩) ⟨some d, .binOp .eql t a (.const (.slice none 0 0)) t2, ty, pos, af, gd⟩).run x.P W = .ok (.value (.bool A.isNone)) W := by
    have h3 : ∀ A : Option Addr, (Op.equal t (.slice A m c) (.slice none 0 0)).run x.P W = .ok A.isNone W := fun A => by
      show (Op.equalIn (9999 + 1) t (.slice A m c) (.slice none 0 0)).run x.P W = _
      rw [Op.equalIn]
      simp only [Sem.run_bind, run_underlying e1, Result.andThen_ok]
      cases A <;> rfl
    have h4 : Act.eval ⟨ts, []⟩ (.const (.slice none 0 0)) = .slice none 0 0 := rfl
    simp only [execOp, hu, h4, eqGuard_at_slice, binOp, Sem.run_bind, Sem.run_pure, Result.andThen_ok, h3]
  refine wp_of_run hrun (kk _ _ _ _ _ ⟨A.isNone, fun h => h0 A c hu (by simpa using h), rfl, rfl⟩ (hR.put d (v := .one (tv (.bool A.isNone))) (by simp [FVR, FVR1, tv, AR, FR])) (.put d _))
theorem os_bs0 {t e z by_ key : Nat} {zz : Value} {ti : Bool} {ts0 : Nat} {z0 : List Value} (hT : TTok x.P T) (ht : ttGet T t = some ⟨ti, ts0, z0, .sl e z by_ zz⟩) (hk : keyOk ob key = true) : OS x ⟨some d, .buildSlice t 0 #[], ty, pos, af, gd⟩ g ob [] (fun g' ob2 => g' = upF g d (.one (.sl key 0 0)) ∧ ob2 = ob ++ [some ⟨e, z, []⟩]) := by
  obtain ⟨_, ht', i, hi, hz, hsize, hby, hzs, hsz⟩ := (tt_get hT ht).2.2.2
  have hk := Nat.eq_of_beq_eq_true hk
  subst hk
  intro cs ts W hR K Q kk
  have hrun : (execOp (Act.eval ⟨ts, []⟩) ⟨some d, .buildSlice t 0 #[], ty, pos, af, gd⟩).run x.P W = .ok (.value (.slice (some ⟨W.heap.size, 0, none⟩) 0 0)) (W.alloc (.cells #[] e)) := by
    simp [execOp, Instr.buildSlice, run_underlying ht', sizeOf, typeInfo, hi, Instr.fill, newRow]
    congr 2
    apply Array.ext'
    simp
  obtain ⟨m1, m2⟩ := hR.made (t := e) (z := z) (c := 0) (l := []) (us := []) (by simp [ARL]) rfl (by cases hq : Nat.beq z 0 <;> simp) (Nat.zero_le _)
  refine wp_of_run hrun (kk _ _ _ _ _ ⟨rfl, rfl⟩ (m1.put d ?_) ((m2 (some d)).then_put _))
  refine one_of ?_
  simp only [AR, hR.len, co_last]
  exact ⟨by simp, 0, 0, rfl, Nat.le_refl _, by omega, fun _ => rfl, fun _ => rfl⟩
theorem zeros_eq {z : Array Value} {n : Nat} (h0 : 0 < z.size) : (Builtin.zeroCells z n).toList = zRow z.toList n := by
  unfold Builtin.zeroCells
  apply List.ext_getElem?
  intro j
  simp only [Array.toList_map, Array.toList_range, List.getElem?_map]
  by_cases hj : j < n * z.size
  · rw [List.getElem?_range hj, zRow_get (by simpa using hj)]
    simp only [Option.map_some]
    have hm : j % z.size < z.size := Nat.mod_lt _ h0
    rw [getElem!_pos z _ hm]
    simp [hm]
  · rw [List.getElem?_eq_none (by simp; omega), List.getElem?_eq_none (by simp [zRow_len]; omega)]
    rfl
theorem lone_z : ∀ {us : List Value}, loneL (us.map tv) = true → ∀ n, loneL ((zRow us n).map tv) = true
  | us, h, 0 => rfl
  | us, h, n + 1 => by
    have ih := lone_z h n
    have app : ∀ (a b : List AV), loneL a = true → loneL b = true → loneL (a ++ b) = true := by
      intro a b
      induction a with
      | nil => intro _ h; exact h
      | cons c a ih =>
        intro h1 h2
        simp only [loneL, Bool.and_eq_true] at h1
        simp only [List.cons_append, loneL, Bool.and_eq_true]
        exact ⟨h1.1, ih h1.2 h2⟩
    unfold zRow
    rw [List.map_append]
    exact app _ _ h ih
/-- the end of a row is cleared -/
theorem os_clr {t e z by_ k o n : Nat} {zz : Value} {ti : Bool} {ts0 : Nat} {z0 : List Value} {bo : Ob} {a : Operand} (hT : TTok x.P T) (ht : ttGet T t = some ⟨ti, ts0, z0, .sl e z by_ zz⟩) (ha : lk x.n g a = .one (.sl k o n)) (ho : obAt ob k = some bo) (hle : o + n * z ≤ bo.l.length) (hlo : loneL (zz.cells.toList.map tv) = true) :
    OS x ⟨none, .call ⟨.builtin .clear, #[a], #[t]⟩, ty, pos, af, gd⟩ g ob [k] (fun g' ob2 => g' = g ∧ ob2 = ob.set k (some ⟨bo.t, bo.z, putA bo.l o ((zRow zz.cells.toList n).map tv)⟩)) := by
  obtain ⟨_, ht', i, hi, hz, hsize, hby, hzs, hsz⟩ := (tt_get hT ht).2.2.2
  have hk := obAt_eq ho
  intro cs ts W hR K Q kk
  have hu := hR.lk a
  rw [ha] at hu
  simp only [FVR, FVR1, AR] at hu
  have idle : n = 0 → (execOp (Act.eval ⟨ts, []⟩) ⟨none, .call ⟨.builtin .clear, #[a], #[t]⟩, ty, pos, af, gd⟩).run x.P W = .ok (.value (.tuple #[])) W → Oper.wp x.P ⟨none, .call ⟨.builtin .clear, #[a], #[t]⟩, ty, pos, af, gd⟩ ⟨ts, []⟩ W K Q := fun h0 hrun => by
    subst h0
    unfold Oper.wp
    rw [hrun]
    have e1 : putA bo.l o ((zRow zz.cells.toList 0).map tv) = bo.l := by simp [putA, zRow]
    have e2 : ob.set k (some ⟨bo.t, bo.z, putA bo.l o ((zRow zz.cells.toList 0).map tv)⟩) = ob := by
      rw [e1]
      apply List.ext_getElem?
      intro j
      by_cases hj : k = j
      · subst hj
        rw [List.getElem?_set_self (List.getElem?_eq_some_iff.1 hk).1, hk]
      · rw [List.getElem?_set_ne hj]
    refine kk g _ cs ts W ⟨rfl, rfl⟩ (by rw [e2]; exact hR) (by rw [e2]; exact ⟨.refl, fun _ _ _ => rfl, Nat.le_refl _, fun _ _ _ => rfl, fun _ h => .inl h, fun _ _ => rfl⟩)
  cases hb : (co cs k).b with
  | none =>
    rw [hb] at hu
    obtain ⟨_, h0, _, e⟩ := hu
    exact idle h0 (by simp [execOp, resolve, invoke, builtin, e, Builtin.clear_, run_underlying ht'])
  | some b =>
    rw [hb] at hu
    obtain ⟨_, o', c, e, h1, h2, h3, _⟩ := hu
    rcases Nat.eq_zero_or_pos n with h0 | h0
    · subst h0
      exact idle rfl (by simp [execOp, resolve, invoke, builtin, e, Builtin.clear_, run_underlying ht'])
    · obtain rfl := h3 (.inl h0)
      have hzl : ((zRow zz.cells.toList n).map tv).length = n * z := by simp [zRow_len, hzs]
      obtain ⟨W', c', hst, m1, m2⟩ := hR.over (us := (zRow zz.cells.toList n).map tv) (vs := zRow zz.cells.toList n) (o := o') hk hb (ARL_tv _) (rdL_tv _) (lone_z hlo n) (by rw [hzl]; exact hle)
      have hd : ∃ m, n = m + 1 := ⟨n - 1, by omega⟩
      obtain ⟨m, hm⟩ := hd
      have hrun : (execOp (Act.eval ⟨ts, []⟩) ⟨none, .call ⟨.builtin .clear, #[a], #[t]⟩, ty, pos, af, gd⟩).run x.P W = .ok (.value (.tuple #[])) W' := by
        rw [← zeros_eq (by omega), hm] at hst
        rw [hm] at e
        simp [execOp, resolve, invoke, builtin, e, Builtin.clear_, run_underlying ht', zeroValue, typeInfo, hi, hz, hst]
      unfold Oper.wp
      rw [hrun]
      exact kk _ _ _ _ _ ⟨rfl, rfl⟩ m1 (m2 none)
end
end Go.Proofs.YtogaallfhifngaaGreat

/- The program's fractions and numbers: contracts told by values. -/
namespace Go.Proofs.YtogaallfhifngaaGreat
open Go Go.RowKit

section
variable {f : FuncId} {args : List FV}
theorem spec_newz {k : Int} (h : ∀ (N : Nat → Prop) (w : World) us, FVL w N [] args us → (∀ b, N b → b < w.heap.size) → Calls Tryz.prog f us.toArray w (NewZ 104 k w)) : Spec true Tryz.prog f [] args (Ret (kO k)) := by
  intro N w cs us hL
  obtain ⟨rfl, hf⟩ := start0 hL
  refine (h _ w us hf (fun b hb => hb.1)).mono ?_
  rintro e W ⟨z, rfl, ⟨h1, h3⟩, hS, hn, hb⟩
  obtain ⟨y1, a1, a2, a3, a4⟩ := or_own (N := fun b => true = false ∧ (b < W.heap.size ∧ b ∉ VT.fpL [.w (.bool z.s)]) ∧ (N b ∨ w.heap.size ≤ b)) h3
  have hfp : VT.fpL [.w (.bool z.s), y1] = (ownz 104 z k).S := by simp [VT.fpL, VT.fp, a4, ownz]
  refine .mk0 (y := [.w (.bool z.s), y1]) rfl hb (by simp only [VT.okL, VT.ok]; exact ⟨trivial, a3, trivial⟩) (by rw [hfp]; exact hn) (fun b hb => hS b (by rw [← hfp]; exact hb)) ?_
  refine ⟨by simp only [List.map_cons, List.map_nil, a1]; rfl, ?_⟩
  simp only [List.map_cons, List.map_nil, CRL, CR, sU]
  exact ⟨by simp [OR, h1], OR_keep (fun _ _ => rfl) (fun b hb => absurd hb.1 (by simp)) _ _ a2, trivial⟩
theorem isz_of_G {W : World} {N : Nat → Prop} {a : Zi} {k : Int} {v : Value} (h : FVR1 W N [] (gF a) v) (ha : Zn a k) : ∃ z : Zv, v = .agg z.cs.toArray ∧ (isz z k).p W N := by
  obtain ⟨us, rfl, h⟩ := h
  match us, h with
  | [u0, u1], h =>
    simp only [List.map_cons, List.map_nil, ARL, AR] at h
    obtain ⟨h0, h1, _⟩ := h
    simp only [FR] at h0
    subst h0
    obtain ⟨A, c, rfl, l1⟩ := limR_of h1 ha.1
    exact ⟨⟨a.s, A, a.x.length, c⟩, rfl, a.x, l1, ha.2.2, by have := ha.2.1; show a.x.length ≤ _; omega⟩
  | [], h => simp only [List.map_cons, ARL] at h
  | [_], h => simp only [List.map_cons, List.map_nil, ARL] at h; exact h.2.elim
  | _ :: _ :: _ :: _, h => simp only [List.map_cons, List.map_nil, ARL] at h; exact absurd h.2.2 (by simp)
end
section
variable {a b : Fr4} {p q : Rat} {x y : Zi} {k k' : Int}
theorem p_one : Spec true Tryz.prog 69 [] [] (Ret (kO 1)) := spec_newz fun N w us hf hN => by
  obtain rfl : us = [] := by simpa [FVL] using hf
  exact k_rat_one
theorem p_bMul (h : Zn x k) (h' : Zn y k') : Spec true Tryz.prog 89 [] [gF x, gF y] (Ret (kO (k * k'))) := spec_newz fun N w us hf hN => by
  obtain ⟨u, v, rfl, h1, h2⟩ := fvl2 hf
  obtain ⟨z, rfl, i1⟩ := isz_of_G h1 h
  obtain ⟨z', rfl, i2⟩ := isz_of_G h2 h'
  exact k_big_Mul ((isz z k).mono _ _ _ hN i1) ((isz z' k').mono _ _ _ hN i2)
theorem p_bCmp (h : Zn x k) (h' : Zn y k') : Spec true Tryz.prog 58 [] [gF x, gF y] (Ret (.one (tv (.int .i64 (k - k').sign)))) := spec_val fun N w us hf hN => by
  obtain ⟨u, v, rfl, h1, h2⟩ := fvl2 hf
  obtain ⟨z, rfl, i1⟩ := isz_of_G h1 h
  obtain ⟨z', rfl, i2⟩ := isz_of_G h2 h'
  exact k_big_Cmp ((isz z k).mono _ _ _ hN i1) ((isz z' k').mono _ _ _ hN i2)
theorem p_Add (h : Qn a p) (h' : Qn b q) : Spec true Tryz.prog 47 [] [qF a, qF b] (Ret (qO (p + q))) := by
  have := c_rAdd h.1 h'.1
  rwa [h.2, h'.2] at this
theorem p_Sub (h : Qn a p) (h' : Qn b q) : Spec true Tryz.prog 42 [] [qF a, qF b] (Ret (qO (p - q))) := by
  have := c_rSub h.1 h'.1
  rwa [h.2, h'.2] at this
theorem p_Sign (h : Qn a p) : Spec true Tryz.prog 27 [] [qF a] (Ret (.one (tv (.int .i64 p.num.sign)))) := by
  have := c_rSign h.1
  rwa [h.2] at this
theorem p_add (hp : Sz 68719476736 p) (hq : Sz 68719476736 q) : Spec true Tryz.prog 65 [] [qF (.of p), qF (.of q)] (Ret (qO (p + q))) := spec_newq fun N w us hf hN => by
  obtain ⟨u, v, rfl, h1, h2⟩ := fvl2 hf
  obtain ⟨r, rfl, i1, e1, e2, _⟩ := isq_of_F h1 (Qn.of hp).1
  obtain ⟨r', rfl, i2, e3, e4, _⟩ := isq_of_F h2 (Qn.of hq).1
  have j1 := (ratS r _ _).mono _ _ _ hN i1
  have j2 := (ratS r' _ _).mono _ _ _ hN i2
  exact k_rat_add ⟨⟨e1, e2⟩, j1⟩ hp ⟨⟨e3, e4⟩, j2⟩ hq
theorem p_add0 (hp : Sz 68719476736 p) : Spec true Tryz.prog 65 [] [qF (.of p), qF (.of ((0 : Int) : Rat))] (Ret (qO p)) := by
  have := p_add hp ((int_sz (z := 0) (by omega) (by omega)).mono (by omega))
  rwa [show p + ((0 : Int) : Rat) = p from Rat.add_zero p] at this
theorem p_Add0 (h : Qn a p) : Spec true Tryz.prog 47 [] [qF a, qF (.of ((0 : Int) : Rat))] (Ret (qO p)) := by
  have := p_Add h (Qn.of (p := ((0 : Int) : Rat)) ((int_sz (z := 0) (by omega) (by omega)).mono (M := 68719476736) (by omega)))
  rwa [show p + ((0 : Int) : Rat) = p from Rat.add_zero p] at this
theorem qmin_snoc (p : Rat) (l : List Rat) (q : Rat) : qmin p (l ++ [q]) = if q < qmin p l then q else qmin p l := by
  unfold qmin
  rw [List.foldl_append]
  rfl
end
end Go.Proofs.YtogaallfhifngaaGreat

/- More short words for walks over this program: calls that lend, calls of closures, rows of one's own. -/
namespace Go.Proofs.YtogaallfhifngaaGreat
open Go Go.RowKit

section
variable {x : Cx} {g : Nat → FV} {ob ob' : List (Option Ob)} {Q : Post} {ops : Array Oper} {rest : List Oper} {d : Nat} {op : Op} {ty : TypeId} {pos : String} {af : Array Edge} {gd : Option (Nat × Bool)} {C : Prop} {v : FV}
/-- a call that lends objects K -/
theorem cl {fresh : Bool} {f : FuncId} {lent lent' : List Lt} {args : List FV} {r : FV} {os : List Ob} {aa : Array Operand} {ats : Array TypeId} (key : Nat) (K : List Nat) (hS : Spec fresh x.P f lent args (Rt lent' r)) (hf : CallOk x.P f) (hK : lentOk ob K K lent) (ha : alK x.n g K aa.toList args) {ok : List (Option Ob)} (hbk : backOk K lent' ok) (k : WL x ops rest (upF g d v) (putO ob K ok ++ os.map some) Q) (hw : wantA ops x.n g gd = some true := by rfl) (hk : keyOk ob key = true := by rfl) (hnd : K.Nodup := by decide) (hb : bnd key r = some (v, os) := by rfl) :
    WL x ops (⟨some d, .call ⟨.value (.func f), aa, ats⟩, ty, pos, af, gd⟩ :: rest) g ob Q := by
  have e : capF [] ++ args ++ capF [] = args := by simp [capF]
  refine w_os (os_callL (by rw [e]; exact hS) hf (clo_f f) hK hnd ha hk (by rintro _ _ ⟨rfl, rfl⟩ _; exact ⟨by rw [hb]; rfl, ok, hbk⟩)) hw ?_
  rintro _ _ ⟨l, r', v', os', ok', ⟨rfl, rfl⟩, _, h, h9, rfl, rfl⟩
  obtain rfl := backOk_eq hbk h9
  rw [hb] at h
  injection h with h
  injection h with h1 h2
  subst h1 h2
  exact k
/-- one that answers with a part of what was lent -/
theorem clr {fresh : Bool} {f : FuncId} {lent lent' : List Lt} {args : List FV} {aa : Array Operand} {ats : Array TypeId} {i o n ky : Nat} (K : List Nat) (hS : Spec fresh x.P f lent args (Rt lent' (.one (.sl i o n)))) (hf : CallOk x.P f) (hK : lentOk ob K K lent) (ha : alK x.n g K aa.toList args) {ok : List (Option Ob)} (hbk : backOk K lent' ok) (k : WL x ops rest (upF g d (.one (.sl ky o n))) (putO ob K ok) Q) (hi : K[i]? = some ky := by rfl) (hw : wantA ops x.n g gd = some true := by rfl) (hnd : K.Nodup := by decide) :
    WL x ops (⟨some d, .call ⟨.value (.func f), aa, ats⟩, ty, pos, af, gd⟩ :: rest) g ob Q := by
  have e : capF [] ++ args ++ capF [] = args := by simp [capF]
  refine w_os (os_callR (by rw [e]; exact hS) hf (clo_f f) hK hnd ha hi (by rintro _ _ ⟨rfl, rfl⟩ _; exact ⟨⟨_, _, rfl⟩, ok, hbk⟩)) hw ?_
  rintro _ _ ⟨l, o', n', ok', ⟨rfl, h⟩, _, h9, rfl, rfl⟩
  obtain rfl := backOk_eq hbk h9
  injection h with h
  injection h with _ h1 h2
  subst h1 h2
  exact k
/-- a closure is called -/
theorem ce {fresh : Bool} {f : FuncId} {al : List FV} {fst caps : List Tr} {r : FV} {os : List Ob} {cf : Operand} {aa : Array Operand} {ats : Array TypeId} (key : Nat) (args : List FV) (hc : lk x.n g cf = .one (.t (.f f fst caps))) (hS : Spec fresh x.P f [] al (Ret r)) (hf : CallOk x.P f) (ha : alK x.n g [] aa.toList args) (k : WL x ops rest (upF g d v) (ob ++ os.map some) Q) (hw : wantA ops x.n g gd = some true := by rfl) (hk : keyOk ob key = true := by rfl) (hb : bnd key r = some (v, os) := by rfl) (he : capF fst ++ args ++ capF caps = al := by rfl) :
    WL x ops (⟨some d, .call ⟨.value cf, aa, ats⟩, ty, pos, af, gd⟩ :: rest) g ob Q := by
  subst he
  refine w_os (os_callL hS hf (clo_t hc) (K := []) rfl (by simp) ha hk (by rintro l _ rfl h0; obtain rfl := List.eq_nil_of_length_eq_zero h0; exact ⟨by rw [hb]; rfl, [], rfl⟩)) hw ?_
  rintro _ _ ⟨l, r', v', os', ok', rfl, _, h, _, rfl, rfl⟩
  rw [hb] at h
  injection h with h
  injection h with h1 h2
  subst h1 h2
  simpa only [putO] using k
/-- a row compared with nil -/
theorem nq {t e z by_ m : Nat} {zz : Value} {ti : Bool} {ts0 : Nat} {z0 : List Value} {a : Operand} {t2 : TypeId} (k1 : m = 0 → WL x ops rest (upF g d (.one (tv (.bool true)))) ob Q) (k2 : WL x ops rest (upF g d (.one (tv (.bool false)))) ob Q) (hT : TTok x.P ttab := by exact ttok) (ht : ttGet ttab t = some ⟨ti, ts0, z0, .sl e z by_ zz⟩ := by rfl) (ha : lenF (lk x.n g a) = some m := by rfl) (hw : wantA ops x.n g gd = some true := by rfl) :
    WL x ops (⟨some d, .binOp .eql t a (.const (.slice none 0 0)) t2, ty, pos, af, gd⟩ :: rest) g ob Q :=
  w_os (os_nil hT ht ha) hw (by
    rintro _ _ ⟨q, h, rfl, rfl⟩
    cases q with
    | true => exact k1 (h rfl)
    | false => exact k2)
theorem bs0 {t e z by_ : Nat} {zz : Value} {ti : Bool} {ts0 : Nat} {z0 : List Value} (key : Nat) (k : WL x ops rest (upF g d (.one (.sl key 0 0))) (ob ++ [some ⟨e, z, []⟩]) Q) (hT : TTok x.P ttab := by exact ttok) (ht : ttGet ttab t = some ⟨ti, ts0, z0, .sl e z by_ zz⟩ := by rfl) (hk : keyOk ob key = true := by rfl) (hw : wantA ops x.n g gd = some true := by rfl) :
    WL x ops (⟨some d, .buildSlice t 0 #[], ty, pos, af, gd⟩ :: rest) g ob Q :=
  w_os (os_bs0 hT ht hk) hw (by rintro _ _ ⟨rfl, rfl⟩; exact k)
theorem clear {t e z by_ ky o n t' z' : Nat} {zz : Value} {ti : Bool} {ts0 : Nat} {z0 : List Value} {l l' : List AV} {a : Operand} (hle : o + n * z ≤ l.length) (hl : putA l o ((zRow zz.cells.toList n).map tv) = l') (k : WL x ops rest g (ob.set ky (some ⟨t', z', l'⟩)) Q) (hT : TTok x.P ttab := by exact ttok) (ht : ttGet ttab t = some ⟨ti, ts0, z0, .sl e z by_ zz⟩ := by rfl) (ha : lk x.n g a = .one (.sl ky o n) := by rfl) (ho : obAt ob ky = some ⟨t', z', l⟩ := by rfl) (hlo : loneL (zz.cells.toList.map tv) = true := by rfl) (hw : wantA ops x.n g gd = some true := by rfl) :
    WL x ops (⟨none, .call ⟨.builtin .clear, #[a], #[t]⟩, ty, pos, af, gd⟩ :: rest) g ob Q :=
  w_os (os_clr hT ht ha ho hle hlo) hw (by rintro _ _ ⟨rfl, rfl⟩; subst hl; exact k)
/-- an element of one's own row -/
theorem lda {t ky o t' z' : Nat} {ti : TI} {a : Operand} {l us : List AV} (hx : (l.drop o).take us.length = us) (k : WL x ops rest (upF g d (.agg us)) ob Q) (hT : TTok x.P ttab := by exact ttok) (hw : wantA ops x.n g gd = some true := by rfl) (hti : ttGet ttab t = some ti := by rfl) (hlk : lk x.n g a = .one (.pt ky o) := by rfl) (ho : obAt ob ky = some ⟨t', z', l⟩ := by rfl) (ha : ti.agg = true := by rfl) (hn : us.length = ti.size := by rfl) (h0 : us ≠ [] := by exact fun h => by cases h) (hr : rdL us = true := by rfl) :
    WL x ops (⟨some d, .load t a, ty, pos, af, gd⟩ :: rest) g ob Q := w_ld hT hw hti (by rw [hlk]; exact evL_us ho hx ha hn h0 hr) k
/-! drawn -/
variable {late : Nat → Bool} {K fr : List Nat} {on : Bool} {fuel : Nat} {listed : Array Bool}
theorem dlda {t ky o t' z' : Nat} {ti : TI} {a : Operand} {l us : List AV} (i : Nat) (hx : (l.drop o).take us.length = us) (k : WD x ops Q late K fr true fuel (listed.setIfInBounds i true) (upF g d (.agg us)) ob) (hT : TTok x.P ttab := by exact ttok) (hi : ops[i]? = some ⟨some d, .load t a, ty, pos, af, gd⟩ := by rfl) (hst : stat ops late listed i = true := by kernel_rfl) (hw : wantA ops x.n g gd = some true := by rfl) (hti : ttGet ttab t = some ti := by rfl) (hlk : lk x.n g a = .one (.pt ky o) := by rfl) (hK : K.contains ky = true := by rfl) (ho : obAt ob ky = some ⟨t', z', l⟩ := by rfl) (ha : ti.agg = true := by rfl) (hn : us.length = ti.size := by rfl) (h0 : us ≠ [] := by exact fun h => by cases h) (hr : rdL us = true := by rfl) :
    WD x ops Q late K fr true (fuel + 1) listed g ob := dl i hT hi hst hw hti hlk hK (evL_us ho hx ha hn h0 hr) k
/-- a load in its turn -/
theorem old {t : Nat} {ti : TI} {a : Operand} (i : Nat) (k : WD x ops Q late K (d :: fr) true fuel (listed.setIfInBounds i true) (upF g d v) ob) (hT : TTok x.P ttab := by exact ttok) (hi : ops[i]? = some ⟨some d, .load t a, ty, pos, af, gd⟩ := by rfl) (hw : wantA ops x.n g gd = some true := by rfl) (hti : ttGet ttab t = some ti := by rfl) (h : evL ob ti (lk x.n g a) = some (C, v) := by rfl) : WO x ops Q late K fr true fuel listed i g ob :=
  o_os (v := v) i hi rfl hw (os_ld hT hti h) (by rintro _ _ ⟨rfl, rfl⟩; exact ⟨rfl, fun _ _ => rfl⟩) (by rintro _ _ ⟨rfl, rfl⟩; exact k)
/-- a call that lends, in a drawn region -/
theorem ocl {fresh : Bool} {f : FuncId} {lent lent' : List Lt} {args : List FV} {r : FV} {os : List Ob} {aa : Array Operand} {ats : Array TypeId} (i key : Nat) (Kl : List Nat) (hi : ops[i]? = some ⟨some d, .call ⟨.value (.func f), aa, ats⟩, ty, pos, af, gd⟩) (hS : Spec fresh x.P f lent args (Rt lent' r)) (hf : CallOk x.P f) (hK : lentOk ob Kl Kl lent) (ha : alK x.n g Kl aa.toList args) {ok : List (Option Ob)} (hbk : backOk Kl lent' ok) (hke : keepL ob (putO ob Kl ok ++ os.map some) K) (k : WD x ops Q late K (d :: fr) true fuel (listed.setIfInBounds i true) (upF g d v) (putO ob Kl ok ++ os.map some)) (hw : wantA ops x.n g gd = some true := by rfl) (hk : keyOk ob key = true := by rfl) (hnd : Kl.Nodup := by decide) (hdis : ∀ k ∈ K, k ∉ Kl := by decide) (hb : bnd key r = some (v, os) := by rfl) :
    WO x ops Q late K fr true fuel listed i g ob := by
  have e : capF [] ++ args ++ capF [] = args := by simp [capF]
  refine o_osW i hi rfl hw (os_callL (by rw [e]; exact hS) hf (clo_f f) hK hnd ha hk (by rintro _ _ ⟨rfl, rfl⟩ _; exact ⟨by rw [hb]; rfl, ok, hbk⟩)) hdis ?_ ?_
  · rintro _ _ ⟨l, r', v', os', ok', ⟨rfl, rfl⟩, _, h, h9, rfl, rfl⟩
    obtain rfl := backOk_eq hbk h9
    rw [hb] at h
    injection h with h
    injection h with h1 h2
    subst h1 h2
    exact ⟨⟨_, rfl⟩, keepL_get hke⟩
  · rintro _ _ ⟨l, r', v', os', ok', ⟨rfl, rfl⟩, _, h, h9, rfl, rfl⟩
    obtain rfl := backOk_eq hbk h9
    rw [hb] at h
    injection h with h
    injection h with h1 h2
    subst h1 h2
    exact k
/-- a call that lends, in a drawn region -/
theorem dcl {fresh : Bool} {f : FuncId} {lent lent' : List Lt} {args : List FV} {r : FV} {os : List Ob} {aa : Array Operand} {ats : Array TypeId} (i key : Nat) (Kl : List Nat) (hi : ops[i]? = some ⟨some d, .call ⟨.value (.func f), aa, ats⟩, ty, pos, af, gd⟩) (hS : Spec fresh x.P f lent args (Rt lent' r)) (hf : CallOk x.P f) (hK : lentOk ob Kl Kl lent) (ha : alK x.n g Kl aa.toList args) {ok : List (Option Ob)} (hbk : backOk Kl lent' ok) (hke : keepL ob (putO ob Kl ok ++ os.map some) K) (k : WD x ops Q late K (d :: fr) true fuel (listed.setIfInBounds i true) (upF g d v) (putO ob Kl ok ++ os.map some)) (hr : Region.ready .any ops listed = [i] := by kernel_rfl) (hw : wantA ops x.n g gd = some true := by rfl) (hk : keyOk ob key = true := by rfl) (hnd : Kl.Nodup := by decide) (hdis : ∀ k ∈ K, k ∉ Kl := by decide) (hb : bnd key r = some (v, os) := by rfl) :
    WD x ops Q late K fr true (fuel + 1) listed g ob :=
  WO.one hr (ocl i key Kl hi hS hf hK ha hbk hke k hw hk hnd hdis hb)
/-- a closure called in a drawn region -/
theorem dce {fresh : Bool} {f : FuncId} {al : List FV} {fst caps : List Tr} {r : FV} {cf : Operand} {aa : Array Operand} {ats : Array TypeId} (i key : Nat) (args : List FV) (hi : ops[i]? = some ⟨some d, .call ⟨.value cf, aa, ats⟩, ty, pos, af, gd⟩) (hc : lk x.n g cf = .one (.t (.f f fst caps))) (hS : Spec fresh x.P f [] al (Ret r)) (hf : CallOk x.P f) (ha : alK x.n g [] aa.toList args) (k : WD x ops Q late K (d :: fr) true fuel (listed.setIfInBounds i true) (upF g d v) ob) (hr : Region.ready .any ops listed = [i] := by kernel_rfl) (hw : wantA ops x.n g gd = some true := by rfl) (hk : keyOk ob key = true := by rfl) (hb : bnd key r = some (v, []) := by rfl) (he : capF fst ++ args ++ capF caps = al := by rfl) :
    WD x ops Q late K fr true (fuel + 1) listed g ob := by
  subst he
  refine d_osW i hr hi rfl hw (os_callL hS hf (clo_t hc) (K := []) rfl (by simp) ha hk (by rintro l _ rfl h0; obtain rfl := List.eq_nil_of_length_eq_zero h0; exact ⟨by rw [hb]; rfl, [], rfl⟩)) (by simp) ?_ ?_
  · rintro _ _ ⟨l, r', v', os', ok', rfl, _, h, _, rfl, rfl⟩
    rw [hb] at h
    injection h with h
    injection h with h1 h2
    subst h1 h2
    simp only [List.map_nil, List.append_nil, putO]
    exact ⟨⟨_, rfl⟩, fun _ _ => by trivial⟩
  · rintro _ _ ⟨l, r', v', os', ok', rfl, _, h, _, rfl, rfl⟩
    rw [hb] at h
    injection h with h
    injection h with h1 h2
    subst h1 h2
    simpa only [List.map_nil, List.append_nil, putO] using k
/-- a state told anew, where objects are lent -/
theorem suL {m : Nat} (h0 : x.c0.length = m) (τ : List Nat) (live : List (Nat × FV)) (os : List Ob) (hn : τ.Nodup) (ht : τ.take m = List.range m) (h1 : liveOk τ g live) (h2 : objOk τ ob τ os) : Sub x g ob (frL live) (os.map some) :=
  su τ (fun k hk => by
    rw [h0] at hk
    have h3 := congrArg (·[k]?) ht
    simpa [List.getElem?_take, hk] using h3) live os hn h1 h2
/-- a row that the region itself has made is only read from here on -/
theorem dfzK {i k : Nat} {a0 : AV} {y : Tr} {o : Ob} {fv fv' : FV} (hi : Nat.blt i x.n = true) (hg : g i = fv) (ho : obAt ob k = some o) (hf : FzF a0 y fv fv') (key : FzKey x g ob k o a0 y) (hfr : fr.any (Nat.beq i) = true) (hK : K.contains k = false) (kk : WD x ops Q late K fr on fuel listed (upF g i fv') (ob.set k none)) : WD x ops Q late K fr on fuel listed g ob := fun Kp W1 cs ts W hR h1 h2 h3 => by
  obtain ⟨m1, m2⟩ := fz_coreC hi hg ho hf hR (key _ _ _ hR)
  have hne : ∀ k' ∈ K, k ≠ k' := fun k' hk' e => by
    subst e
    have : K.contains k = true := by simpa using hk'
    rw [hK] at this
    cases this
  refine kk Kp W1 cs ts W m1 h1 h2 fun hon => ?_
  have hk := h3 hon
  refine ⟨hk.same, fun b hb => ?_, fun k' hk' o' ho' => ?_, fun j hj => ?_⟩
  · rcases hk.free b hb with h4 | ⟨k2, hk2, o2, ho2, hb2⟩
    · refine .inl fun hm => h4 ?_
      have e := cnt_set (r' := resC none (co cs k)) (ress_get hR.len (obAt_eq ho)) b
      have e1 : (ress ob cs).set k (resC none (co cs k)) = ress (ob.set k none) cs := by
        have h5 := ress_set (ob := ob) (cs := cs) (k := k) (o := none) (c := co cs k)
        rw [co_same (by have := (List.getElem?_eq_some_iff.1 (obAt_eq ho)).1; have := hR.len; omega)] at h5
        exact h5.symm
      have e2 : (resC none (co cs k)).S = [] := by cases hb : (co cs k).b <;> simp [resC]
      rw [e1, e2, List.count_nil] at e
      have h6 := List.count_pos_iff.2 hm
      unfold ownd at h6 ⊢
      exact List.count_pos_iff.1 (by omega)
    · exact .inr ⟨k2, hk2, o2, by rw [List.getElem?_set_ne (hne k2 hk2)]; exact ho2, hb2⟩
  · rw [List.getElem?_set_ne (hne k' hk')] at ho'
    obtain ⟨q1, q2⟩ := hk.ks k' hk' o' ho'
    exact ⟨q1, CRL_keep (fun _ _ => rfl) (fun b hb => ⟨m2 b hb.1, hb.2⟩) .refl _ _ q2⟩
  · obtain ⟨u, q1, q2⟩ := hk.fv j hj
    refine ⟨u, q1, ?_⟩
    unfold mask at q2 ⊢
    cases hq : fr.any (Nat.beq j) with
    | true => simp [FVR, FVR1]
    | false =>
      rw [hq] at q2
      have hji : Nat.beq j i = false := by
        cases hb : Nat.beq j i
        · rfl
        · rw [Nat.eq_of_beq_eq_true hb] at hq
          rw [hq] at hfr
          cases hfr
      simp only [cond_false, upF, hji] at q2 ⊢
      exact FVR_keep (fun _ _ => rfl) (fun b hb => ⟨m2 b hb.1, hb.2⟩) .refl _ _ q2
theorem dfz {i k t z n t' : Nat} {l : List Tr} {fv fv' : FV} (hi : Nat.blt i x.n = true) (hg : g i = fv) (ho : obAt ob k = some ⟨t, z, l.map .t⟩) (hz : l.length = n * z) (hf : FzF (.sl k 0 n) (.s false t' z n l) fv fv') (hfr : fr.any (Nat.beq i) = true) (hK : K.contains k = false) (kk : WD x ops Q late K fr on fuel listed (upF g i fv') (ob.set k none)) : WD x ops Q late K fr on fuel listed g ob := dfzK hi hg ho hf (key_sl t' ho hz) hfr hK kk
theorem o_bs {t len key : Nat} {ps : Array (Nat × Operand)} (i : Nat) (hi : ops[i]? = some ⟨some d, .buildSlice t len ps, ty, pos, af, gd⟩) (h : evBs ttab x.n g t len key ps.toList ob = some ob') (hke : keepL ob ob' K) (k : WD x ops Q late K (d :: fr) true fuel (listed.setIfInBounds i true) (upF g d (.one (.sl key 0 len))) ob') (hw : wantA ops x.n g gd = some true := by rfl) (hT : TTok x.P ttab := by exact ttok) : WO x ops Q late K fr true fuel listed i g ob :=
  o_os (v := .one (.sl key 0 len)) i hi rfl hw (os_bs hT h) (by rintro _ _ ⟨rfl, rfl⟩; exact ⟨rfl, keepL_get hke⟩) (by rintro _ _ ⟨rfl, rfl⟩; exact k)
theorem oel {τ : List Nat} {a : Option Ob} {t z k k' o n : Nat} {l : List Tr} (h : τ[k]? = some k') (h2 : a = some ⟨t, z, .sl k' o n :: l.map .t⟩) : OEq τ a ⟨t, z, .sl k o n :: l.map .t⟩ := ⟨_, by simp [renL, renA, h, ren_t], h2⟩
end
end Go.Proofs.YtogaallfhifngaaGreat

/- Rows of vintages that are owned: plain laws. -/
namespace Go.Proofs.YtogaallfhifngaaGreat
open Go Go.RowKit

/-- a row of one's own, its amounts only read -/
def sR (t : Nat) (us : List (Int × Rat)) : Tr := .s true t 5 us.length (us.flatMap (vtr false))
/-- a row of one's own, with all that is in it -/
def sO (t : Nat) (us : List (Int × Rat)) : Tr := .s true t 5 us.length (us.flatMap (vtr true))
def vcl (us : List (Int × Rat)) : List AV := (us.flatMap (vtr false)).map .t
def vco (us : List (Int × Rat)) : List AV := (us.flatMap (vtr true)).map .t
section
variable {us vs : List (Int × Rat)} {k : Nat} {x : Int × Rat}
theorem vcl_len (us : List (Int × Rat)) : (vcl us).length = us.length * 5 := by rw [vcl, List.length_map, vflat_len]
theorem vco_len (us : List (Int × Rat)) : (vco us).length = us.length * 5 := by rw [vco, List.length_map, vflat_len]
theorem vcl_snoc (us : List (Int × Rat)) (x : Int × Rat) : vcl us ++ (vtr false x).map .t = vcl (us ++ [x]) := by simp [vcl, List.flatMap_append]
theorem vco_snoc (us : List (Int × Rat)) (x : Int × Rat) : vco us ++ (vtr true x).map .t = vco (us ++ [x]) := by simp [vco, List.flatMap_append]
theorem row_at (h : k < us.length) : ((vcl us).drop (0 + k * 5)).take ((vtr false (nthV us k)).map AV.t).length = (vtr false (nthV us k)).map .t := by
  rw [vcl, ← List.map_drop, ← List.map_take, Nat.zero_add, List.length_map, vin_at false h]
theorem row_q (h : k < us.length) : ((vcl us).drop (0 + k * 5 + 1)).take (((Fr4.of (nthV us k).2).tr false).map AV.t).length = ((Fr4.of (nthV us k).2).tr false).map .t := by
  rw [vcl, ← List.map_drop, ← List.map_take, Nat.zero_add, List.length_map, vin_q false h]
theorem row_y (h : k < us.length) : (vcl us)[0 + k * 5]? = some (tv (.int .i64 (nthV us k).1)) := by
  have h1 := congrArg (·[0]?) (row_at h)
  simp only [List.getElem?_take, List.getElem?_drop] at h1
  simpa [vtr, tv] using h1
theorem row_le (h : k < us.length) : 0 + k * 5 + 5 ≤ (vcl us).length := by rw [vcl_len]; omega
theorem row_le4 {q : Rat} (h : k < us.length) : 0 + k * 5 + 1 + (((Fr4.of q).tr false).map AV.t).length ≤ (vcl us).length := by
  rw [vcl_len]
  show 0 + k * 5 + 1 + 4 ≤ _
  omega
theorem flat_take (us : List (Int × Rat)) (k : Nat) : (us.flatMap (vtr false)).take (k * 5) = (us.take k).flatMap (vtr false) := by
  by_cases h : k ≤ us.length
  · conv => lhs; rw [← List.take_append_drop k us, List.flatMap_append]
    exact List.take_left' (by rw [vflat_len, List.length_take, Nat.min_eq_left h])
  · rw [List.take_of_length_le (by rw [vflat_len]; omega), List.take_of_length_le (by omega)]
theorem flat_drop (us : List (Int × Rat)) (k : Nat) : (us.flatMap (vtr false)).drop (k * 5) = (us.drop k).flatMap (vtr false) := by
  by_cases h : k ≤ us.length
  · conv => lhs; rw [← List.take_append_drop k us, List.flatMap_append]
    exact List.drop_left' (by rw [vflat_len, List.length_take, Nat.min_eq_left h])
  · rw [List.drop_of_length_le (by rw [vflat_len]; omega), List.drop_of_length_le (by omega)]
    rfl
theorem put_v (h : k < us.length) : putA (vcl us) (0 + k * 5) ((vtr false x).map AV.t) = vcl (us.set k x) := by
  have e : k * 5 + ((vtr false x).map AV.t).length = (k + 1) * 5 := by show k * 5 + 5 = _; omega
  rw [Nat.zero_add]
  unfold putA vcl
  rw [e, ← List.map_take, ← List.map_drop, flat_take, flat_drop, ← List.map_append, ← List.map_append, List.set_eq_take_append_cons_drop, if_pos h]
  simp [List.flatMap_append]
theorem put_q {q : Rat} (h : k < us.length) : putA (vcl us) (0 + k * 5 + 1) (((Fr4.of q).tr false).map AV.t) = vcl (us.set k ((nthV us k).1, q)) := by
  rw [← put_v h]
  have h1 : (vcl us).take (0 + k * 5 + 1) = (vcl us).take (0 + k * 5) ++ [tv (.int .i64 (nthV us k).1)] := by
    rw [List.take_add_one, row_y h]
    rfl
  unfold putA
  rw [h1]
  have e : 0 + k * 5 + 1 + (((Fr4.of q).tr false).map AV.t).length = 0 + k * 5 + ((vtr false ((nthV us k).1, q)).map AV.t).length := by show 0 + k * 5 + 1 + 4 = 0 + k * 5 + 5; omega
  rw [e]
  simp [vtr, tv]
theorem take_vcl (us : List (Int × Rat)) (k : Nat) : (vcl us).take (k * 5) = ((us.take k).flatMap (vtr false)).map .t := by rw [vcl, ← List.map_take, flat_take]
theorem take_self (l : List Tr) (n : Nat) (h : l.length = n) : (l.map AV.t).take n = l.map .t := List.take_of_length_le (by simp [h])
theorem rd_vo (o : Bool) (us : List (Int × Rat)) : rdTL (us.flatMap (vtr o)) = us.flatMap (vtr false) := by
  have app : ∀ a b : List Tr, rdTL (a ++ b) = rdTL a ++ rdTL b := by
    intro a b
    induction a with
    | nil => rfl
    | cons x a ih => simp [rdTL, ih]
  have u32 : ∀ xs : List Nat, rdTL (u32T xs) = u32T xs := by
    intro xs
    induction xs with
    | nil => rfl
    | cons x xs ih => simpa [u32T, rdTL, rdT] using ih
  induction us with
  | nil => rfl
  | cons x us ih =>
    show rdTL (vtr o x ++ us.flatMap (vtr o)) = vtr false x ++ us.flatMap (vtr false)
    rw [app, ih]
    simp [vtr, Fr4.tr, rdTL, rdT, sU, u32]
theorem nofr_vo (us : List (Int × Rat)) : NoFrL (us.flatMap (vtr true)) := by
  have app : ∀ a b : List Tr, NoFrL a → NoFrL b → NoFrL (a ++ b) := by
    intro a b ha hb
    induction a with
    | nil => exact hb
    | cons x a ih =>
      simp only [NoFrL] at ha
      simp only [List.cons_append, NoFrL]
      exact ⟨ha.1, ih ha.2⟩
  induction us with
  | nil => simp [NoFrL]
  | cons x us ih =>
    rw [List.flatMap_cons]
    refine app _ _ ?_ ih
    simp only [vtr, Fr4.tr, sU, NoFrL, NoFr]
    exact ⟨trivial, trivial, .inl ⟨trivial, nofr_u32 _⟩, trivial, .inl ⟨trivial, nofr_u32 _⟩, trivial⟩
theorem nofr_sO (t : Nat) (us : List (Int × Rat)) : NoFrF (.one (.t (sO t us))) := .inl ⟨rfl, nofr_vo us⟩
theorem nofr_vtr (x : Int × Rat) : NoFrF (.agg ((vtr true x).map .t)) := by
  simp only [NoFrF, NoFrF1, vtr, Fr4.tr, sU, List.map_cons, List.map_nil, NoFrAL, NoFrA, NoFr]
  exact ⟨trivial, trivial, .inl ⟨trivial, nofr_u32 _⟩, trivial, .inl ⟨trivial, nofr_u32 _⟩, trivial⟩
end
section
variable {x : Cx} {g : Nat → FV} {ob : List (Option Ob)}
/-- a vintage that was appended takes its limbs in -/
theorem pkV {j k1 k2 e : Nat} {us : List (Int × Rat)} {y : Int} {q : Rat} (hn : Nat.beq k1 k2 = false) (h1 : Nat.beq j k1 = false) (h2 : Nat.beq j k2 = false) (ho : obAt ob j = some ⟨e, 5, vco us ++ [tv (.int .i64 y), tv (.bool (sgz q.num)), .sl k1 0 (dg 4294967296 q.num.natAbs).length, tv (.bool false), .sl k2 0 (dg 4294967296 q.den).length]⟩)
    (o1 : obAt ob k1 = some ⟨104, 1, (u32T (dg 4294967296 q.num.natAbs)).map .t⟩) (o2 : obAt ob k2 = some ⟨104, 1, (u32T (dg 4294967296 q.den)).map .t⟩) : Sub x g ob g ((((ob.set j (some ⟨e, 5, vco us ++ [tv (.int .i64 y), tv (.bool (sgz q.num)), .t (sU true (dg 4294967296 q.num.natAbs)), tv (.bool false), .sl k2 0 (dg 4294967296 q.den).length]⟩)).set k1 none).set j (some ⟨e, 5, vco (us ++ [(y, q)])⟩)).set k2 none) := by
  have hk : ∀ {l : List (Option Ob)} {i m : Nat} {o : Option Ob}, Nat.beq i m = false → obAt (l.set i o) m = obAt l m := fun {l i m o} h => by
    unfold obAt
    rw [List.getElem?_set_ne (fun e => by subst e; simp at h)]
  have hjl := (List.getElem?_eq_some_iff.1 (obAt_eq ho)).1
  have hk1l := (List.getElem?_eq_some_iff.1 (obAt_eq o1)).1
  have hb : ∀ {a b : Nat}, Nat.beq a b = false → Nat.beq b a = false := fun {a b} h => by
    cases hq : Nat.beq b a
    · rfl
    · rw [Nat.eq_of_beq_eq_true hq] at h
      simp at h
  have hlen := vco_len us
  have s1 := cls (x := x) (g := g) (ob := ob) (j := j) (k := k1) (p := us.length * 5 + 2) (e := 104) (z := 1) (n := (dg 4294967296 q.num.natAbs).length) (trs := u32T (dg 4294967296 q.num.natAbs)) h1 rfl ho o1 (by rw [List.getElem?_append_right (by omega)]; simp [hlen]) (tk_u32 _) (ln_u32 _)
    (l' := vco us ++ [tv (.int .i64 y), tv (.bool (sgz q.num)), .t (sU true (dg 4294967296 q.num.natAbs)), tv (.bool false), .sl k2 0 (dg 4294967296 q.den).length]) (by rw [List.set_append_right _ _ (by omega), hlen, show us.length * 5 + 2 - us.length * 5 = 2 by omega]; rfl)
  have s2 := cls (x := x) (g := g) (ob := (ob.set j (some ⟨e, 5, vco us ++ [tv (.int .i64 y), tv (.bool (sgz q.num)), .t (sU true (dg 4294967296 q.num.natAbs)), tv (.bool false), .sl k2 0 (dg 4294967296 q.den).length]⟩)).set k1 none) (j := j) (k := k2) (p := us.length * 5 + 4) (e := 104) (z := 1) (n := (dg 4294967296 q.den).length) (trs := u32T (dg 4294967296 q.den)) (t' := e) (z' := 5) h2 rfl
    (by rw [hk (hb h1)]; unfold obAt; rw [List.getElem?_set_self hjl]) (by rw [hk hn, hk h2]; exact o2) (by rw [List.getElem?_append_right (by omega)]; simp [hlen]) (tk_u32 _) (ln_u32 _)
    (l' := vco (us ++ [(y, q)])) (by rw [List.set_append_right _ _ (by omega), hlen, show us.length * 5 + 4 - us.length * 5 = 4 by omega, ← vco_snoc]; rfl)
  exact fun ts W hR => s2 ts W (s1 ts W hR)
end
end Go.Proofs.YtogaallfhifngaaGreat

/- What is swept out of a row, and used of it: plain laws. -/
namespace Go.Proofs.YtogaallfhifngaaGreat
open Go Go.RowKit

/-- where the first one is that goes -/
def ixV (dl : Int × Rat → Bool) : List (Int × Rat) → Nat
  | [] => 0
  | x :: l => if dl x then 0 else ixV dl l + 1
def keepV (dl : Int × Rat → Bool) (vs : List (Int × Rat)) : List (Int × Rat) := vs.filter fun x => !dl x
def zV : List Value := [.int .i64 0, .bool false, .slice none 0 0, .bool false, .slice none 0 0]
/-- a row behind a sweep: what is left, then zeros -/
def swept (vs F : List (Int × Rat)) : List Tr := F.flatMap (vtr false) ++ (zRow zV (vs.length - F.length)).map .v
section
variable {dl : Int × Rat → Bool} {vs us : List (Int × Rat)} {i j k : Nat}
theorem ixV_le : ∀ (vs : List (Int × Rat)), ixV dl vs ≤ vs.length
  | [] => Nat.le_refl _
  | x :: l => by
    have := ixV_le l
    unfold ixV
    split <;> simp <;> omega
theorem ixV_step : ∀ {vs : List (Int × Rat)} {k : Nat}, k ≤ ixV dl vs → k < vs.length → (dl (nthV vs k) = true → ixV dl vs = k) ∧ (dl (nthV vs k) = false → k + 1 ≤ ixV dl vs)
  | [], _, _, h => by simp at h
  | x :: l, 0, _, _ => by
    have e : nthV (x :: l) 0 = x := rfl
    rw [e]
    unfold ixV
    constructor
    · intro h; simp [h]
    · intro h; simp [h]
  | x :: l, k + 1, h, h2 => by
    have e : nthV (x :: l) (k + 1) = nthV l k := by simp [nthV]
    rw [e]
    unfold ixV at h ⊢
    by_cases hx : dl x = true
    · simp [hx] at h
    · simp only [if_neg hx] at h ⊢
      have := ixV_step (vs := l) (k := k) (by omega) (by simpa using h2)
      exact ⟨fun h => by rw [this.1 h], fun h => by have := this.2 h; omega⟩
theorem keep_pre : ∀ {vs : List (Int × Rat)} {k : Nat}, k ≤ ixV dl vs → (vs.take k).filter (fun x => !dl x) = vs.take k
  | vs, 0, _ => by simp
  | [], k + 1, _ => by simp
  | x :: l, k + 1, h => by
    unfold ixV at h
    by_cases hx : dl x = true
    · simp [hx] at h
    · simp only [if_neg hx] at h
      have := keep_pre (vs := l) (k := k) (by omega)
      simp [hx, this]
theorem keep_all (h : ixV dl vs = vs.length) : keepV dl vs = vs := by
  have := keep_pre (dl := dl) (vs := vs) (k := vs.length) (by omega)
  rwa [List.take_of_length_le (Nat.le_refl _)] at this
theorem nthV_set (h : k < us.length) (x : Int × Rat) : nthV (us.set k x) k = x := by simp [nthV, h]
theorem del_start (h : ixV dl vs < vs.length) : vs.take (ixV dl vs) = (vs.take (ixV dl vs + 1)).filter (fun x => !dl x) := by
  have h1 : dl (nthV vs (ixV dl vs)) = true := by
    cases hq : dl (nthV vs (ixV dl vs)) with
    | true => rfl
    | false =>
      have := (ixV_step (Nat.le_refl _) h).2 hq
      omega
  rw [take_v h, List.filter_append, keep_pre (Nat.le_refl _)]
  simp [h1]
theorem del_keep (h : us.take i = (vs.take j).filter (fun x => !dl x)) (hj : j < vs.length) (hx : dl (nthV vs j) = false) (hi : i < us.length) : (us.set i (nthV vs j)).take (i + 1) = (vs.take (j + 1)).filter (fun x => !dl x) := by
  rw [take_v (by simpa using hi), List.take_set_of_le (Nat.le_refl _), h, nthV_set hi, take_v hj, List.filter_append]
  simp [hx]
theorem del_drop (h : us.take i = (vs.take j).filter (fun x => !dl x)) (hj : j < vs.length) (hx : dl (nthV vs j) = true) : us.take i = (vs.take (j + 1)).filter (fun x => !dl x) := by
  rw [h, take_v hj, List.filter_append]
  simp [hx]
theorem nth_ne (h : i ≠ j) (x : Int × Rat) : nthV (us.set i x) j = nthV us j := by simp [nthV, List.getElem?_set_ne h]
theorem swept_end (hul : us.length = vs.length) (hi : i ≤ us.length) (h : us.take i = keepV dl vs) : putA (vcl us) (0 + i * 5) ((zRow zV (us.length - i)).map tv) = (swept vs (keepV dl vs)).map .t := by
  have hl : (keepV dl vs).length = i := by rw [← h, List.length_take, Nat.min_eq_left hi]
  unfold putA swept
  rw [Nat.zero_add, take_vcl, h, List.drop_of_length_le (by rw [vcl_len, List.length_map, zRow_len]; show us.length * 5 ≤ i * 5 + (us.length - i) * 5; omega), List.append_nil, hl, hul]
  simp [tv]
theorem swept_all (h : keepV dl vs = vs) : vcl vs = (swept vs (keepV dl vs)).map .t := by
  unfold swept
  rw [h, Nat.sub_self]
  simp [zRow, vcl]
theorem swept_take (vs F : List (Int × Rat)) : ((swept vs F).map AV.t).take (F.length * 5) = (F.flatMap (vtr false)).map .t := by
  unfold swept
  rw [List.map_append]
  exact List.take_left' (by rw [List.length_map, vflat_len])
theorem useL_snoc {fr : Int} (p : Rat) (h : k < vs.length) : useL fr (vs.take (k + 1)) p = useS fr (useL fr (vs.take k) p) (nthV vs k) := by
  unfold useL
  rw [take_v h, List.foldl_append]
  rfl
theorem set_mid2 {α : Type} {a b us : List α} {k : Nat} {x y : α} (h : us = a ++ x :: b) (ha : a.length = k) : us.set k y = (a ++ [y]) ++ b := by
  subst h
  rw [List.set_append_right _ _ (by omega), ha, Nat.sub_self]
  simp
theorem drop_v (h : k < vs.length) : vs.drop k = nthV vs k :: vs.drop (k + 1) := by
  rw [List.drop_eq_getElem_cons h]
  congr 1
  simp [nthV, h]
theorem nth_mid2 {a b us : List (Int × Rat)} {k : Nat} {x : Int × Rat} (h : us = a ++ x :: b) (ha : a.length = k) : nthV us k = x := by
  subst h
  unfold nthV
  rw [List.getD_eq_getElem?_getD, List.getElem?_append_right (by omega), ha, Nat.sub_self]
  rfl
end
end Go.Proofs.YtogaallfhifngaaGreat

/- The states of a ledger; acts: plain laws. -/
namespace Go.Proofs.YtogaallfhifngaaGreat
open Go Go.RowKit

/-- a ledger's years and amounts: above 0, so many, so long -/
structure StOk (X : List (Int × Rat)) (n B : Nat) : Prop where
  pos : ∀ x ∈ X, 0 < x.2
  len : X.length ≤ n
  size : wts (X.map Prod.snd) ≤ B
section
variable {X : List (Int × Rat)} {n B n' B' : Nat}
theorem StOk.mono (h : StOk X n B) (h1 : n ≤ n') (h2 : B ≤ B') : StOk X n' B' := ⟨h.pos, Nat.le_trans h.len h1, Nat.le_trans h.size h2⟩
theorem StOk.nil : StOk [] 0 0 := ⟨fun _ h => (by cases h), Nat.le_refl _, Nat.le_refl _⟩
theorem StOk.sz {L : Nat} (h : StOk X n B) (hB : B ≤ L) : ∀ x ∈ X, Sz L x.2 := by
  intro x hx
  refine sz_iff.2 ?_
  have h1 := h.size
  have h2 : wt x.2 ≤ wts (X.map Prod.snd) := wts_mem (List.mem_map.2 ⟨x, hx, rfl⟩)
  have h3 : wt x.2 = szq x.2 + 1 := rfl
  omega
theorem StOk.filter (h : StOk X n B) (p : Int × Rat → Bool) : StOk (X.filter p) n B :=
  ⟨fun x hx => h.pos x (List.mem_filter.1 hx).1, Nat.le_trans (List.length_filter_le _ _) h.len, Nat.le_trans (wts_sub (List.filter_sublist.map _)) h.size⟩
theorem StOk.put (h : StOk X n B) (e y : Int) (q : Rat) : StOk (putL e q y X) (n + 1) (B + wt q) := by
  unfold putL
  split
  · split
    · rename_i h1 h2
      have h3 := (sgn_pos q).1 (of_decide_eq_true h2)
      refine ⟨fun x hx => ?_, by simp [h.len], ?_⟩
      · rcases List.mem_append.1 hx with hx | hx
        · exact h.pos x hx
        · rw [List.mem_singleton] at hx
          subst hx
          exact h3
      · rw [List.map_append, wts_append]
        have := h.size
        simp [wts] at *
        omega
    · exact h.mono (by omega) (by omega)
  · exact h.mono (by omega) (by omega)
theorem refL_pos (fr : Int) (xs : List (Int × Rat)) : ∀ (s : List (Int × Rat) × List (Int × Rat) × Rat), (∀ x ∈ s.1, 0 < x.2) → ∀ x ∈ (xs.foldl (refS fr) s).1, 0 < x.2 := by
  have step : ∀ (L : List (Int × Rat)) (y : Int) (q : Rat), (∀ x ∈ L, 0 < x.2) → ∀ x ∈ (if 0 < q.num.sign then L ++ [(y, q)] else L), 0 < x.2 := by
    intro L y q h
    split
    · rename_i hp
      intro x hx
      rcases List.mem_append.1 hx with hx | hx
      · exact h x hx
      · rw [List.mem_singleton] at hx; subst hx; exact (sgn_pos _).1 hp
    · exact h
  induction xs with
  | nil => intro s h; exact h
  | cons y xs ih =>
    intro s h
    rw [List.foldl_cons]
    refine ih _ ?_
    by_cases hc : fr ≤ y.1 ∧ 0 < s.2.2.num.sign
    · rw [refS_yes hc]
      exact step _ _ _ h
    · rw [refS_no hc]
      exact step _ _ _ h
theorem useL_wt (fr : Int) (p : Rat) : ∀ (xs : List (Int × Rat)), wts ((useL fr xs p).1.map Prod.snd) + wt (useL fr xs p).2.2 ≤ wts (xs.map Prod.snd) + wt p + 2 * xs.length := by
  intro xs
  have key : ∀ (xs : List (Int × Rat)) (s : List (Int × Rat) × List (Int × Rat) × Rat), wts ((xs.foldl (useS fr) s).1.map Prod.snd) + wt (xs.foldl (useS fr) s).2.2 ≤ wts (s.1.map Prod.snd) + wt s.2.2 + wts (xs.map Prod.snd) + 2 * xs.length := by
    intro xs
    induction xs with
    | nil => intro s; simp [wts]
    | cons x xs ih =>
      intro s
      rw [List.foldl_cons]
      refine Nat.le_trans (ih _) ?_
      have e : wts ((x :: xs).map Prod.snd) = wt x.2 + wts (xs.map Prod.snd) := by simp [wts]
      rw [e, List.length_cons]
      by_cases hc : fr ≤ x.1 ∧ 0 < s.2.2.num.sign
      · have h1 := useS_yes (s := s) (y := x.1) (q := x.2) hc.1 hc.2
        have h2 := wt_min x.2 s.2.2
        rw [show useS fr s x = useS fr s (x.1, x.2) from rfl, h1]
        dsimp only
        rw [List.map_append, wts_append]
        simp only [List.map_cons, List.map_nil, wts, List.sum_cons, List.sum_nil] at h2 ⊢
        omega
      · rw [useS_no hc]
        dsimp only
        rw [List.map_append, wts_append]
        simp only [List.map_cons, List.map_nil, wts, List.sum_cons, List.sum_nil]
        omega
  have := key xs ([], [], p)
  have e : wts (([] : List (Int × Rat)).map Prod.snd) = 0 := rfl
  unfold useL
  dsimp only at this
  rw [e] at this
  omega
theorem StOk.use {fr : Int} {p : Rat} (h : StOk X n B) : StOk (refL fr X p).1 n (B + wt p + 2 * n) := by
  refine ⟨refL_pos fr X _ (fun _ h => by cases h), ?_, ?_⟩
  · rw [(useL_refL h.pos).1]
    refine Nat.le_trans (List.length_filter_le _ _) ?_
    rw [useL_len]
    exact h.len
  · rw [(useL_refL h.pos).1]
    have h1 := useL_wt fr p X
    have h2 := wts_sub ((List.filter_sublist (l := (useL fr X p).1) (p := fun x => !dl0 x.1 x.2)).map Prod.snd)
    have h3 := h.size
    have h4 := h.len
    omega
theorem StOk.zU {fr : Int} {p : Rat} {L : Nat} (h : StOk X n B) (hB : B + wt p + 2 * n ≤ L) : ∀ x ∈ (useL fr X p).1, Sz L x.2 := by
  intro x hx
  refine sz_iff.2 ?_
  have h1 := useL_wt fr p X
  have h2 : wt x.2 ≤ wts ((useL fr X p).1.map Prod.snd) := wts_mem (List.mem_map.2 ⟨x, hx, rfl⟩)
  have h3 : wt x.2 = szq x.2 + 1 := rfl
  have h4 := h.size
  have h5 := h.len
  omega
end
theorem wt6 {a : Fr4} {p : Rat} (ha : Qn a p) (h1 : a.x.length ≤ 6) (h2 : a.y.length ≤ 6) : wt p ≤ 7 := by
  obtain ⟨⟨l1, l2, _, _⟩, rfl⟩ := ha
  have := sz_iff.1 (qin_sz (na := a.s) (nb := a.t) l1 l2 h1 h2 (by omega))
  have e : wt a.q = szq a.q + 1 := rfl
  have e2 : szq (qin a.s a.x a.t a.y) = szq a.q := rfl
  omega
theorem negz_szi {L : Nat} {k : Int} (h : SzI L k) : SzI L (-k) := by
  unfold SzI
  rw [Int.natAbs_neg]
  exact h
theorem of_szi {n : Int} (h1 : -9223372036854775808 ≤ n) (h2 : n ≤ 9223372036854775807) : SzI 2 n := of_len h1 h2
theorem by_sz {n d : Int} (h1 : -9223372036854775808 ≤ n) (h2 : n ≤ 9223372036854775807) (h3 : -9223372036854775808 ≤ d) (h4 : d ≤ 9223372036854775807) : Sz 2 (Rat.divInt n d) := by
  rcases Int.lt_trichotomy d 0 with hd | hd | hd
  · rw [← Rat.neg_divInt_neg]
    obtain ⟨e1, e2⟩ := divInt_sz (a := -n) (b := -d) (L := 2) (M := 2) (by omega) (negz_szi (of_szi h1 h2)) (negz_szi (of_szi h3 h4))
    exact ⟨e1, e2⟩
  · subst hd
    rw [Rat.divInt_zero]
    exact ⟨Nat.zero_le _, by decide⟩
  · obtain ⟨e1, e2⟩ := divInt_sz (a := n) (b := d) (L := 2) (M := 2) hd (of_szi h1 h2) (of_szi h3 h4)
    exact ⟨e1, e2⟩
/-! acts: kind, year, amount -/
abbrev At := Int × Int × Fr4
def atr (x : At) : List Tr := .v (.int .i64 x.1) :: .v (.int .i64 x.2.1) :: x.2.2.tr false
def nilAt : At := (0, 0, nilF)
def nthA (xs : List At) (k : Nat) : At := xs.getD k nilAt
def sAc (t : Nat) (xs : List At) : Tr := .s false t 6 xs.length (xs.flatMap atr)
section
variable {xs : List At} {k : Nat}
theorem nthA_get (h : k < xs.length) : xs[k]? = some (nthA xs k) := by simp [nthA, h]
theorem nthA_mem (h : k < xs.length) : nthA xs k ∈ xs := List.mem_of_getElem? (nthA_get h)
theorem act_q (h : k < xs.length) : ((xs.flatMap atr).drop (k * 6 + 2)).take ((nthA xs k).2.2.tr false).length = (nthA xs k).2.2.tr false := flat_sub (f := atr) (o := 2) (m := 4) (fun _ => rfl) (nthA_get h) (by omega)
end
def shortB (x : Fr4) : Bool := decide ((x.x.length : Int) ≤ 6) && decide ((x.y.length : Int) ≤ 6)
def fewB (xs : List At) (top : Int) : Bool := ((xs.take 100).all fun x => shortB x.2.2) && decide ((xs.length : Int) ≤ top)
theorem few_no {xs : List At} {k : Nat} {top : Int} (h : k < xs.length) (h2 : k < 100) (h3 : shortB (nthA xs k).2.2 = false) : false = fewB xs top := by
  unfold fewB
  have : ((xs.take 100).all fun x => shortB x.2.2) = false := by
    rw [List.all_eq_false]
    exact ⟨_, List.mem_of_getElem? (i := k) (by rw [List.getElem?_take, if_pos h2, nthA_get h]), by simp [h3]⟩
  rw [this]
  rfl
theorem few_yes {xs : List At} {k : Nat} {top : Int} (h : ∀ j, j < k → shortB (nthA xs j).2.2 = true) (hk : k ≤ xs.length) (h2 : ¬ (k < xs.length ∧ k < 100)) : decide ((xs.length : Int) ≤ top) = fewB xs top := by
  unfold fewB
  have : ((xs.take 100).all fun x => shortB x.2.2) = true := by
    rw [List.all_eq_true]
    intro x hx
    obtain ⟨j, hj⟩ := List.mem_iff_getElem?.1 hx
    rw [List.getElem?_take] at hj
    split at hj
    · have hjl := (List.getElem?_eq_some_iff.1 hj).1
      rw [nthA_get hjl] at hj
      injection hj with hj
      rw [← hj]
      exact h j (by omega)
    · cases hj
  rw [this, Bool.true_and]
theorem few_use {xs : List At} {top : Int} (h : fewB xs top = true) (ht : top ≤ 100) : (xs.length : Int) ≤ top ∧ ∀ x ∈ xs, x.2.2.x.length ≤ 6 ∧ x.2.2.y.length ≤ 6 := by
  unfold fewB at h
  rw [Bool.and_eq_true, decide_eq_true_eq] at h
  refine ⟨h.2, fun x hx => ?_⟩
  rw [List.take_of_length_le (by omega), List.all_eq_true] at h
  have := h.1 x hx
  simp only [shortB, Bool.and_eq_true, decide_eq_true_eq] at this
  omega
theorem same_stepV {us ws : List (Int × Rat)} {k : Nat} (h : us.take k = ws.take k) (h1 : k < us.length) (h2 : k < ws.length) (h3 : (nthV us k).1 = (nthV ws k).1) (h4 : (nthV us k).2 = (nthV ws k).2) : us.take (k + 1) = ws.take (k + 1) := by
  rw [take_v h1, take_v h2, h]
  congr 2
  exact Prod.ext h3 h4
/-- rows whose amounts' limbs are owned -/
def Spo (n : Nat) (trs : List Tr) : Prop := trs.length = n * 5 ∧ ∀ i, i < n → ∃ xs, xs.length ≤ 1099511627776 ∧ trs[i * 5 + 2]? = some (sU true xs)
theorem Spo.step {n i : Nat} {trs : List Tr} (h : Spo n trs) (hi : i < n) (zs : List Nat) (hz : zs.length ≤ 1099511627776) (v : Value) : Spo n ((trs.set (i * 5 + 2) (sU true zs)).set (i * 5) (.v v)) := by
  refine ⟨by simp [h.1], fun j hj => ?_⟩
  rw [List.getElem?_set_ne (by omega)]
  by_cases e : j = i
  · subst e
    exact ⟨zs, hz, List.getElem?_set_self (by rw [h.1]; omega)⟩
  · rw [List.getElem?_set_ne (by omega)]
    exact h.2 j hj
theorem pick_in {i n : Int} (h1 : 0 < n) : -n < i.tmod n ∧ i.tmod n < n := by
  have h2 := Int.tmod_lt_of_pos i h1
  have h3 := Int.tmod_lt_of_pos (-i) h1
  rw [Int.neg_tmod] at h3
  omega
end Go.Proofs.YtogaallfhifngaaGreat

/- What is used of a row of vintages, and what is left of what was put: plain laws. -/
namespace Go.Proofs.YtogaallfhifngaaGreat
open Go Go.RowKit

theorem flat_tk {α : Type} {f : α → List Tr} {z : Nat} (hf : ∀ x, (f x).length = z) (us : List α) (k : Nat) : (us.flatMap f).take (k * z) = (us.take k).flatMap f := by
  by_cases h : k ≤ us.length
  · conv => lhs; rw [← List.take_append_drop k us, List.flatMap_append]
    exact List.take_left' (by rw [flat_len hf, List.length_take, Nat.min_eq_left h])
  · rw [List.take_of_length_le (by rw [flat_len hf]; exact Nat.mul_le_mul_right z (by omega)), List.take_of_length_le (by omega)]
theorem flat_dr {α : Type} {f : α → List Tr} {z : Nat} (hf : ∀ x, (f x).length = z) (us : List α) (k : Nat) : (us.flatMap f).drop (k * z) = (us.drop k).flatMap f := by
  by_cases h : k ≤ us.length
  · conv => lhs; rw [← List.take_append_drop k us, List.flatMap_append]
    exact List.drop_left' (by rw [flat_len hf, List.length_take, Nat.min_eq_left h])
  · rw [List.drop_of_length_le (by rw [flat_len hf]; exact Nat.mul_le_mul_right z (by omega)), List.drop_of_length_le (by omega)]
    rfl
theorem flat_put {α : Type} {f : α → List Tr} {z : Nat} (hf : ∀ x, (f x).length = z) {us : List α} {k : Nat} {x : α} (h : k < us.length) : putA ((us.flatMap f).map .t) (0 + k * z) ((f x).map AV.t) = ((us.set k x).flatMap f).map .t := by
  have e : k * z + ((f x).map AV.t).length = (k + 1) * z := by rw [List.length_map, hf, Nat.succ_mul]
  rw [Nat.zero_add]
  unfold putA
  rw [e, ← List.map_take, ← List.map_drop, flat_tk hf, flat_dr hf, ← List.map_append, ← List.map_append, List.set_eq_take_append_cons_drop, if_pos h]
  simp [List.flatMap_append]
section
variable {ls : List Fr4} {k : Nat} {a : Fr4}
end
/-- years -/
def nthI (ys : List Int) (k : Nat) : Int := ys.getD k 0
def icl (ys : List Int) : List AV := (ys.map fun y => Tr.v (.int .i64 y)).map .t
theorem icl_at {ys tl : List Int} {k : Nat} (h : k < ys.length) : (icl (ys ++ tl))[0 + k * 1]? = some (tv (.int .i64 (nthI ys k))) := by
  rw [Nat.zero_add, Nat.mul_one, icl, List.getElem?_map, List.getElem?_map, List.getElem?_append_left h]
  simp [nthI, h, tv]
theorem icl_put {ys tl : List Int} {y0 y : Int} {n : Nat} (hn : ys.length = n) : putA (icl (ys ++ y0 :: tl)) (0 + n * 1) [tv (.int .i64 y)] = icl (ys ++ y :: tl) := by
  subst hn
  have e : ∀ (A C : List AV) (a b : AV), A.length = ys.length → (A ++ a :: C).take ys.length ++ [b] ++ (A ++ a :: C).drop (ys.length + 1) = A ++ b :: C := by
    intro A C a b hA
    rw [List.take_left' hA, show A ++ a :: C = (A ++ [a]) ++ C by simp, List.drop_left' (by simp [hA])]
    simp
  have h := e ((ys.map fun y => Tr.v (.int .i64 y)).map .t) ((tl.map fun y => Tr.v (.int .i64 y)).map .t) (tv (.int .i64 y0)) (tv (.int .i64 y)) (by simp)
  rw [Nat.zero_add, Nat.mul_one]
  unfold putA icl
  simpa [tv] using h
theorem icl_le {ys tl : List Int} {y0 y : Int} {n : Nat} (hn : ys.length = n) : 0 + n * 1 + [tv (.int .i64 y)].length ≤ (icl (ys ++ y0 :: tl)).length := by subst hn; simp [icl]
theorem icl_zero (m : Nat) : (List.replicate m (Value.int .i64 0)).map tv = icl (List.replicate m 0) := by simp [icl, tv]
/-- amounts that are left, and what lies behind them -/
def zT (Z : List (Int × Rat)) (rest : List Tr) : List Tr := (Z.flatMap fun x => (Fr4.of x.2).tr false) ++ rest
def zcl (Z : List (Int × Rat)) (rest : List Tr) : List AV := (zT Z rest).map .t
section
variable {Z : List (Int × Rat)} {rest r4 : List Tr} {k : Nat} {q : Rat} {a : Fr4}
theorem zfl_len (Z : List (Int × Rat)) : (Z.flatMap fun x : Int × Rat => (Fr4.of x.2).tr false).length = Z.length * 4 := flat_len (z := 4) (fun _ => rfl) Z
theorem zcl_len (Z : List (Int × Rat)) (rest : List Tr) : (zcl Z rest).length = Z.length * 4 + rest.length := by rw [zcl, List.length_map, zT, List.length_append, zfl_len]
theorem zcl_at (h : k < Z.length) (he : (nthV Z k).2 = q) : ((zcl Z rest).drop (0 + k * 4)).take (((Fr4.of q).tr false).map AV.t).length = ((Fr4.of q).tr false).map .t := by
  have h1 := flat_at (f := fun x : Int × Rat => (Fr4.of x.2).tr false) (z := 4) (fun _ => rfl) (nthV_get h)
  have hl := zfl_len Z
  rw [zcl, ← List.map_drop, ← List.map_take, Nat.zero_add, List.length_map, zT, List.drop_append_of_le_length (by omega)]
  show List.map AV.t (List.take 4 _) = _
  rw [List.take_append_of_le_length (by rw [List.length_drop]; omega), h1, ← he]
theorem zcl_put (h : k < Z.length) (y : Int) (q : Rat) : putA (zcl Z rest) (0 + k * 4) (((Fr4.of q).tr false).map AV.t) = zcl (Z.set k (y, q)) rest := by
  have h1 := flat_put (f := fun x : Int × Rat => (Fr4.of x.2).tr false) (z := 4) (fun _ => rfl) (us := Z) (k := k) (x := (y, q)) h
  have hl := zfl_len Z
  rw [Nat.zero_add] at h1 ⊢
  unfold putA at h1 ⊢
  have e : k * 4 + (((Fr4.of q).tr false).map AV.t).length = k * 4 + 4 := rfl
  rw [e] at h1 ⊢
  unfold zcl zT
  rw [List.map_append, List.take_append_of_le_length (by rw [List.length_map]; omega), List.drop_append_of_le_length (by rw [List.length_map]; omega), List.map_append, ← h1]
  simp
theorem zcl_le (h : k < Z.length) : 0 + k * 4 + (((Fr4.of q).tr false).map AV.t).length ≤ (zcl Z rest).length := by
  rw [zcl_len]
  show 0 + k * 4 + 4 ≤ _
  omega
theorem zcl_new (h : r4.length = 4) : putA (zcl Z (r4 ++ rest)) (0 + Z.length * 4) ((a.tr false).map AV.t) = zcl Z (a.tr false ++ rest) := by
  have hl := zfl_len Z
  rw [Nat.zero_add]
  unfold putA
  have e : Z.length * 4 + ((a.tr false).map AV.t).length = Z.length * 4 + 4 := rfl
  rw [e]
  unfold zcl zT
  rw [← List.map_take, ← List.map_drop, List.take_left' hl, ← List.append_assoc, List.drop_left' (by rw [List.length_append]; omega)]
  simp
theorem zcl_nle (h : r4.length = 4) : 0 + Z.length * 4 + ((a.tr false).map AV.t).length ≤ (zcl Z (r4 ++ rest)).length := by
  rw [zcl_len, List.length_append]
  show 0 + Z.length * 4 + 4 ≤ _
  omega
theorem zcl_snoc (y : Int) (q : Rat) : zcl Z ((Fr4.of q).tr false ++ rest) = zcl (Z ++ [(y, q)]) rest := by simp [zcl, zT]
theorem zcl_snocA (y : Int) (h : Fr4.of q = a) : zcl Z (a.tr false ++ rest) = zcl (Z ++ [(y, q)]) rest := by subst h; exact zcl_snoc y q
end
/-- amounts are taken, one behind the other, of the first that has something of the year -/
inductive Pts (L : Nat) : List (Int × Rat) → List (Int × Rat) → List (Int × Rat) → Prop
  | nil {Z : List (Int × Rat)} : Pts L Z [] Z
  | cons {Z us Z' : List (Int × Rat)} {u : Int × Rat} {k : Nat} {r : Rat} (hk : Z[k]? = some (u.1, r)) (hr : 0 < r) (hf : ∀ j, j < k → ¬ ((nthV Z j).1 = u.1 ∧ 0 < (nthV Z j).2)) (hu : 0 < u.2) (hle : u.2 ≤ r) (hs : Sz L (r - u.2)) (h : Pts L (Z.set k (u.1, r - u.2)) us Z') : Pts L Z (u :: us) Z'
def Asc (L : List (Int × Rat)) : Prop := (L.map Prod.fst).Pairwise (· < ·)
def posZ (Z : List (Int × Rat)) : List (Int × Rat) := Z.filter fun x => decide (0 < x.2)
/-- us is used of vs; vs' is left -/
inductive UseOf : List (Int × Rat) → List (Int × Rat) → List (Int × Rat) → Prop
  | nil : UseOf [] [] []
  | skip {x : Int × Rat} {vs us vs' : List (Int × Rat)} (h : UseOf vs us vs') : UseOf (x :: vs) us (x :: vs')
  | part {y : Int} {q m : Rat} {vs us vs' : List (Int × Rat)} (h0 : 0 < m) (h1 : m < q) (h : UseOf vs us vs') : UseOf ((y, q) :: vs) ((y, m) :: us) ((y, q - m) :: vs')
  | all {y : Int} {q : Rat} {vs us vs' : List (Int × Rat)} (h0 : 0 < q) (h : UseOf vs us vs') : UseOf ((y, q) :: vs) ((y, q) :: us) vs'
section
variable {Z vs us vs' : List (Int × Rat)} {L : Nat}
theorem UseOf.subU (h : UseOf vs us vs') : (us.map Prod.fst).Sublist (vs.map Prod.fst) := by
  induction h with
  | nil => exact List.Sublist.slnil
  | skip _ ih => exact ih.cons _
  | part _ _ _ ih => exact ih.cons_cons _
  | all _ _ ih => exact ih.cons_cons _
theorem UseOf.subV (h : UseOf vs us vs') : (vs'.map Prod.fst).Sublist (vs.map Prod.fst) := by
  induction h with
  | nil => exact List.Sublist.slnil
  | skip _ ih => exact ih.cons_cons _
  | part _ _ _ ih => exact ih.cons_cons _
  | all _ _ ih => exact ih.cons _
theorem Asc.useU (h : Asc vs) (hu : UseOf vs us vs') : Asc us := List.Pairwise.sublist hu.subU h
theorem Asc.useV (h : Asc vs) (hu : UseOf vs us vs') : Asc vs' := List.Pairwise.sublist hu.subV h
theorem pos_split {y : Int} {q : Rat} (r : Rat) : ∀ {Z A B : List (Int × Rat)}, posZ Z = A ++ (y, q) :: B → ∃ k, Z[k]? = some (y, q) ∧ 0 < q ∧ (∀ j, j < k → 0 < (nthV Z j).2 → nthV Z j ∈ A) ∧ posZ (Z.set k (y, r)) = A ++ ((if 0 < r then [(y, r)] else []) ++ B)
  | [], A, B, h => by simp [posZ] at h
  | z :: Z, A, B, h => by
    by_cases hz : 0 < z.2
    · have e : posZ (z :: Z) = z :: posZ Z := by simp [posZ, hz]
      rw [e] at h
      cases A with
      | nil =>
        rw [List.nil_append, List.cons.injEq] at h
        obtain ⟨rfl, h⟩ := h
        refine ⟨0, rfl, hz, fun j hj => absurd hj (Nat.not_lt_zero j), ?_⟩
        rw [List.set_cons_zero, List.nil_append, ← h]
        by_cases hr : 0 < r <;> simp [posZ, hr]
      | cons a A =>
        rw [List.cons_append, List.cons.injEq] at h
        obtain ⟨rfl, h⟩ := h
        obtain ⟨k, h1, h2, h3, h4⟩ := pos_split r h
        refine ⟨k + 1, h1, h2, fun j hj hp => ?_, ?_⟩
        · cases j with
          | zero => exact List.mem_cons_self
          | succ j => exact List.mem_cons_of_mem _ (h3 j (by omega) hp)
        · rw [List.set_cons_succ]
          have e : posZ (z :: Z.set k (y, r)) = z :: posZ (Z.set k (y, r)) := by simp [posZ, hz]
          rw [e, h4]
          rfl
    · have e : posZ (z :: Z) = posZ Z := by simp [posZ, hz]
      rw [e] at h
      obtain ⟨k, h1, h2, h3, h4⟩ := pos_split r h
      refine ⟨k + 1, h1, h2, fun j hj hp => ?_, ?_⟩
      · cases j with
        | zero => exact absurd hp hz
        | succ j => exact h3 j (by omega) hp
      · rw [List.set_cons_succ]
        have e : posZ (z :: Z.set k (y, r)) = posZ (Z.set k (y, r)) := by simp [posZ, hz]
        rw [e, h4]
theorem fst_set {k : Nat} {y : Int} {q r : Rat} (h : Z[k]? = some (y, q)) : (Z.set k (y, r)).map Prod.fst = Z.map Prod.fst := by
  rw [List.map_set]
  refine List.ext_getElem? fun i => ?_
  rw [List.getElem?_set]
  split
  · rename_i e
    subst e
    have := (List.getElem?_eq_some_iff.1 h).1
    have e2 := (List.getElem?_eq_some_iff.1 h).2
    simp [this, e2]
  · rfl
theorem parts_of (h0 : Sz L 0) (hU : UseOf vs us vs') : ∀ {Z A : List (Int × Rat)}, posZ Z = A ++ vs → Asc (A ++ vs) → (∀ z ∈ Z, 0 ≤ z.2) → (∀ x ∈ vs', Sz L x.2) → ∃ Z', Pts L Z us Z' ∧ posZ Z' = A ++ vs' ∧ Z'.map Prod.fst = Z.map Prod.fst ∧ ∀ z ∈ Z', 0 ≤ z.2 := by
  have before : ∀ {A B : List (Int × Rat)} {x : Int × Rat}, Asc (A ++ x :: B) → ∀ a ∈ A, a.1 < x.1 := by
    intro A B x h a ha
    unfold Asc at h
    rw [List.map_append, List.pairwise_append] at h
    exact h.2.2 a.1 (List.mem_map.2 ⟨a, ha, rfl⟩) x.1 (by simp)
  have stay : ∀ {Z : List (Int × Rat)} {k : Nat} {y : Int} {r : Rat}, (∀ z ∈ Z, 0 ≤ z.2) → 0 ≤ r → ∀ z ∈ Z.set k (y, r), 0 ≤ z.2 := by
    intro Z k y r h hr z hz
    rcases List.mem_or_eq_of_mem_set hz with hz | hz
    · exact h z hz
    · subst hz; exact hr
  induction hU with
  | nil => exact fun {Z A} h _ hp _ => ⟨Z, .nil, h, rfl, hp⟩
  | @skip x vs us vs' _ ih =>
    intro Z A h ha hp hs
    have e : ∀ l : List (Int × Rat), A ++ x :: l = (A ++ [x]) ++ l := fun l => by simp
    obtain ⟨Z', h1, h2, h3, h4⟩ := ih (Z := Z) (A := A ++ [x]) (by rw [h, e]) (by rwa [e] at ha) hp (fun z hz => hs z (List.mem_cons_of_mem _ hz))
    exact ⟨Z', h1, h2.trans (e _).symm, h3, h4⟩
  | @part y q m vs us vs' hm hq _ ih =>
    intro Z A h ha hp hs
    obtain ⟨k, h1, h2, h3, h4⟩ := pos_split (q - m) h
    have hr : 0 < q - m := by grind
    rw [if_pos hr] at h4
    have e : ∀ l : List (Int × Rat), A ++ ([(y, q - m)] ++ l) = (A ++ [(y, q - m)]) ++ l := fun l => by simp
    obtain ⟨Z', g1, g2, g3, g4⟩ := ih (Z := Z.set k (y, q - m)) (A := A ++ [(y, q - m)]) (by rw [h4, e]) (by unfold Asc at ha ⊢; simpa using ha) (stay hp (by grind)) (fun z hz => hs z (List.mem_cons_of_mem _ hz))
    exact ⟨Z', .cons (u := (y, m)) h1 h2 (fun j hj hn => by have := before ha _ (h3 j hj hn.2); rw [hn.1] at this; exact absurd this (Int.lt_irrefl _)) hm (by dsimp only; grind) (hs _ List.mem_cons_self) g1, by rw [g2, ← e]; rfl, by rw [g3, fst_set h1], g4⟩
  | @all y q _ us vs' hq _ ih =>
    intro Z A h ha hp hs
    obtain ⟨k, h1, h2, h3, h4⟩ := pos_split (q - q) h
    have hr : q - q = 0 := by grind
    rw [hr, if_neg (by grind)] at h4
    obtain ⟨Z', g1, g2, g3, g4⟩ := ih (Z := Z.set k (y, 0)) (A := A) (by rw [h4]; rfl) (by
      unfold Asc at ha ⊢
      rw [List.map_append, List.map_cons] at ha
      rw [List.map_append]
      exact List.Pairwise.sublist ((List.Sublist.refl _).append (List.sublist_cons_self _ _)) ha) (stay hp (by grind)) hs
    refine ⟨Z', .cons (u := (y, q)) h1 h2 (fun j hj hn => by have := before ha _ (h3 j hj hn.2); rw [hn.1] at this; exact absurd this (Int.lt_irrefl _)) hq (by dsimp only; grind) (by dsimp only; rw [hr]; exact h0) (by dsimp only; rw [hr]; exact g1), g2, by rw [g3, fst_set h1], g4⟩
theorem useOf_all : ∀ {vs : List (Int × Rat)}, (∀ x ∈ vs, 0 < x.2) → UseOf vs vs []
  | [], _ => .nil
  | x :: vs, h => .all (h x List.mem_cons_self) (useOf_all fun z hz => h z (List.mem_cons_of_mem _ hz))
theorem useOf_filter (p : Int × Rat → Bool) : ∀ {vs : List (Int × Rat)}, (∀ x ∈ vs, 0 < x.2) → UseOf vs (vs.filter fun x => !p x) (vs.filter p)
  | [], _ => .nil
  | x :: vs, h => by
    have ih := useOf_filter p (vs := vs) fun z hz => h z (List.mem_cons_of_mem _ hz)
    cases hx : p x
    · simpa [List.filter_cons, hx] using UseOf.all (y := x.1) (h x List.mem_cons_self) ih
    · simpa [List.filter_cons, hx] using ih.skip (x := x)
end
theorem qsum_cons (a : Rat) (l : List Rat) : qsum (a :: l) = a + qsum l := by
  have key : ∀ (l : List Rat) (a : Rat), l.foldl (· + ·) a = a + l.foldl (· + ·) 0 := by
    intro l
    induction l with
    | nil => intro a; show a = a + 0; grind
    | cons b l ih =>
      intro a
      rw [List.foldl_cons, List.foldl_cons, ih (a + b), ih (0 + b)]
      grind
  unfold qsum
  rw [List.foldl_cons, key]
  grind
section
variable {fr : Int} {vs : List (Int × Rat)} {r : Rat} {x : Int × Rat}
theorem use_shift (fr : Int) : ∀ (vs a b : List (Int × Rat)) (r : Rat), vs.foldl (useS fr) (a, b, r) = (a ++ (useL fr vs r).1, b ++ (useL fr vs r).2.1, (useL fr vs r).2.2)
  | [], a, b, r => by simp [useL]
  | x :: vs, a, b, r => by
    unfold useL
    rw [List.foldl_cons, List.foldl_cons]
    by_cases hc : fr ≤ x.1 ∧ 0 < r.num.sign
    · rw [show useS fr (a, b, r) x = _ from useS_yes (s := (a, b, r)) (y := x.1) (q := x.2) hc.1 hc.2, show useS fr ([], [], r) x = _ from useS_yes (s := ([], [], r)) (y := x.1) (q := x.2) hc.1 hc.2]
      rw [use_shift fr vs _ _ _, use_shift fr vs _ _ _]
      simp
    · rw [useS_no (s := (a, b, r)) hc, useS_no (s := ([], [], r)) hc, use_shift fr vs _ _ _, use_shift fr vs _ _ _]
      simp
theorem useL_yes (h1 : fr ≤ x.1) (h2 : 0 < r) : useL fr (x :: vs) r = ((x.1, x.2 - qmin x.2 [r]) :: (useL fr vs (r - qmin x.2 [r])).1, (x.1, qmin x.2 [r]) :: (useL fr vs (r - qmin x.2 [r])).2.1, (useL fr vs (r - qmin x.2 [r])).2.2) := by
  have : useL fr (x :: vs) r = vs.foldl (useS fr) (useS fr ([], [], r) x) := rfl
  rw [this, show useS fr ([], [], r) x = _ from useS_yes (s := ([], [], r)) (y := x.1) (q := x.2) h1 ((sgn_pos r).2 h2), use_shift]
  rfl
theorem useL_no (h : ¬ (fr ≤ x.1 ∧ 0 < r)) : useL fr (x :: vs) r = (x :: (useL fr vs r).1, (useL fr vs r).2.1, (useL fr vs r).2.2) := by
  have : useL fr (x :: vs) r = vs.foldl (useS fr) (useS fr ([], [], r) x) := rfl
  rw [this, useS_no (s := ([], [], r)) (by rwa [sgn_pos]), use_shift]
  rfl
/-- what a use does -/
structure UseP (fr : Int) (r : Rat) (vs us vs' : List (Int × Rat)) (r' : Rat) : Prop where
  use : UseOf vs us vs'
  yrs : ∀ u ∈ us, fr ≤ u.1
  sum : r = qsum (us.map Prod.snd) + r'
  low : 0 ≤ r → 0 ≤ r'
  non : r ≤ 0 → us = []
  full : ∀ z ∈ vs', fr ≤ z.1 → r' ≤ 0 ∧ ∀ u ∈ us, u.1 ≤ z.1
theorem Asc.cons (h : Asc (x :: vs)) : Asc vs ∧ ∀ y ∈ vs.map Prod.fst, x.1 < y := by
  unfold Asc at h
  rw [List.map_cons, List.pairwise_cons] at h
  exact ⟨h.2, h.1⟩
theorem useP (fr : Int) : ∀ (vs : List (Int × Rat)) (r : Rat), (∀ x ∈ vs, 0 < x.2) → Asc vs → UseP fr r vs (useL fr vs r).2.1 ((useL fr vs r).1.filter fun x => !dl0 x.1 x.2) (useL fr vs r).2.2
  | [], r, _, _ => ⟨.nil, fun _ h => (by cases h), by show r = 0 + r; grind, fun h => h, fun _ => rfl, fun _ h => (by cases h)⟩
  | (y, q) :: vs, r, hp, ha => by
    have hq : 0 < q := hp (y, q) List.mem_cons_self
    have hp' := fun z hz => hp z (List.mem_cons_of_mem _ hz)
    obtain ⟨ha1, ha2⟩ := ha.cons
    by_cases hc : fr ≤ y ∧ 0 < r
    · have ih := useP fr vs (r - qmin q [r]) hp' ha1
      rw [useL_yes (x := (y, q)) hc.1 hc.2]
      generalize useL fr vs (r - qmin q [r]) = o at ih ⊢
      rw [qmin_two] at ih ⊢
      dsimp only at ih ⊢
      have later : ∀ z ∈ (o.1.filter fun x => !dl0 x.1 x.2), y < z.1 := fun z hz => ha2 _ (ih.use.subV.subset (List.mem_map.2 ⟨z, hz, rfl⟩))
      by_cases hm : r < q
      · rw [if_pos hm] at ih ⊢
        have h0 : r - r = 0 := by grind
        rw [h0] at ih
        have hu := ih.non (by grind)
        have hs := ih.sum
        rw [hu] at hs ih ⊢
        have hs0 : o.2.2 = 0 := by
          have : qsum (([] : List (Int × Rat)).map Prod.snd) = 0 := rfl
          grind
        have hk : dl0 y (q - r) = false := decide_eq_false (by rw [sgn_zero]; grind)
        rw [List.filter_cons, if_pos (by simp [hk])]
        refine ⟨.part hc.2 hm ih.use, fun u h => ?_, ?_, fun _ => by grind, fun h => by grind, fun z hz hzf => ⟨by grind, fun u h => ?_⟩⟩
        · rw [List.mem_singleton] at h; subst h; exact hc.1
        · rw [hs0, List.map_cons, qsum_cons]
          show r = r + 0 + 0
          grind
        · rw [List.mem_singleton] at h
          subst h
          rcases List.mem_cons.1 hz with hz | hz
          · subst hz; exact Int.le_refl _
          · exact Int.le_of_lt (later z hz)
      · rw [if_neg hm] at ih ⊢
        have hk : dl0 y (q - q) = true := decide_eq_true (by rw [sgn_zero]; grind)
        rw [List.filter_cons, if_neg (by simp [hk])]
        have hs := ih.sum
        refine ⟨.all hq ih.use, fun u h => ?_, ?_, fun _ => ih.low (by grind), fun h => by grind, fun z hz hzf => ⟨(ih.full z hz hzf).1, fun u h => ?_⟩⟩
        · rcases List.mem_cons.1 h with h | h
          · subst h; exact hc.1
          · exact ih.yrs u h
        · rw [List.map_cons, qsum_cons]
          grind
        · rcases List.mem_cons.1 h with h | h
          · subst h; exact Int.le_of_lt (later z hz)
          · exact (ih.full z hz hzf).2 u h
    · have ih := useP fr vs r hp' ha1
      rw [useL_no (x := (y, q)) hc]
      generalize useL fr vs r = o at ih ⊢
      dsimp only at ih ⊢
      have hk : dl0 y q = false := decide_eq_false (by rw [sgn_zero]; grind)
      rw [List.filter_cons, if_pos (by simp [hk])]
      refine ⟨.skip ih.use, ih.yrs, ih.sum, ih.low, ih.non, fun z hz hzf => ?_⟩
      rcases List.mem_cons.1 hz with hz | hz
      · subst hz
        have hr : r ≤ 0 := by
          by_cases h : 0 < r
          · exact absurd ⟨hzf, h⟩ hc
          · grind
        have hu := ih.non hr
        have hs := ih.sum
        rw [hu] at hs
        have h0 : qsum (([] : List (Int × Rat)).map Prod.snd) = 0 := rfl
        exact ⟨by grind, fun u h => by rw [hu] at h; cases h⟩
      · exact ih.full z hz hzf
/-- never more than the amount -/
theorem UseP.cap {us vs' : List (Int × Rat)} {r' : Rat} (h : UseP fr r vs us vs' r') : qsum (us.map Prod.snd) ≤ qmax0 [r, ((0 : Int) : Rat)] := by
  have e : qmax0 [r, ((0 : Int) : Rat)] = if r < ((0 : Int) : Rat) then ((0 : Int) : Rat) else r := rfl
  rw [e]
  have h1 := h.sum
  have h2 := h.low
  have h3 := h.non
  have h0 : qsum (([] : List (Int × Rat)).map Prod.snd) = 0 := rfl
  have h5 : ((0 : Int) : Rat) = 0 := rfl
  rw [h5]
  split
  · rw [h3 (by grind), h0]
    grind
  · have := h2 (by grind)
    grind
end
section
variable {Z Z' us : List (Int × Rat)} {L k : Nat} {u : Int × Rat}
theorem Pts.inv (h : Pts L Z (u :: us) Z') : ∃ k, k < Z.length ∧ (nthV Z k).1 = u.1 ∧ 0 < (nthV Z k).2 ∧ (∀ j, j < k → ¬ ((nthV Z j).1 = u.1 ∧ 0 < (nthV Z j).2)) ∧ 0 < u.2 ∧ u.2 ≤ (nthV Z k).2 ∧ Sz L ((nthV Z k).2 - u.2) ∧ Pts L (Z.set k (u.1, (nthV Z k).2 - u.2)) us Z' := by
  cases h with
  | @cons _ _ _ _ k r hk hr hf hu hle hs h =>
    have hl := (List.getElem?_eq_some_iff.1 hk).1
    have e : nthV Z k = (u.1, r) := by simp [nthV, hk]
    refine ⟨k, hl, ?_, ?_, hf, hu, ?_, ?_, ?_⟩ <;> rw [e] <;> assumption
theorem Pts.inv0 (h : Pts L Z [] Z') : Z = Z' := by
  cases h
  rfl
theorem nthI_fst (h : k < Z.length) : nthI (Z.map Prod.fst) k = (nthV Z k).1 := by simp [nthI, nthV, h]
theorem asc_nth (h : Asc us) (hk : k + 1 < us.length) : (nthV us k).1 < (nthV us (k + 1)).1 := by
  unfold Asc at h
  rw [List.pairwise_iff_getElem] at h
  have := h k (k + 1) (by simp; omega) (by simpa using hk) (by omega)
  have h1 : k < us.length := by omega
  simpa [nthV, h1, hk] using this
theorem sz_set {q : Rat} (h : ∀ z ∈ Z, Sz L z.2) (hq : Sz L q) (y : Int) : ∀ z ∈ Z.set k (y, q), Sz L z.2 := by
  intro z hz
  rcases List.mem_or_eq_of_mem_set hz with hz | hz
  · exact h z hz
  · subst hz; exact hq
theorem fst_put {y : Int} {q : Rat} (hk : k < Z.length) (h : (nthV Z k).1 = y) : (Z.set k (y, q)).map Prod.fst = Z.map Prod.fst :=
  fst_set (q := (nthV Z k).2) (by rw [List.getElem?_eq_getElem hk]; subst h; simp [nthV, hk])
end
end Go.Proofs.YtogaallfhifngaaGreat

/- Rows of structs that are made; rows of amounts and years, as they are told: plain laws. -/
namespace Go.Proofs.YtogaallfhifngaaGreat
open Go Go.RowKit
section
variable {x : Cx} {g : Nat → FV} {ob ob' : List (Option Ob)} {Q : Post} {ops : Array Oper} {rest : List Oper} {d : Nat} {ty : TypeId} {pos : String} {af : Array Edge} {gd : Option (Nat × Bool)} {T : List (Nat × TI)}
theorem os_mkz {t e by_ k m z : Nat} {zz : Value} {ti : Bool} {ts0 : Nat} {z0 : List Value} {k1 k2 : IntKind} {a b : Operand} (hT : TTok x.P T) (ht : ttGet T t = some ⟨ti, ts0, z0, .sl e z by_ zz⟩) (ha : lk x.n g a = .one (tv (.int k1 (m : Int)))) (hb : lk x.n g b = .one (tv (.int k2 (m : Int)))) (hby : by_ ≤ 1024) (hm : m ≤ 137438953472) (hk : keyOk ob k = true) :
    OS x ⟨some d, .makeSlice t a b, ty, pos, af, gd⟩ g ob [] (fun g' ob2 => g' = upF g d (.one (.sl k 0 m)) ∧ ob2 = ob ++ [some ⟨e, z, (zRow zz.cells.toList m).map tv⟩]) := by
  obtain ⟨_, hel⟩ := (tt_get hT ht).2.2.2
  obtain ⟨hu, i, hi, hz, hsize, hby', hzs, hsz⟩ := hel
  subst hby'
  have hk := Nat.eq_of_beq_eq_true hk
  subst hk
  intro cs ts W hR K Q' kk'
  have e1 := hR.lk a
  rw [ha] at e1
  have e1 := tv_of e1
  have e2 := hR.lk b
  rw [hb] at e2
  have e2 := tv_of e2
  have hmul : i.bytes * m ≤ 1024 * 137438953472 := Nat.mul_le_mul hby hm
  obtain ⟨w', hrun, h1, h2⟩ := run_make_full (P := x.P) W 0 t e i zz z hu hi hz hsize k1 k2 m (by omega) (by unfold maxLen; omega) (Nat.zero_le _)
  have hrun' : (execOp (Act.eval ⟨ts, []⟩) ⟨some d, .makeSlice t a b, ty, pos, af, gd⟩).run x.P W = .ok (.value (.slice (some ⟨W.heap.size, 0, none⟩) m m)) w' := by
    simp [execOp, e1, e2, hrun]
  have hzz : zz.cells.toList.length = z := by rw [Array.length_toList]; exact hzs
  have hz0 : 0 < z := hsz
  have e0 : (madeCells zz.cells (m * z)).toList = zRow zz.cells.toList m := by
    unfold madeCells
    refine List.ext_getElem? fun j => ?_
    by_cases hj : j < m * z
    · rw [Array.toList_map, List.getElem?_map, Array.toList_range, List.getElem?_range hj, zRow_get (by rw [hzz]; exact hj), hzz]
      have hm : j % z < z := Nat.mod_lt _ hz0
      have hsz2 : zz.cells.size = z := by rw [← hzz, Array.length_toList]
      simp only [Option.map_some, hsz2]
      rw [getElem!_pos zz.cells (j % z) (by omega)]
      simp [hsz2, hm]
    · rw [List.getElem?_eq_none (by simp; omega), List.getElem?_eq_none (by rw [zRow_len, hzz]; omega)]
  rw [e0] at h1
  generalize hus : zRow zz.cells.toList m = us at h1 kk'
  have hbl : Below W.heap.size W w' := (Below.refl _ _).grown h2 (Nat.le_refl _) (fun k hk => by cases hk)
  rcases h1.2 with ⟨hh, _⟩ | ⟨g1, cap, cur, hv, _, hg, hnc, hcm, hcs, htake⟩
  · injection hh with h3; cases h3
  · injection hv with q1 q2 q3
    injection q1 with q1
    injection q1 with q1
    subst q1 q3
    have hlt : W.heap.size < w'.heap.size := (Array.getElem?_eq_some_iff.1 hg).1
    have hcur : cur.toList = us := by
      have h9 : cur.toList.length = m * z := by simpa using hcs
      rw [← htake, List.take_of_length_le (by omega)]
    have hS : ∀ b ∈ (resC (some ⟨e, z, us.map tv⟩) ⟨some W.heap.size, m, us.map .w⟩).S, W.heap.size ≤ b ∧ b < w'.heap.size := by
      intro b hb
      simp [resC, fpL_w] at hb
      subst hb
      exact ⟨Nat.le_refl _, hlt⟩
    have hown : ∀ b ∈ ownd (ob ++ [some ⟨e, z, us.map tv⟩]) (cs ++ [⟨some W.heap.size, m, us.map .w⟩]), b ∈ ownd ob cs ∨ W.heap.size ≤ b := by
      intro b hb
      unfold ownd ress at hb
      rw [List.zipWith_append hR.len, List.flatMap_append, List.mem_append] at hb
      rcases hb with hb | hb
      · exact .inl hb
      · exact .inr (hS b (by simpa using hb)).1
    have m1 : RelC x g (ob ++ [some ⟨e, z, us.map tv⟩]) (cs ++ [⟨some W.heap.size, m, us.map .w⟩]) ts w' := by
      refine hR.push hbl _ _ ?_ hS (by simp [resC, fpL_w]) ?_ (fun e => by cases e)
      · have hul : us.length = m * z := by rw [← hus, zRow_len, hzz]
        simp only [resC, val_w]
        refine ⟨⟨[], ?_, by simp [hul]⟩, okL_w _, hcm⟩
        rw [List.append_nil, hg, ← hcur]
      · exact CRL_of (ARL_tv _) (rdL_tv _)
    refine wp_of_run hrun' (kk' _ _ _ _ _ ⟨rfl, rfl⟩ (m1.put d ?_) ((Aft.mk .app (fun k _ hk => co_app hk) hbl.size (fun b hlt _ => hbl.block b hlt) hown (fun _ _ => rfl) : Aft [] (some d) ob cs ts W _ _ ts w').then_put _))
    refine one_of ?_
    simp only [AR]
    rw [hR.len, co_last]
    exact ⟨by simp [hR.len], 0, m, rfl, Nat.le_refl _, hcm, fun _ => rfl, fun _ => rfl⟩
/-! a nil cell of an object, told as a row of one's own -/
theorem mkz {t e by_ m z : Nat} {zz : Value} {ti : Bool} {ts0 : Nat} {z0 : List Value} {k1 k2 : IntKind} {a b : Operand} (key : Nat) (hm : m ≤ 137438953472) {l : List AV} (hl : (zRow zz.cells.toList m).map tv = l) (k : WL x ops rest (upF g d (.one (.sl key 0 m))) (ob ++ [some ⟨e, z, l⟩]) Q) (hT : TTok x.P ttab := by exact ttok) (hw : wantA ops x.n g gd = some true := by rfl)
    (ht : ttGet ttab t = some ⟨ti, ts0, z0, .sl e z by_ zz⟩ := by rfl) (ha : lk x.n g a = .one (tv (.int k1 (m : Int))) := by rfl) (hb : lk x.n g b = .one (tv (.int k2 (m : Int))) := by rfl) (hby : by_ ≤ 1024 := by decide) (hk : keyOk ob key = true := by rfl) : WL x ops (⟨some d, .makeSlice t a b, ty, pos, af, gd⟩ :: rest) g ob Q := by
  subst hl
  exact w_os (os_mkz hT ht ha hb hby hm hk) hw (by rintro _ _ ⟨rfl, rfl⟩; exact k)
/-- a row is only read from here on, with all that is in it -/
theorem key_slR {k t z n : Nat} (t' : Nat) {l l' : List Tr} (ho : obAt ob k = some ⟨t, z, l.map .t⟩) (hz : l.length = n * z) (hl : rdTL l = l') : FzKey x g ob k ⟨t, z, l.map .t⟩ (.sl k 0 n) (.s false t' z n l') := fun cs ts W hR m2 m3 u e2 => by
  have h := key_sl t' ho hz cs ts W hR m2 m3 u e2
  simp only [AR] at h ⊢
  have h9 := FR_rdT _ _ h
  rw [rdT, hl] at h9
  exact h9
theorem fzR {i k t z n : Nat} (t' : Nat) {l l' : List Tr} {fv fv' : FV} (hi : Nat.blt i x.n = true) (hg : g i = fv) (ho : obAt ob k = some ⟨t, z, l.map .t⟩) (hz : l.length = n * z) (hl : rdTL l = l') (hf : FzF (.sl k 0 n) (.s false t' z n l') fv fv') : Sub x g ob (upF g i fv') (ob.set k none) := fz_core hi hg ho hf (key_slR t' ho hz hl)
variable {late : Nat → Bool} {K fr : List Nat} {on : Bool} {fuel : Nat} {listed : Array Bool}
theorem dfzR {i k t z n : Nat} (t' : Nat) {l l' : List Tr} {fv fv' : FV} (hi : Nat.blt i x.n = true) (hg : g i = fv) (ho : obAt ob k = some ⟨t, z, l.map .t⟩) (hz : l.length = n * z) (hl : rdTL l = l') (hf : FzF (.sl k 0 n) (.s false t' z n l') fv fv') (hfr : fr.any (Nat.beq i) = true) (hK : K.contains k = false) (kk : WD x ops Q late K fr on fuel listed (upF g i fv') (ob.set k none)) : WD x ops Q late K fr on fuel listed g ob := dfzK hi hg ho hf (key_slR t' ho hz hl) hfr hK kk
end
/-- cells of fractions that nobody has written -/
def z4 : List Tr := [.v (.bool false), .v (.slice none 0 0), .v (.bool false), .v (.slice none 0 0)]
def zZ : Nat → List Tr
  | 0 => []
  | m + 1 => z4 ++ zZ m
theorem zcl_zero (m : Nat) : (zRow [.bool false, .slice none 0 0, .bool false, .slice none 0 0] m).map tv = zcl [] (zZ m) := by
  show _ = (zZ m).map AV.t
  induction m with
  | zero => rfl
  | succ m ih =>
    show (([.bool false, .slice none 0 0, .bool false, .slice none 0 0] : List Value) ++ zRow _ m).map tv = (z4 ++ zZ m).map AV.t
    rw [List.map_append, ih, List.map_append]
    rfl
/-- what LossWhole keeps: so many calls, what is left of what was put, the ledger -/
structure WhOk (Z vs : List (Int × Rat)) (last : Int) (put : Bool) : Prop where
  pos : posZ Z = vs
  low : ∀ z ∈ Z, 0 ≤ z.2
  ok : StOk vs Z.length (100 * Z.length)
  asc : Asc vs
  yrs : ∀ x ∈ vs, -9223372036854775808 ≤ x.1
  last : ∀ x ∈ vs, put = true ∧ x.1 ≤ last
theorem sz0 {L : Nat} (h : 2 ≤ L) : Sz L (0 : Rat) := (int_sz (z := 0) (by omega) (by omega)).mono h
section
variable {Z vs us vs' : List (Int × Rat)} {last y : Int} {put rt : Bool} {p : Rat}
theorem WhOk.nil : WhOk [] [] 0 false := ⟨rfl, fun _ h => (by cases h), StOk.nil, List.Pairwise.nil, fun _ h => (by cases h), fun _ h => (by cases h)⟩
theorem WhOk.sz (h : WhOk Z vs last put) (hi : Z.length ≤ 1000) : ∀ z ∈ Z, Sz 17179869184 z.2 := by
  intro z hz
  have h0 := h.low z hz
  by_cases hp : 0 < z.2
  · have : z ∈ vs := by rw [← h.pos]; exact List.mem_filter.2 ⟨hz, decide_eq_true hp⟩
    exact h.ok.sz (by omega) z this
  · have e : z.2 = 0 := by grind
    rw [e]
    exact sz0 (by omega)
theorem pos_app (a b : List (Int × Rat)) : posZ (a ++ b) = posZ a ++ posZ b := by simp [posZ]
theorem WhOk.used (h : WhOk Z vs last put) (hU : UseOf vs us vs') (hok : StOk vs' Z.length (100 * Z.length + 100)) (hi : Z.length ≤ 1000) : ∃ Z', Pts 17179869184 Z us Z' ∧ Z'.map Prod.fst = Z.map Prod.fst ∧ Z'.length = Z.length ∧ WhOk (Z' ++ [(0, ((0 : Int) : Rat))]) vs' last put := by
  obtain ⟨Z', h1, h2, h3, h4⟩ := parts_of (L := 17179869184) (Z := Z) (A := []) (sz0 (by omega)) hU h.pos (by simpa using h.asc) h.low (hok.sz (by omega))
  have hl : Z'.length = Z.length := by simpa using congrArg List.length h3
  have sub : ∀ x ∈ vs', x.1 ∈ vs.map Prod.fst := fun x hx => hU.subV.subset (List.mem_map.2 ⟨x, hx, rfl⟩)
  refine ⟨Z', h1, h3, hl, ⟨?_, fun z hz => ?_, ?_, h.asc.useV hU, fun x hx => ?_, fun x hx => ?_⟩⟩
  · rw [pos_app, h2]
    simp [posZ]
  · rcases List.mem_append.1 hz with hz | hz
    · exact h4 z hz
    · rw [List.mem_singleton] at hz
      subst hz
      exact Rat.le_refl
  · rw [List.length_append, hl]
    exact hok.mono (by simp) (by simp; omega)
  · obtain ⟨z, hz, e⟩ := List.mem_map.1 (sub x hx)
    rw [← e]
    exact h.yrs z hz
  · obtain ⟨z, hz, e⟩ := List.mem_map.1 (sub x hx)
    rw [← e]
    exact h.last z hz
theorem WhOk.skip (h : WhOk Z vs last put) : WhOk (Z ++ [(0, ((0 : Int) : Rat))]) vs last put := by
  refine ⟨?_, fun z hz => ?_, ?_, h.asc, h.yrs, h.last⟩
  · rw [pos_app, h.pos]
    simp [posZ]
  · rcases List.mem_append.1 hz with hz | hz
    · exact h.low z hz
    · rw [List.mem_singleton] at hz
      subst hz
      exact Rat.le_refl
  · rw [List.length_append]
    exact h.ok.mono (by simp) (by simp; omega)
theorem putE_ok (h : putE rt p y last put = 0) : rt = true ∧ 0 ≤ p ∧ (put = true → last < y) := by
  unfold putE at h
  cases rt with
  | false => simp at h
  | true =>
    simp only [Bool.not_true, Bool.false_eq_true, if_false] at h
    split at h
    · simp at h
    · rename_i h1
      split at h
      · simp at h
      · rename_i h2
        refine ⟨rfl, ?_, fun e => ?_⟩
        · simp only [decide_eq_true_eq] at h1
          have := lt_sgn p 0
          rw [show p - 0 = p by grind] at this
          exact Rat.not_lt.1 fun h9 => h1 (this.2 h9)
        · subst e
          simp at h2
          omega
theorem WhOk.putOk (h : WhOk Z vs last put) (he : putE rt p y last put = 0) (hw : wt p ≤ 7) (hy : -9223372036854775808 ≤ y) : WhOk (Z ++ [(y, p)]) (putL (putE rt p y last put) p y vs) (putY (putE rt p y last put) y last) (putP (putE rt p y last put) put) := by
  obtain ⟨_, hp, hl⟩ := putE_ok he
  rw [he]
  have e1 : putL 0 p y vs = if decide (0 < p.num.sign) then vs ++ [(y, p)] else vs := rfl
  have e2 : putY 0 y last = y := rfl
  have e3 : putP 0 put = true := rfl
  have hok := h.ok.put 0 y p
  rw [e2, e3]
  have late : ∀ x ∈ vs, x.1 < y := fun x hx => by
    obtain ⟨h1, h2⟩ := h.last x hx
    have := hl h1
    omega
  have hsub : ∀ x ∈ putL 0 p y vs, x ∈ vs ∨ x = (y, p) := by
    intro x hx
    rw [e1] at hx
    split at hx
    · rcases List.mem_append.1 hx with hx | hx
      · exact .inl hx
      · exact .inr (List.mem_singleton.1 hx)
    · exact .inl hx
  refine ⟨?_, fun z hz => ?_, ?_, ?_, fun x hx => ?_, fun x hx => ⟨rfl, ?_⟩⟩
  · rw [pos_app, h.pos, e1]
    by_cases h0 : 0 < p
    · have := (sgn_pos p).2 h0
      simp [posZ, h0, this]
    · have : ¬ 0 < p.num.sign := fun h9 => h0 ((sgn_pos p).1 h9)
      simp [posZ, h0, this]
  · rcases List.mem_append.1 hz with hz | hz
    · exact h.low z hz
    · rw [List.mem_singleton] at hz
      subst hz
      exact hp
  · rw [List.length_append]
    exact hok.mono (by simp) (by simp; omega)
  · rw [e1]
    split
    · unfold Asc
      rw [List.map_append, List.pairwise_append]
      refine ⟨h.asc, by simp, fun a ha b hb => ?_⟩
      obtain ⟨x, hx, rfl⟩ := List.mem_map.1 ha
      simp at hb
      subst hb
      exact late x hx
    · exact h.asc
  · rcases hsub x hx with hx | rfl
    · exact h.yrs x hx
    · exact hy
  · rcases hsub x hx with hx | rfl
    · exact Int.le_of_lt (late x hx)
    · exact Int.le_refl _
theorem putE_no (he : putE rt p y last put ≠ 0) : putL (putE rt p y last put) p y vs = vs ∧ putY (putE rt p y last put) y last = last ∧ putP (putE rt p y last put) put = put := by
  unfold putL putY putP
  rw [if_neg he, if_neg he, if_neg he]
  exact ⟨rfl, rfl, rfl⟩
theorem sgn_le {p q : Rat} (h : p ≤ q) : ¬ 0 < (p - q).num.sign := fun h9 => by
  have := (sgn_pos _).1 h9
  grind
end
theorem act_k {xs : List At} {k : Nat} (h : k < xs.length) : ((xs.flatMap atr).drop (k * 6 + 0)).take [Tr.v (.int .i64 (nthA xs k).1)].length = [Tr.v (.int .i64 (nthA xs k).1)] := flat_sub (f := atr) (o := 0) (m := 1) (fun _ => rfl) (nthA_get h) (by omega)
theorem act_y {xs : List At} {k : Nat} (h : k < xs.length) : ((xs.flatMap atr).drop (k * 6 + 1)).take [Tr.v (.int .i64 (nthA xs k).2.1)].length = [Tr.v (.int .i64 (nthA xs k).2.1)] := flat_sub (f := atr) (o := 1) (m := 1) (fun _ => rfl) (nthA_get h) (by omega)
/-- years behind a call -/
theorem yrs_next {Z Z' : List (Int × Rat)} {m : Nat} {y : Int} {q : Rat} (h : Z'.map Prod.fst = Z.map Prod.fst) : Z.map Prod.fst ++ y :: List.replicate m 0 = (Z' ++ [(y, q)]).map Prod.fst ++ List.replicate m 0 := by simp [h]
theorem qmax_sz0 {p : Rat} (h : Sz 17179869184 p) : Sz 17179869184 (qmax0 [p, ((0 : Int) : Rat)]) := qmax0_sz (by simp) fun q hq => by
  rcases List.mem_cons.1 hq with rfl | hq
  · exact h
  · rw [List.mem_singleton] at hq
    subst hq
    exact sz0 (by omega)
end Go.Proofs.YtogaallfhifngaaGreat

/- The program's fractions: right, Cmp, Same, Min. Printed by a program. -/
namespace Go.Proofs.YtogaallfhifngaaGreat
open Go Go.RowKit
theorem r0F : FV.agg [tv (.bool false), .t (sU false []), tv (.bool (sgz 1)), .t (sU false (dg 4294967296 (1 : Int).natAbs))] = qF (.of 0) := rfl
set_option maxRecDepth 100000 in
theorem p_right {a : Fr4} {p : Rat} (ha : Qn a p) : Spec false Tryz.prog 57 [] [qF a] (Ret (qF (.of p))) := by
  refine fn0 Tryz.func57 rfl Tryz.ntmps57 rfl ttok rfl fun N w c0 h0 => ?_
  refine sq ?_; refine rl ?_; refine bx 0 ?_; refine al 1 ?_; refine nl ?_; refine sq ?_; refine sq ?_; refine rl ?_; refine ld ?_
  refine ca (c_rRight ha.1) ok54 ⟨a1g rfl, rfl⟩ (.one (tv (.bool (rightQ a.s a.x a.t a.y)))) ?_; refine WL.splitb (t := 4) rfl (fun h1 => ?_) (fun h1 => ?_)
  ·
    refine o1 ?_; refine nl ?_; refine cdf rfl ?_; refine sk ?_; refine sq ?_; refine rl ?_; refine ld ?_; refine st ?_; refine nl ?_; refine rt ?_
    exact en (.inl rfl) rfl (pk1 (.agg (.cons (.id rfl) (.cons (.id rfl) (.cons (.id rfl) (.cons (.id rfl) .nil)))))) (by decide) (fun h => by cases h) (by rw [ha.right h1]; rfl)
  ·
    refine o1 ?_; refine nl ?_; refine cdt rfl ?_; refine sq ?_; refine rl ?_; refine o1 ?_; refine ca (p_one) ok69 rfl (kF 1) ?_; refine o1 ?_; refine st ?_; refine nl ?_; refine rt ?_
    have hq9 := ha.wrong h1
    subst hq9; exact en (.inl rfl) rfl (pk1 (.agg (.cons (.id rfl) (.cons .nilf (.cons (.id rfl) (.cons (.id rfl) .nil)))))) (by decide) (fun h => by cases h) r0F
set_option maxRecDepth 100000 in
theorem p_Cmp {a b : Fr4} {p q : Rat} (ha : Qn a p) (hb : Qn b q) : Spec true Tryz.prog 110 [] [qF a, qF b] (Ret (.one (tv (.int .i64 (p - q).num.sign)))) := by
  refine fn0 Tryz.func110 rfl Tryz.ntmps110 rfl ttok rfl fun N w c0 h0 => ?_
  have hs := ha.sz; have hs' := hb.sz
  have hs1 := hs.1; have hs2 := hs.2; have hs3 := hs'.1; have hs4 := hs'.2
  have hs5 : (dg 4294967296 ((p.den : Int)).natAbs).length ≤ 68719476736 := hs2
  have hs6 : (dg 4294967296 ((q.den : Int)).natAbs).length ≤ 68719476736 := hs4
  refine sq ?_; refine rl ?_; refine bx 0 ?_; refine bx 1 ?_; refine o1 ?_; refine nl ?_
  refine md (γ := Unit) (fun _ => frL [(2, .one (.pt 0 0)), (3, .one (.pt 1 0)), (4, .one (tv (.int .i64 ((0 : Nat) : Int))))]) (fun _ => ([⟨36, 0, ((Fr4.of p).tr false).map .t⟩, ⟨36, 0, ((Fr4.of q).tr false).map .t⟩] : List Ob).map some) (fun _ => True) ?_ fun _ _ => ?_
  ·
    refine rd [0, 1] (fun i => [0, 1, 2, 3, 4, 5].contains i) mixed ?_
    refine WO.two (i := 0) (j := 2) (by kernel_rfl) ?_ ?_
    ·
      refine old 0 ?_; refine WO.two (i := 1) (j := 2) (by kernel_rfl) ?_ ?_
      ·
        refine oca 1 rfl (p_right ha) ok57 ⟨a1g rfl, rfl⟩ (qF (.of p)) ?_; refine WO.one (by kernel_rfl) (old 2 ?_)
        refine dca 3 rfl (p_right hb) ok57 ⟨a1g rfl, rfl⟩ (qF (.of q)) ?_; refine dst 4 ?_; refine dst 5 ?_; refine dz0 ?_
        exact ⟨(), trivial, su0 h0 [0, 1] _ _ (by decide) ⟨rfl, rfl, rfl, trivial⟩ ⟨oe rfl rfl, oe rfl rfl, rfl⟩⟩
      ·
        refine old 2 ?_; refine dca 1 rfl (p_right ha) ok57 ⟨a1g rfl, rfl⟩ (qF (.of p)) ?_; refine dca 3 rfl (p_right hb) ok57 ⟨a1g rfl, rfl⟩ (qF (.of q)) ?_; refine dst 4 ?_; refine dst 5 ?_
        refine dz0 ?_; exact ⟨(), trivial, su0 h0 [0, 1] _ _ (by decide) ⟨rfl, rfl, rfl, trivial⟩ ⟨oe rfl rfl, oe rfl rfl, rfl⟩⟩
    ·
      refine old 2 ?_; refine WO.one (by kernel_rfl) (old 0 ?_)
      refine dca 1 rfl (p_right ha) ok57 ⟨a1g rfl, rfl⟩ (qF (.of p)) ?_; refine dca 3 rfl (p_right hb) ok57 ⟨a1g rfl, rfl⟩ (qF (.of q)) ?_; refine dst 4 ?_; refine dst 5 ?_; refine dz0 ?_
      exact ⟨(), trivial, su0 h0 [0, 1] _ _ (by decide) ⟨rfl, rfl, rfl, trivial⟩ ⟨oe rfl rfl, oe rfl rfl, rfl⟩⟩
  refine sq ?_; refine rd [0, 1] (fun i => [11].contains i) mixed ?_
  refine dv 0 ?_; refine dld 1 ?_; refine dv 2 ?_; refine dld 3 ?_; refine dv 5 ?_; refine dld 6 ?_; refine dv 7 ?_; refine dld 8 ?_; have hn1 := mulz_len (p.num) ((q.den : Int))
  refine dca 4 rfl (p_bMul (zn_num hs) (zn_den hs')) ok89 ⟨a1g rfl, a1g rfl, rfl⟩ (kF ((p.num * (q.den : Int)))) ?_; have hn2 := mulz_len (q.num) ((p.den : Int))
  refine dca 9 rfl (p_bMul (zn_num hs') (zn_den hs)) ok89 ⟨a1g rfl, a1g rfl, rfl⟩ (kF ((q.num * (p.den : Int)))) ?_
  refine dca 10 rfl (p_bCmp (Zn.of (k := (p.num * (q.den : Int))) (by omega)) (Zn.of (k := (q.num * (p.den : Int))) (by omega))) ok58 ⟨a1g rfl, a1g rfl, rfl⟩ (.one (tv (.int .i64 ((p.num * (q.den : Int)) - (q.num * (p.den : Int))).sign))) ?_
  refine d_v 11 (by kernel_rfl) rfl rfl ttok rfl (by trivial) ?_ (fun h => by first | rfl | cases h)
  refine dz0 ?_; refine rt ?_; exact en (.inl rfl) rfl (pk1 (pkv _)) (by decide) (fun _ => trivial) (by rw [← cmp_cross]; rfl)
theorem same_yes {p q : Rat} (h : (p.num - q.num).sign = 0) : decide (((p.den : Int) - (q.den : Int)).sign = 0) = decide (p = q) := by
  have h1 := Int.sign_eq_zero_iff_zero.1 h
  rw [decide_eq_decide, Int.sign_eq_zero_iff_zero]
  exact ⟨fun h2 => Rat.ext (by omega) (by omega), fun h2 => by subst h2; omega⟩
theorem same_no {p q : Rat} (h : ¬ (p.num - q.num).sign = 0) : false = decide (p = q) := by
  refine (decide_eq_false fun h2 => h ?_).symm
  subst h2
  rw [Int.sub_self]
  rfl
set_option maxRecDepth 100000 in
theorem p_Same {a b : Fr4} {p q : Rat} (ha : Qn a p) (hb : Qn b q) : Spec true Tryz.prog 30 [] [qF a, qF b] (Ret (.one (tv (.bool (decide (p = q)))))) := by
  refine fn0 Tryz.func30 rfl Tryz.ntmps30 rfl ttok rfl fun N w c0 h0 => ?_
  have hs := ha.sz; have hs' := hb.sz
  refine sq ?_; refine rl ?_; refine bx 0 ?_; refine bx 1 ?_; refine o1 ?_; refine nl ?_
  refine md (γ := Unit) (fun _ => frL [(2, .one (.pt 0 0)), (3, .one (.pt 1 0)), (4, .one (tv (.bool false)))]) (fun _ => ([⟨36, 0, ((Fr4.of p).tr false).map .t⟩, ⟨36, 0, ((Fr4.of q).tr false).map .t⟩] : List Ob).map some) (fun _ => True) ?_ fun _ _ => ?_
  ·
    refine rd [0, 1] (fun i => [0, 1, 2, 3, 4, 5].contains i) mixed ?_
    refine WO.two (i := 0) (j := 2) (by kernel_rfl) ?_ ?_
    ·
      refine old 0 ?_; refine WO.two (i := 1) (j := 2) (by kernel_rfl) ?_ ?_
      ·
        refine oca 1 rfl (p_right ha) ok57 ⟨a1g rfl, rfl⟩ (qF (.of p)) ?_; refine WO.one (by kernel_rfl) (old 2 ?_)
        refine dca 3 rfl (p_right hb) ok57 ⟨a1g rfl, rfl⟩ (qF (.of q)) ?_; refine dst 4 ?_; refine dst 5 ?_; refine dz0 ?_
        exact ⟨(), trivial, su0 h0 [0, 1] _ _ (by decide) ⟨rfl, rfl, rfl, trivial⟩ ⟨oe rfl rfl, oe rfl rfl, rfl⟩⟩
      ·
        refine old 2 ?_; refine dca 1 rfl (p_right ha) ok57 ⟨a1g rfl, rfl⟩ (qF (.of p)) ?_; refine dca 3 rfl (p_right hb) ok57 ⟨a1g rfl, rfl⟩ (qF (.of q)) ?_; refine dst 4 ?_; refine dst 5 ?_
        refine dz0 ?_; exact ⟨(), trivial, su0 h0 [0, 1] _ _ (by decide) ⟨rfl, rfl, rfl, trivial⟩ ⟨oe rfl rfl, oe rfl rfl, rfl⟩⟩
    ·
      refine old 2 ?_; refine WO.one (by kernel_rfl) (old 0 ?_)
      refine dca 1 rfl (p_right ha) ok57 ⟨a1g rfl, rfl⟩ (qF (.of p)) ?_; refine dca 3 rfl (p_right hb) ok57 ⟨a1g rfl, rfl⟩ (qF (.of q)) ?_; refine dst 4 ?_; refine dst 5 ?_; refine dz0 ?_
      exact ⟨(), trivial, su0 h0 [0, 1] _ _ (by decide) ⟨rfl, rfl, rfl, trivial⟩ ⟨oe rfl rfl, oe rfl rfl, rfl⟩⟩
  refine sq ?_; refine rl ?_; refine o1 ?_; refine ld ?_; refine o1 ?_; refine ld ?_
  refine ca (p_bCmp (zn_num hs) (zn_num hs')) ok58 ⟨a1g rfl, a1g rfl, rfl⟩ (.one (tv (.int .i64 (p.num - q.num).sign))) ?_; refine o1 ?_; refine o1 ?_
  refine WL.split (t := 15) rfl (fun h1 => ?_) (fun h1 => ?_)
  ·
    refine o1 ?_; refine ld ?_; refine o1 ?_; refine ld ?_; refine ca (p_bCmp (zn_den hs) (zn_den hs')) ok58 ⟨a1g rfl, a1g rfl, rfl⟩ (.one (tv (.int .i64 ((p.den : Int) - (q.den : Int)).sign))) ?_
    (iterate 3 refine o1 ?_); refine nl ?_; refine rt ?_; exact en (.inl rfl) rfl (pk1 (pkv _)) (by decide) (fun _ => trivial) (congrArg (fun z => FV.one (tv (.bool z))) (same_yes h1))
  ·
    (iterate 6 refine no_ ?_); refine o1 ?_; refine o1 ?_; refine nl ?_; refine rt ?_
    exact en (.inl rfl) rfl (pk1 (pkv _)) (by decide) (fun _ => trivial) (congrArg (fun z => FV.one (tv (.bool z))) (same_no h1))
set_option maxRecDepth 100000 in
theorem p_less {a b : Fr4} {p q : Rat} (ha : Qn a p) (hb : Qn b q) : Spec true Tryz.prog 86 [] [qF a, qF b] (Ret (.one (tv (.bool (decide (q < p)))))) := by
  refine fn0 Tryz.func86 rfl Tryz.ntmps86 rfl ttok rfl fun N w c0 h0 => ?_
  refine sq ?_; refine rl ?_; refine bx 0 ?_; refine bx 1 ?_; refine o1 ?_; refine nl ?_; refine sq ?_; refine rl ?_; refine ld ?_; refine o1 ?_; refine ld ?_
  refine ca (p_Cmp hb ha) ok110 ⟨a1g rfl, a1g rfl, rfl⟩ (.one (tv (.int .i64 (q - p).num.sign))) ?_; refine o1 ?_; refine o1 ?_; refine nl ?_; refine rt ?_
  exact en (.inl rfl) rfl (pk1 (pkv _)) (by decide) (fun _ => trivial) (congrArg (fun z => FV.one (tv (.bool z))) (lt_sign p q))
set_option maxRecDepth 100000 in
theorem p_Min1 {a : Fr4} : Spec false Tryz.prog 85 [] [qF a] (Ret (.one (.t (.f 86 [.a (a.tr false)] [])))) := by
  refine fn0 Tryz.func85 rfl Tryz.ntmps85 rfl ttok rfl fun N w c0 h0 => ?_
  refine sq ?_; refine rl ?_; refine bx 0 ?_; refine o1 ?_; refine nl ?_; refine sq ?_; refine rl ?_; refine ld ?_; refine o1 ?_; refine o1 ?_; refine nl ?_; refine rt ?_
  exact en (.inl rfl) rfl (pk1 (.one (.id rfl))) (by decide) (fun h => by cases h) rfl
set_option maxRecDepth 100000 in
theorem p_best {a : Fr4} {p : Rat} {xs : List Fr4} (ha : Qn a p) (hx : ∀ x ∈ xs, x.ok) (hl : xs.length ≤ 1099511627776) : Spec false Tryz.prog 84 [] [qF a, .one (.t (sQ false xs)), .one (.t (.f 85 [] []))] (Ret (qF (.of (qmin p (xs.map Fr4.q))))) := by
  refine fn0 Tryz.func84 rfl Tryz.ntmps84 rfl ttok rfl fun N w c0 h0 => ?_
  have hz : ∀ x ∈ xs, Sz 68719476736 x.q := fun x h => (show Qn x x.q from ⟨hx x h, rfl⟩).sz
  refine sq ?_; refine rl ?_; refine bx 0 ?_; refine al 1 ?_; refine nl ?_; refine sq ?_; refine rl ?_; refine ld ?_; refine ca (p_right ha) ok57 ⟨a1g rfl, rfl⟩ (qF (.of p)) ?_
  refine ca (c_rWhole (z := 0) (by omega) (by omega)) ok46 ⟨a1 rfl, rfl⟩ (qF (.of ((0 : Int) : Rat))) ?_
  refine ca (p_add0 ha.sz) ok65 ⟨a1g rfl, a1g rfl, rfl⟩ (qF (.of p)) ?_; refine al 2 ?_; refine st ?_; refine nl ?_; refine sq ?_; refine sq ?_; refine rl ?_; (iterate 3 refine o1 ?_); refine nl ?_
  refine bl ?_
  refine lp (γ := Nat) (fun k => frL [(2, .one (.t (.f 85 [] []))), (6, .one (.pt 0 0)), (7, .one (.pt 1 0)), (14, .one (.t (sQ false xs))), (15, .one (tv (.int .i64 ((xs.length : Nat) : Int)))), (16, .one (tv (.int .i64 ((k : Nat) : Int))))]) (fun k => [(⟨36, 0, [tv (.bool false), tv (.slice none 0 0), tv (.bool false), tv (.slice none 0 0)]⟩ : Ob), ⟨36, 0, ((Fr4.of (qmin p ((xs.take k).map Fr4.q))).tr false).map .t⟩].map some) (fun k => k ≤ xs.length ∧ Sz 68719476736 (qmin p ((xs.take k).map Fr4.q))) (fun k => xs.length - k) 0 ⟨Nat.zero_le _, ha.sz⟩ (su0 h0 [1, 2] _ _ (by decide) ⟨rfl, rfl, rfl, rfl, rfl, rfl, trivial⟩ ⟨oe rfl rfl, oet rfl, rfl⟩) fun k hk => ?_
  refine sq ?_; refine rl ?_; refine o1 ?_; refine nl ?_; refine sq ?_; refine cdp rfl (fun h1 => ?_) (fun h1 => ?_)
  ·
    refine sk ?_; refine sq ?_; refine bl ?_; refine sq ?_; refine rl ?_; refine o1 ?_; refine ldf ((nthF xs (k)).tr false) (rat_at xs (k := k) (by omega)) ?_
    refine al 2 ?_; refine st ?_; refine nl ?_; refine sq ?_; refine rd [0, 1, 2] (fun i => [].contains i) mixed ?_
    refine dv 0 ?_; refine dld 1 ?_; refine dv 2 ?_; refine dld 4 ?_
    refine dce 3 3 [.agg [tv (.bool (sgz (qmin p ((xs.take k).map Fr4.q)).num)), .t (sU false (dg 4294967296 (qmin p ((xs.take k).map Fr4.q)).num.natAbs)), tv (.bool false), .t (sU false (dg 4294967296 (qmin p ((xs.take k).map Fr4.q)).den))]] rfl rfl (p_Min1 (a := .of (qmin p ((xs.take k).map Fr4.q)))) ok85 ⟨rfl, rfl⟩ ?_
    refine dce 5 3 [qF (nthF xs (k))] rfl rfl (p_less (a := .of (qmin p ((xs.take k).map Fr4.q))) (b := (nthF xs (k))) (Qn.of (p := (qmin p ((xs.take k).map Fr4.q))) hk.2) ⟨hx _ (nthF_mem (by omega)), rfl⟩) ok86 ⟨rfl, rfl⟩ ?_
    refine dz0 ?_; refine cdp rfl (fun h2 => ?_) (fun h2 => ?_)
    ·
      refine rl ?_; refine ld ?_; refine ca (p_right ⟨hx _ (nthF_mem (by omega)), rfl⟩) ok57 ⟨a1g rfl, rfl⟩ (qF (.of (nthF xs (k)).q)) ?_
      refine ca (c_rWhole (z := 0) (by omega) (by omega)) ok46 ⟨a1 rfl, rfl⟩ (qF (.of ((0 : Int) : Rat))) ?_
      refine ca (p_add0 (hz _ (nthF_mem (by omega)))) ok65 ⟨a1g rfl, a1g rfl, rfl⟩ (qF (.of (nthF xs (k)).q)) ?_
      refine st ?_; refine nl ?_; refine rl ?_; refine o1 ?_; refine WL.cast (t := 30) (u' := .int .i64 ((k + 1 : Nat) : Int)) rfl (cint (by omega)) ?_
      refine o1 ?_; refine nl ?_; have hst : (qmin p ((xs.take (k + 1)).map Fr4.q)) = (nthF xs k).q := by rw [take_q (by omega), qmin_snoc]; exact if_pos h2
      exact ⟨k + 1, by omega, ⟨by omega, by rw [hst]; exact hz _ (nthF_mem (by omega))⟩, su0 h0 [0, 1] _ _ (by decide) ⟨rfl, rfl, rfl, rfl, rfl, rfl, trivial⟩ ⟨oe rfl rfl, oet (congrArg (fun q => some (⟨36, 0, ((Fr4.of q).tr false).map .t⟩ : Ob)) hst.symm), rfl⟩⟩
    ·
      refine sk ?_; refine rl ?_; refine o1 ?_; refine WL.cast (t := 30) (u' := .int .i64 ((k + 1 : Nat) : Int)) rfl (cint (by omega)) ?_
      refine o1 ?_; refine nl ?_; have hst : (qmin p ((xs.take (k + 1)).map Fr4.q)) = (qmin p ((xs.take k).map Fr4.q)) := by rw [take_q (by omega), qmin_snoc]; exact if_neg h2
      exact ⟨k + 1, by omega, ⟨by omega, by rw [hst]; exact hk.2⟩, su0 h0 [0, 1] _ _ (by decide) ⟨rfl, rfl, rfl, rfl, rfl, rfl, trivial⟩ ⟨oe rfl rfl, oet (congrArg (fun q => some (⟨36, 0, ((Fr4.of q).tr false).map .t⟩ : Ob)) hst.symm), rfl⟩⟩
  ·
    refine ex ?_; refine sq ?_; refine rl ?_; refine ld ?_; refine st ?_; refine nl ?_; refine rt ?_
    exact en (.inl rfl) rfl (pk1 (.agg (.cons (.id rfl) (.cons (.id rfl) (.cons (.id rfl) (.cons (.id rfl) .nil)))))) (by decide) (fun h => by cases h) (by rw [List.take_of_length_le (by omega)]; rfl)
set_option maxRecDepth 100000 in
theorem p_Min {a : Fr4} {p : Rat} {xs : List Fr4} (ha : Qn a p) (hx : ∀ x ∈ xs, x.ok) (hl : xs.length ≤ 1099511627776) : Spec false Tryz.prog 64 [] [qF a, .one (.t (sQ false xs))] (Ret (qF (.of (qmin p (xs.map Fr4.q))))) := by
  refine fn0 Tryz.func64 rfl Tryz.ntmps64 rfl ttok rfl fun N w c0 h0 => ?_
  refine sq ?_; refine rl ?_; refine bx 0 ?_; refine al 1 ?_; refine nl ?_; refine sq ?_; refine rl ?_; refine ld ?_; refine o1 ?_
  refine ca (p_best ha hx hl) ok84 ⟨a1g rfl, a1 rfl, a1 rfl, rfl⟩ (qF (.of (qmin p (xs.map Fr4.q)))) ?_; refine st ?_; refine nl ?_; refine rt ?_
  exact en (.inl rfl) rfl (pk1 (.agg (.cons (.id rfl) (.cons (.id rfl) (.cons (.id rfl) (.cons (.id rfl) .nil)))))) (by decide) (fun h => by cases h) (rfl)
end Go.Proofs.YtogaallfhifngaaGreat

