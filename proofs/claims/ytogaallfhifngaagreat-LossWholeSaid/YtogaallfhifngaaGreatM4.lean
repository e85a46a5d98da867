/- Part 4 of a proof: Av18 to Limb6. -/
import Derived.Test.YtogaallfhifngaaGreatM3
import Derived.Test.YtogaallfhifngaaGreatChecked
import Derived.Test.YtogaallfhifngaaGreatProg
import Derived.WalkKit
import Derived.WalkSpells
import Derived.WalkLawsBesides
import Derived.Deep.QuietTactic
import Derived.BigQuiet
import Derived.Test.YtogaallfhifngaaGreatM1
import Derived.Lib.SliceRun
import Derived.KernelRfl
import Derived.Deep.RegionWith
set_option linter.unusedVariables false
set_option linter.unusedSimpArgs false
/- Drawn regions: the other operations. Over any program. -/
namespace Go.Proofs.YtogaallfhifngaaGreat
open Go Go.RowKit

section
variable {x : Cx} {g g' : Nat → FV} {ob ob' : List (Option Ob)} {cs cs' : List Co} {ts ts' : Array Value} {W W' : World} {T : List (Nat × TI)} {Q : Post} {ops : Array Oper} {d : Nat} {op : Op} {ty : TypeId} {pos : String} {af : Array Edge} {gd : Option (Nat × Bool)} {late : Nat → Bool} {K fr : List Nat} {on : Bool} {fuel : Nat} {listed : Array Bool}
theorem upF_ne {v : FV} : ∀ j, some d ≠ some j → upF g d v j = g j := fun j hj => by
  have hb : Nat.beq j d = false := by
    cases hq : Nat.beq j d
    · rfl
    · exact absurd (by rw [Nat.eq_of_beq_eq_true hq]) hj
  simp [upF, hb]
/-- an operation that is left out -/
theorem dn (i : Nat) (hi : ops[i]? = some ⟨some d, op, ty, pos, af, gd⟩) (hst : stat ops late listed i = true) (hw : wantA ops x.n g gd = some false)
    (k : WD x ops Q late K fr true fuel (listed.setIfInBounds i true) (upF g d (.one (tv undef))) ob) : WD x ops Q late K fr true (fuel + 1) listed g ob := by
  intro Kp W1 cs ts W hR hK1 hK2 hon
  have hk := hon rfl
  simp only [stat, Bool.and_eq_true] at hst
  obtain ⟨s1, s2, s3, s4⟩ := hst
  exact wpD_first hi (Region.noSelect_spec s1) (fun c a w h => h) (fun j oj hj hlj => waitFor_spec s4 j oj hj hlj) fuel listed _ W (Region.free_spec hi s2) (by simpa using s3) (.inr ⟨wantA_ok hw hR, rfl⟩) hk.same
    (k Kp W1 cs _ W (hR.put d (v := .one (tv undef)) (one_of (by simp [tv, AR, FR]))) hK1 hK2 fun _ => hk.put hR.1 (v := .one (tv undef)) (one_of (by simp [tv, AR, FR])))
/-- a value that is known by a fact -/
theorem WD.split {t : Nat} {p : Prop} [Decidable p] (h : lk x.n g (.tmp t) = .one (tv (.bool (decide p)))) (ht : g t = .one (tv (.bool (decide p)))) (h1 : p → WD x ops Q late K fr on fuel listed (upF g t (.one (tv (.bool true)))) ob) (h2 : ¬ p → WD x ops Q late K fr on fuel listed (upF g t (.one (tv (.bool false)))) ob) : WD x ops Q late K fr on fuel listed g ob := by
  have key : ∀ b : Bool, decide p = b → upF g t (.one (tv (.bool b))) = g := fun b hb => by
    funext i
    unfold upF
    cases hq : Nat.beq i t
    · rfl
    · rw [Nat.eq_of_beq_eq_true hq, ht, hb]
      rfl
  by_cases hp : p
  · rw [← key true (by simp [hp])]
    exact h1 hp
  · rw [← key false (by simp [hp])]
    exact h2 hp
theorem WL.split {t : Nat} {rest : List Oper} {p : Prop} [Decidable p] (ht : g t = .one (tv (.bool (decide p)))) (h1 : p → WL x ops rest (upF g t (.one (tv (.bool true)))) ob Q) (h2 : ¬ p → WL x ops rest (upF g t (.one (tv (.bool false)))) ob Q) : WL x ops rest g ob Q := by
  have key : ∀ b : Bool, decide p = b → upF g t (.one (tv (.bool b))) = g := fun b hb => by
    funext i
    unfold upF
    cases hq : Nat.beq i t
    · rfl
    · rw [Nat.eq_of_beq_eq_true hq, ht, hb]
      rfl
  by_cases hp : p
  · rw [← key true (by simp [hp])]
    exact h1 hp
  · rw [← key false (by simp [hp])]
    exact h2 hp
def inb (K : List Nat) (ob : List (Option Ob)) : Bool := K.all fun k => Nat.blt k ob.length
theorem inb_get {o : Option Ob} {l : List (Option Ob)} (h : inb K ob = true) (k : Nat) (hk : k ∈ K) : (ob ++ l)[k]? = ob[k]? := by
  have := List.all_eq_true.1 h k hk
  have hlt : k < ob.length := by simpa [Nat.blt, Nat.lt_iff_add_one_le] using this
  exact List.getElem?_append_left hlt
/-- objects K stay -/
def keepL (ob ob' : List (Option Ob)) : List Nat → Prop
  | [] => True
  | k :: K => ob'[k]? = ob[k]? ∧ keepL ob ob' K
theorem keepL_get : ∀ {K : List Nat}, keepL ob ob' K → ∀ k ∈ K, ob'[k]? = ob[k]?
  | [], _, k, hk => by simp at hk
  | k0 :: K, h, k, hk => by
    rcases List.mem_cons.1 hk with rfl | hk
    · exact h.1
    · exact keepL_get h.2 k hk
/-- an operation that comes up alone -/
theorem d_os {o : Oper} {R : (Nat → FV) → List (Option Ob) → Prop} {v : FV} (i : Nat) (hr : Region.ready .any ops listed = [i]) (hi : ops[i]? = some o) (hd : o.dst = some d) (hw : wantA ops x.n g o.guard = some true) (h : OS x o g ob [] R)
    (hg : ∀ g' ob', R g' ob' → g' = upF g d v ∧ ∀ k ∈ K, ob'[k]? = ob[k]?) (k : ∀ g' ob', R g' ob' → WD x ops Q late K (d :: fr) true fuel (listed.setIfInBounds i true) g' ob') : WD x ops Q late K fr true (fuel + 1) listed g ob := by
  refine do_ i hr hi hw h true (fun _ => ⟨rfl, fun _ _ h => by simp at h⟩) (fun _ => rfl) (fun _ g' ob' hR => ?_) fun g' ob' hR => by rw [hd]; exact k g' ob' hR
  obtain ⟨h1, h2⟩ := hg g' ob' hR
  exact ⟨by rw [hd, h1]; exact upF_ne, h2⟩
theorem d_call {fresh : Bool} {f : FuncId} {args : List FV} {r v : FV} {aa : Array Operand} {ats : Array TypeId} (i : Nat) (hr : Region.ready .any ops listed = [i]) (hi : ops[i]? = some ⟨some d, .call ⟨.value (.func f), aa, ats⟩, ty, pos, af, gd⟩) (hw : wantA ops x.n g gd = some true) (hS : Spec fresh x.P f [] args (Ret r)) (hf : CallOk x.P f) (ha : AL fresh x g ob aa.toList args) (hv : frz r = v)
    (k : WD x ops Q late K (d :: fr) true fuel (listed.setIfInBounds i true) (upF g d v) ob) : WD x ops Q late K fr true (fuel + 1) listed g ob :=
  d_os (v := v) i hr hi rfl hw (os_call hS hf ha) (by rintro _ _ ⟨r', rfl, rfl, rfl⟩; exact ⟨by rw [hv], fun _ _ => rfl⟩) (by rintro _ _ ⟨r', rfl, rfl, rfl⟩; rw [hv]; exact k)
theorem d_al {t key : Nat} (i : Nat) (hr : Region.ready .any ops listed = [i]) (hi : ops[i]? = some ⟨some d, .alloc t, ty, pos, af, gd⟩) (hw : wantA ops x.n g gd = some true) (hT : TTok x.P T) (h : evAl T t key ob = some ob') (hke : keepL ob ob' K)
    (k : WD x ops Q late K (d :: fr) true fuel (listed.setIfInBounds i true) (upF g d (.one (.pt key 0))) ob') : WD x ops Q late K fr true (fuel + 1) listed g ob :=
  d_os (v := .one (.pt key 0)) i hr hi rfl hw (os_al hT h) (by rintro _ _ ⟨rfl, rfl⟩; exact ⟨rfl, keepL_get hke⟩) (by rintro _ _ ⟨rfl, rfl⟩; exact k)
theorem o_os {o : Oper} {R : (Nat → FV) → List (Option Ob) → Prop} {v : FV} (i : Nat) (hi : ops[i]? = some o) (hd : o.dst = some d) (hw : wantA ops x.n g o.guard = some true) (h : OS x o g ob [] R)
    (hg : ∀ g' ob', R g' ob' → g' = upF g d v ∧ ∀ k ∈ K, ob'[k]? = ob[k]?) (k : ∀ g' ob', R g' ob' → WD x ops Q late K (d :: fr) true fuel (listed.setIfInBounds i true) g' ob') : WO x ops Q late K fr true fuel listed i g ob := by
  refine wo_ i hi hw h true (fun _ => ⟨rfl, fun _ _ h => by simp at h⟩) (fun _ => rfl) (fun _ g' ob' hR => ?_) fun g' ob' hR => by rw [hd]; exact k g' ob' hR
  obtain ⟨h1, h2⟩ := hg g' ob' hR
  exact ⟨by rw [hd, h1]; exact upF_ne, h2⟩
theorem o_call {fresh : Bool} {f : FuncId} {args : List FV} {r v : FV} {aa : Array Operand} {ats : Array TypeId} (i : Nat) (hi : ops[i]? = some ⟨some d, .call ⟨.value (.func f), aa, ats⟩, ty, pos, af, gd⟩) (hw : wantA ops x.n g gd = some true) (hS : Spec fresh x.P f [] args (Ret r)) (hf : CallOk x.P f) (ha : AL fresh x g ob aa.toList args) (hv : frz r = v)
    (k : WD x ops Q late K (d :: fr) true fuel (listed.setIfInBounds i true) (upF g d v) ob) : WO x ops Q late K fr true fuel listed i g ob :=
  o_os (v := v) i hi rfl hw (os_call hS hf ha) (by rintro _ _ ⟨r', rfl, rfl, rfl⟩; exact ⟨by rw [hv], fun _ _ => rfl⟩) (by rintro _ _ ⟨r', rfl, rfl, rfl⟩; rw [hv]; exact k)
theorem o_al {t key : Nat} (i : Nat) (hi : ops[i]? = some ⟨some d, .alloc t, ty, pos, af, gd⟩) (hw : wantA ops x.n g gd = some true) (hT : TTok x.P T) (h : evAl T t key ob = some ob') (hke : keepL ob ob' K)
    (k : WD x ops Q late K (d :: fr) true fuel (listed.setIfInBounds i true) (upF g d (.one (.pt key 0))) ob') : WO x ops Q late K fr true fuel listed i g ob :=
  o_os (v := .one (.pt key 0)) i hi rfl hw (os_al hT h) (by rintro _ _ ⟨rfl, rfl⟩; exact ⟨rfl, keepL_get hke⟩) (by rintro _ _ ⟨rfl, rfl⟩; exact k)
theorem d_bs {t len key : Nat} {ps : Array (Nat × Operand)} (i : Nat) (hr : Region.ready .any ops listed = [i]) (hi : ops[i]? = some ⟨some d, .buildSlice t len ps, ty, pos, af, gd⟩) (hw : wantA ops x.n g gd = some true) (hT : TTok x.P T) (h : evBs T x.n g t len key ps.toList ob = some ob') (hke : keepL ob ob' K)
    (k : WD x ops Q late K (d :: fr) true fuel (listed.setIfInBounds i true) (upF g d (.one (.sl key 0 len))) ob') : WD x ops Q late K fr true (fuel + 1) listed g ob :=
  d_os (v := .one (.sl key 0 len)) i hr hi rfl hw (os_bs hT h) (by rintro _ _ ⟨rfl, rfl⟩; exact ⟨rfl, keepL_get hke⟩) (by rintro _ _ ⟨rfl, rfl⟩; exact k)
/-- a pure operation that comes up alone -/
theorem d_v {C : Prop} {v : FV} (i : Nat) (hr : Region.ready .any ops listed = [i]) (hi : ops[i]? = some ⟨some d, op, ty, pos, af, gd⟩) (hw : wantA ops x.n g gd = some true) (hT : TTok x.P T) (h : evV T x.n g op = some (C, v)) (hC : C)
    (k : WD x ops Q late K (d :: fr) on fuel (listed.setIfInBounds i true) (upF g d v) ob) (hl : late i = false → on = true) : WD x ops Q late K fr on (fuel + 1) listed g ob := by
  refine do_ i hr hi hw (os_v hT h hC) on (fun h => ⟨h, fun _ _ h => by simp at h⟩) hl (fun _ g' ob' hR => ?_) fun g' ob' hR => ?_
  · obtain ⟨rfl, rfl⟩ := hR
    exact ⟨upF_ne, fun _ _ => rfl⟩
  · obtain ⟨rfl, rfl⟩ := hR
    exact k
/-- a store that comes late -/
theorem d_st {t : Nat} {ti : TI} {a b : Operand} (i : Nat) (hr : Region.ready .any ops listed = [i]) (hi : ops[i]? = some ⟨none, .store t a b, ty, pos, af, gd⟩) (hw : wantA ops x.n g gd = some true) (hT : TTok x.P T) (hti : ttGet T t = some ti) (h : evSt ti ob (lk x.n g b) (lk x.n g a) = some ob') (hl : late i = true)
    (k : WD x ops Q late K fr false fuel (listed.setIfInBounds i true) g ob') : WD x ops Q late K fr on (fuel + 1) listed g ob := by
  obtain ⟨ky, hs, _⟩ := os_st (ty := ty) (pos := pos) (af := af) (gd := gd) hT hti h
  refine do_ i hr hi hw hs false (fun h => by cases h) (fun h => by rw [hl] at h; cases h) (fun h => by cases h) fun g' ob' hR => ?_
  obtain ⟨rfl, rfl⟩ := hR
  exact k
/-- a store into what the drawn region itself has made -/
theorem d_stn {t key o : Nat} {ti : TI} {a b : Operand} (i : Nat) (hr : Region.ready .any ops listed = [i]) (hi : ops[i]? = some ⟨none, .store t a b, ty, pos, af, gd⟩) (hw : wantA ops x.n g gd = some true) (hT : TTok x.P T) (hti : ttGet T t = some ti) (h : evSt ti ob (lk x.n g b) (lk x.n g a) = some ob') (hlk : lk x.n g a = .one (.pt key o)) (hK : K.contains key = false) (hke : keepL ob ob' K)
    (k : WD x ops Q late K fr true fuel (listed.setIfInBounds i true) g ob') : WD x ops Q late K fr true (fuel + 1) listed g ob := by
  obtain ⟨ky, hs, o2, hlk2⟩ := os_st (ty := ty) (pos := pos) (af := af) (gd := gd) hT hti h
  rw [hlk] at hlk2
  injection hlk2 with e
  injection e with e1 e2
  subst e1
  refine do_ i hr hi hw hs true (fun _ => ⟨rfl, fun k hk hm => ?_⟩) (fun _ => rfl) (fun _ g' ob' hR => ?_) fun g' ob' hR => ?_
  · rw [List.mem_singleton] at hm
    subst hm
    have : K.contains k = true := by simpa using hk
    rw [hK] at this
    cases this
  · obtain ⟨rfl, rfl⟩ := hR
    exact ⟨fun _ _ => rfl, keepL_get hke⟩
  · obtain ⟨rfl, rfl⟩ := hR
    exact k
/-- a bool parts the ways -/
theorem WL.splitb {t : Nat} {rest : List Oper} {b : Bool} (ht : g t = .one (tv (.bool b))) (h1 : b = true → WL x ops rest (upF g t (.one (tv (.bool true)))) ob Q) (h2 : b = false → WL x ops rest (upF g t (.one (tv (.bool false)))) ob Q) : WL x ops rest g ob Q := by
  have key : ∀ b' : Bool, b = b' → upF g t (.one (tv (.bool b'))) = g := fun b' hb => by
    funext i
    unfold upF
    cases hq : Nat.beq i t
    · rfl
    · rw [Nat.eq_of_beq_eq_true hq, ht, hb]
      rfl
  cases hb : b
  · rw [← key false hb]
    exact h2 hb
  · rw [← key true hb]
    exact h1 hb
theorem WD.splitb {t : Nat} {b : Bool} (ht : g t = .one (tv (.bool b))) (h1 : b = true → WD x ops Q late K fr on fuel listed (upF g t (.one (tv (.bool true)))) ob) (h2 : b = false → WD x ops Q late K fr on fuel listed (upF g t (.one (tv (.bool false)))) ob) : WD x ops Q late K fr on fuel listed g ob := by
  have key : ∀ b' : Bool, b = b' → upF g t (.one (tv (.bool b'))) = g := fun b' hb => by
    funext i
    unfold upF
    cases hq : Nat.beq i t
    · rfl
    · rw [Nat.eq_of_beq_eq_true hq, ht, hb]
      rfl
  cases hb : b
  · rw [← key false hb]
    exact h2 hb
  · rw [← key true hb]
    exact h1 hb
/-- a number told otherwise -/
theorem WL.cast {t : Nat} {rest : List Oper} {u u' : Value} (ht : g t = .one (tv u)) (e : u = u') (k : WL x ops rest (upF g t (.one (tv u'))) ob Q) : WL x ops rest g ob Q := by
  have : upF g t (.one (tv u')) = g := by
    funext i
    unfold upF
    cases hq : Nat.beq i t
    · rfl
    · rw [Nat.eq_of_beq_eq_true hq, ht, e]
      rfl
  rwa [this] at k
theorem WD.cast {t : Nat} {u u' : Value} (ht : g t = .one (tv u)) (e : u = u') (k : WD x ops Q late K fr on fuel listed (upF g t (.one (tv u'))) ob) : WD x ops Q late K fr on fuel listed g ob := by
  have : upF g t (.one (tv u')) = g := by
    funext i
    unfold upF
    cases hq : Nat.beq i t
    · rfl
    · rw [Nat.eq_of_beq_eq_true hq, ht, e]
      rfl
  rwa [this] at k
theorem cint {k : IntKind} {a b : Int} (h : a = b) : Value.int k a = .int k b := by rw [h]
theorem Sub.trans {g2 : Nat → FV} {ob2 : List (Option Ob)} (h : Sub x g ob g' ob') (h' : Sub x g' ob' g2 ob2) : Sub x g ob g2 ob2 := fun ts W hR => h' ts W (h ts W hR)
theorem Sub.refl : Sub x g ob g ob := fun _ _ h => h
/-- nil as a row of one's own -/
theorem nr {i : Nat} (key e z : Nat) (hz : Nat.beq z 0 = false) (hk : keyOk ob key = true) (hi : Nat.blt i x.n = true) (hg : g i = .one (tv (.slice none 0 0))) : Sub x g ob (upF g i (.one (.sl key 0 0))) (ob ++ [some ⟨e, z, []⟩]) := by
  rintro ts W ⟨cs, hR⟩
  have hk := Nat.eq_of_beq_eq_true hk
  have hi : i < x.n := by simpa [Nat.blt, Nat.lt_iff_add_one_le] using hi
  have hz0 : z ≠ 0 := fun e => by subst e; simp at hz
  have m1 := hR.push (Below.refl _ _) ⟨e, z, []⟩ ⟨none, 0, []⟩ (by simp [resC]) (by simp [resC]) (by simp [resC]) (by simp [CRL]) (fun _ => ⟨rfl, hz0⟩)
  obtain ⟨u, h1, h2⟩ := hR.fv hi
  rw [hg] at h2
  have h2 := tv_of h2
  subst h2
  have m2 := m1.put i (v := .one (.sl key 0 0)) (u := .slice none 0 0) (by
    refine one_of ?_
    simp only [AR]
    rw [← hk, hR.len, co_last]
    exact ⟨by simp, by trivial, by trivial, by trivial⟩)
  have e : ts.setIfInBounds i (.slice none 0 0) = ts := by
    apply Array.ext_getElem?
    intro j
    rw [Array.getElem?_setIfInBounds]
    split
    · rename_i e
      subst e
      split
      · exact h1.symm
      · rename_i h9
        rw [hR.1] at h9
        exact absurd hi h9
    · rfl
  rw [e] at m2
  exact ⟨_, m2⟩
/-- append in a drawn region -/
theorem d_app {t e z by_ n m j : Nat} {zz : Value} {ti : Bool} {ts0 : Nat} {z0 : List Value} {a b : Operand} {av bv : AV} {l news : List AV} (i : Nat) (hi : ops[i]? = some ⟨some d, .call ⟨.builtin .append, #[a, b], #[t, t]⟩, ty, pos, af, gd⟩) (hT : TTok x.P T) (ht : ttGet T t = some ⟨ti, ts0, z0, .sl e z by_ zz⟩) (ha : lk x.n g a = .one av) (hb : lk x.n g b = .one bv)
    (hd : DstA ob e z av n ob' l) (hs : SrcA ob z bv m news) (hrd : rdL news = true) (hlo : loneL news = true) (hbytes : (n + m) * by_ ≤ 140737488355328) (h63 : n + m ≤ 140737488355328) (hK : K = []) (hj : keyOk ob j = true) (hr : Region.ready .any ops listed = [i]) (hw : wantA ops x.n g gd = some true)
    (k : WD x ops Q late K (d :: fr) true fuel (listed.setIfInBounds i true) (upF g d (.one (.sl j 0 (n + m)))) (ob' ++ [some ⟨e, z, l ++ news⟩])) : WD x ops Q late K fr true (fuel + 1) listed g ob := by
  subst hK
  obtain ⟨Wr, h, _⟩ := os_app (d := d) (ty := ty) (pos := pos) (af := af) (gd := gd) hT ht ha hb hd hs hrd hlo hj hbytes h63
  refine do_ i hr hi hw h true (fun _ => ⟨rfl, fun _ h => by simp at h⟩) (fun _ => rfl) (fun _ g' ob' hR => ?_) fun g' ob' hR => ?_
  · obtain ⟨rfl, rfl⟩ := hR
    exact ⟨upF_ne, fun _ h => by simp at h⟩
  · obtain ⟨rfl, rfl⟩ := hR
    exact k
def inK (K : List Nat) : AV → Bool
  | .sl k _ _ => K.contains k
  | _ => false
theorem d_appK {t e z by_ n m j : Nat} {zz : Value} {ti : Bool} {ts0 : Nat} {z0 : List Value} {a b : Operand} {av bv : AV} {l news : List AV} (i : Nat) (hi : ops[i]? = some ⟨some d, .call ⟨.builtin .append, #[a, b], #[t, t]⟩, ty, pos, af, gd⟩) (hT : TTok x.P T) (ht : ttGet T t = some ⟨ti, ts0, z0, .sl e z by_ zz⟩) (ha : lk x.n g a = .one av) (hb : lk x.n g b = .one bv)
    (hd : DstA ob e z av n ob' l) (hs : SrcA ob z bv m news) (hrd : rdL news = true) (hlo : loneL news = true) (hbytes : (n + m) * by_ ≤ 140737488355328) (h63 : n + m ≤ 140737488355328) (hK : inK K av = false) (hke : keepL ob (ob' ++ [some ⟨e, z, l ++ news⟩]) K) (hj : keyOk ob j = true) (hr : Region.ready .any ops listed = [i]) (hw : wantA ops x.n g gd = some true)
    (k : WD x ops Q late K (d :: fr) true fuel (listed.setIfInBounds i true) (upF g d (.one (.sl j 0 (n + m)))) (ob' ++ [some ⟨e, z, l ++ news⟩])) : WD x ops Q late K fr true (fuel + 1) listed g ob := by
  obtain ⟨Wr, h, h9⟩ := os_app (d := d) (ty := ty) (pos := pos) (af := af) (gd := gd) hT ht ha hb hd hs hrd hlo hj hbytes h63
  refine do_ i hr hi hw h true (fun _ => ⟨rfl, fun k hk hm => ?_⟩) (fun _ => rfl) (fun _ g' ob' hR => ?_) fun g' ob' hR => ?_
  · have h8 := h9 k hm
    subst h8
    have : K.contains k = true := by simpa using hk
    simp [inK, hk] at hK
  · obtain ⟨rfl, rfl⟩ := hR
    exact ⟨upF_ne, keepL_get hke⟩
  · obtain ⟨rfl, rfl⟩ := hR
    exact k
end
end Go.Proofs.YtogaallfhifngaaGreat

/- Calls whose answers become objects of one's own. Over any program. -/
namespace Go.Proofs.YtogaallfhifngaaGreat
open Go Go.RowKit

/-- owned parts of an answer become objects, from key k on -/
def bndA (k : Nat) : AV → Option (AV × List Ob)
  | .t (.s true t z n l) => match Nat.beq z 0 with
    | false => some (.sl k 0 n, [⟨t, z, l.map .t⟩])
    | true => none
  | .t (.p true t l) => some (.pt k 0, [⟨t, 0, l.map .t⟩])
  | .t (.s false t z n l) => some (.t (.s false t z n l), [])
  | .t (.p false t l) => some (.t (.p false t l), [])
  | .t (.v v) => some (.t (.v v), [])
  | .t (.f g l0 l) => some (.t (.f g l0 l), [])
  | _ => none
def bndL (k : Nat) : List AV → Option (List AV × List Ob)
  | [] => some ([], [])
  | a :: l => match bndA k a with
    | some (a', []) => match bndL k l with
      | some (l', os) => some (a' :: l', os)
      | none => none
    | some (a', o :: _) => match bndL (k + 1) l with
      | some (l', os) => some (a' :: l', o :: os)
      | none => none
    | none => none
def coOf : VT → Co
  | .w _ => ⟨none, 0, []⟩
  | .s b c _ _ _ l => ⟨some b, c, l⟩
  | .p b _ l => ⟨some b, 0, l⟩
section
variable {W : World} {N : Nat → Prop}
/-- what becomes of one cell -/
theorem bndA_ok {k : Nat} {a a' : AV} {os : List Ob} {y : VT} (hc : CR W N [] a y) (hok : y.ok W) (h : bndA k a = some (a', os)) :
    (os = [] ∧ y.fp = [] ∧ ∀ (N' : Nat → Prop) (cs : List Co), (∀ b, N b → N' b) → AR W N' cs a' y.val) ∨
    (∃ o, os = [o] ∧ (resC (some o) (coOf y)).S = y.fp ∧ (resC (some o) (coOf y)).φ W ∧ (∀ (N' : Nat → Prop) (cs : List Co), (∀ b, N b → N' b) → k < cs.length → co cs k = coOf y → AR W N' cs a' y.val ∧ CRL W N' cs o.l (coOf y).l) ∧ ((coOf y).b = none → o.l = [] ∧ o.z ≠ 0)) := by
  unfold bndA at h
  split at h
  · rename_i t z n l
    split at h
    · rename_i hz
      injection h with h
      injection h with h1 h2
      subst h1 h2
      refine .inr ⟨_, rfl, ?_⟩
      have hz0 : z ≠ 0 := fun e => by subst e; simp at hz
      simp only [CR] at hc
      cases y with
      | w u =>
        simp only [OR] at hc
        rcases hc with ⟨_, rfl, rfl, rfl⟩ | ⟨hc, _⟩
        · refine ⟨rfl, by simp [resC, coOf], fun N' cs hN hk hco => ⟨?_, by simp [CRL, coOf]⟩, fun _ => ⟨rfl, hz0⟩⟩
          simp only [AR, hco, coOf, VT.val]
          exact ⟨hk, by trivial, by trivial, by trivial⟩
        · cases hc
      | s b c t' z' n' l' =>
        simp only [OR] at hc
        obtain ⟨_, rfl, rfl, rfl, hl⟩ := hc
        simp only [VT.ok] at hok
        obtain ⟨k1, k2, k3, k4, k5⟩ := hok
        refine ⟨rfl, ?_, fun N' cs hN hk hco => ⟨?_, ORL_CRL (ORL_keep (fun _ _ => rfl) hN _ _ hl)⟩, fun h => by cases h⟩
        · simp only [resC, coOf]
          rw [hz, cond_false]
          exact ⟨k1, k5, k3⟩
        · simp only [AR, hco, coOf, VT.val]
          exact ⟨hk, 0, c, rfl, k2, by unfold maxLen at k3; omega, fun _ => rfl, fun _ => rfl⟩
      | p b t' l' => simp only [OR] at hc
    · cases h
  · rename_i t l
    injection h with h
    injection h with h1 h2
    subst h1 h2
    refine .inr ⟨_, rfl, ?_⟩
    simp only [CR] at hc
    cases y with
    | w u =>
      simp only [OR] at hc
      cases hc.1
    | s b c t' z' n' l' => simp only [OR] at hc
    | p b t' l' =>
      simp only [OR] at hc
      obtain ⟨_, rfl, hl⟩ := hc
      simp only [VT.ok] at hok
      refine ⟨rfl, ?_, fun N' cs hN hk hco => ⟨?_, ORL_CRL (ORL_keep (fun _ _ => rfl) hN _ _ hl)⟩, fun h => by cases h⟩
      · simp only [resC, coOf]
        exact ⟨hok.1, hok.2, Nat.zero_le _⟩
      · simp only [AR, hco, coOf, VT.val]
        exact ⟨b, rfl, rfl⟩
  · injection h with h
    injection h with h1 h2
    subst h1 h2
    have hr := CR_rd hc rfl
    refine .inl ⟨rfl, ?_, fun N' cs hN => AR_keep (fun _ _ => rfl) hN ⟨Nat.zero_le _, fun k hk => by simp at hk⟩ _ _ hr⟩
    simp only [CR] at hc
    cases y with
    | w u => rfl
    | s => simp only [OR] at hc; cases hc.1
    | p => simp only [OR] at hc
  · injection h with h
    injection h with h1 h2
    subst h1 h2
    have hr := CR_rd hc rfl
    refine .inl ⟨rfl, ?_, fun N' cs hN => AR_keep (fun _ _ => rfl) hN ⟨Nat.zero_le _, fun k hk => by simp at hk⟩ _ _ hr⟩
    simp only [CR] at hc
    cases y with
    | w u => rfl
    | s => simp only [OR] at hc
    | p => simp only [OR] at hc; cases hc.1
  · injection h with h
    injection h with h1 h2
    subst h1 h2
    have hr := CR_rd hc rfl
    refine .inl ⟨rfl, ?_, fun N' cs hN => AR_keep (fun _ _ => rfl) hN ⟨Nat.zero_le _, fun k hk => by simp at hk⟩ _ _ hr⟩
    simp only [CR, OR] at hc
    subst hc
    rfl
  · injection h with h
    injection h with h1 h2
    subst h1 h2
    have hr := CR_rd hc rfl
    refine .inl ⟨rfl, ?_, fun N' cs hN => AR_keep (fun _ _ => rfl) hN ⟨Nat.zero_le _, fun k hk => by simp at hk⟩ _ _ hr⟩
    simp only [CR] at hc
    cases y with
    | w u => rfl
    | s => simp only [OR] at hc
    | p => simp only [OR] at hc
  · cases h
theorem bndL_ok : ∀ {l l' : List AV} {k : Nat} {os : List Ob} {ys : List VT}, CRL W N [] l ys → VT.okL W ys → bndL k l = some (l', os) → ∃ cs2 : List Co, cs2.length = os.length ∧ (ress (os.map some) cs2).flatMap Res.S = VT.fpL ys ∧ (∀ r ∈ ress (os.map some) cs2, r.φ W) ∧
    ∀ (N' : Nat → Prop) (cs : List Co), (∀ b, N b → N' b) → k + os.length ≤ cs.length → (∀ i, i < os.length → co cs (k + i) = co cs2 i) → ARL W N' cs l' (ys.map VT.val) ∧ ∀ (i : Nat) (o : Ob), os[i]? = some o → CRL W N' cs o.l (co cs2 i).l ∧ ((co cs2 i).b = none → o.l = [] ∧ o.z ≠ 0)
  | [], l', k, os, ys, hc, hok, h => by
    simp only [CRL] at hc
    subst hc
    simp [bndL] at h
    obtain ⟨rfl, rfl⟩ := h
    exact ⟨[], rfl, rfl, by simp [ress], fun N' cs hN hk hco => ⟨by simp [ARL], fun i o ho => by simp at ho⟩⟩
  | a :: l, l', k, os, [], hc, hok, h => by simp only [CRL] at hc
  | a :: l, l', k, os, y :: ys, hc, hok, h => by
    simp only [CRL] at hc
    simp only [VT.okL] at hok
    unfold bndL at h
    split at h
    · rename_i a' ha
      split at h
      · rename_i l2 os2 hl
        injection h with h
        injection h with h1 h2
        subst h1 h2
        obtain ⟨cs2, e1, e2, e3, e4⟩ := bndL_ok hc.2 hok.2 hl
        rcases bndA_ok hc.1 hok.1 ha with ⟨_, f1, f2⟩ | ⟨o, f1, _⟩
        · refine ⟨cs2, e1, by rw [e2]; simp [VT.fpL, f1], e3, fun N' cs hN hk hco => ?_⟩
          obtain ⟨g1, g2⟩ := e4 N' cs hN hk hco
          simp only [List.map_cons, ARL]
          exact ⟨⟨f2 N' cs hN, g1⟩, g2⟩
        · cases f1
      · cases h
    · rename_i a' o os0 ha
      split at h
      · rename_i l2 os2 hl
        injection h with h
        injection h with h1 h2
        subst h1 h2
        obtain ⟨cs2, e1, e2, e3, e4⟩ := bndL_ok hc.2 hok.2 hl
        rcases bndA_ok hc.1 hok.1 ha with ⟨f1, _⟩ | ⟨o', f1, f2, f3, f4, f5⟩
        · cases f1
        · injection f1 with f1 _
          subst f1
          refine ⟨coOf y :: cs2, by simp [e1], ?_, ?_, fun N' cs hN hk hco => ?_⟩
          · unfold ress at e2 ⊢
            simp only [List.map_cons, List.zipWith_cons_cons, List.flatMap_cons, VT.fpL, f2, e2]
          · unfold ress at e3 ⊢
            simp only [List.map_cons, List.zipWith_cons_cons]
            intro r hr
            rcases List.mem_cons.1 hr with rfl | hr
            · exact f3
            · exact e3 r hr
          · simp only [List.length_cons] at hk hco
            have h0 := hco 0 (by omega)
            obtain ⟨g1, g2⟩ := f4 N' cs hN (by omega) h0
            obtain ⟨g3, g4⟩ := e4 N' cs hN (by omega) (fun i hi => by
              have := hco (i + 1) (by omega)
              rw [show k + (i + 1) = k + 1 + i by omega] at this
              rw [this]
              simp [co])
            simp only [List.map_cons, ARL]
            refine ⟨⟨g1, g3⟩, fun i o ho => ?_⟩
            cases i with
            | zero =>
              simp at ho
              subst ho
              exact ⟨g2, f5⟩
            | succ i =>
              have := g4 i o (by simpa using ho)
              simpa [co] using this
      · cases h
    · cases h
end
def bnd1 (k : Nat) : FV → Option (FV × List Ob)
  | .one a => match bndA k a with
    | some (a', os) => some (.one a', os)
    | none => none
  | .agg l => match bndL k l with
    | some (l', os) => some (.agg l', os)
    | none => none
  | _ => none
def bndT (k : Nat) : List FV → Option (List FV × List Ob)
  | [] => some ([], [])
  | a :: l => match bnd1 k a with
    | some (a', os) => match bndT (k + os.length) l with
      | some (l', os') => some (a' :: l', os ++ os')
      | none => none
    | none => none
def bnd (k : Nat) : FV → Option (FV × List Ob)
  | .tup l => match bndT k l with
    | some (l', os) => some (.tup l', os)
    | none => none
  | v => bnd1 k v
section
variable {W : World} {N : Nat → Prop}
/-- objects os, as they lie behind an answer's parts -/
def Bnd (W : World) (N : Nat → Prop) (k : Nat) (os : List Ob) (ys : List VT) (A : (Nat → Prop) → List Co → Prop) : Prop := ∃ cs2 : List Co, cs2.length = os.length ∧ (ress (os.map some) cs2).flatMap Res.S = VT.fpL ys ∧ (∀ r ∈ ress (os.map some) cs2, r.φ W) ∧
    ∀ (N' : Nat → Prop) (cs : List Co), (∀ b, N b → N' b) → k + os.length ≤ cs.length → (∀ i, i < os.length → co cs (k + i) = co cs2 i) → A N' cs ∧ ∀ (i : Nat) (o : Ob), os[i]? = some o → CRL W N' cs o.l (co cs2 i).l ∧ ((co cs2 i).b = none → o.l = [] ∧ o.z ≠ 0)
theorem bnd1_ok {k : Nat} {r v : FV} {os : List Ob} {u : Value} {ys : List VT} (hr : RO1 W N [] r u ys) (hok : VT.okL W ys) (h : bnd1 k r = some (v, os)) : Bnd W N k os ys (fun N' cs => FVR1 W N' cs v u) := by
  cases r with
  | any => exact hr.elim
  | tup l => exact hr.elim
  | one a =>
    obtain ⟨z, rfl, rfl, hc⟩ := hr
    unfold bnd1 at h
    dsimp only at h
    split at h
    · rename_i a' os' ha
      injection h with h
      injection h with h1 h2
      subst h1 h2
      have hl : bndL k [a] = some ([a'], os') ∨ ∃ o r, os' = o :: r := by
        cases os' with
        | nil => left; simp [bndL, ha]
        | cons o r => exact .inr ⟨o, r, rfl⟩
      have hl2 : bndL k [a] = some ([a'], os') := by
        rcases hl with hl | ⟨o, r, rfl⟩
        · exact hl
        · have hr' : r = [] := by
            rcases bndA_ok hc (by simpa [VT.okL] using hok) ha with ⟨f1, _⟩ | ⟨o', f1, _⟩
            · cases f1
            · injection f1
          subst hr'
          simp [bndL, ha]
      obtain ⟨cs2, e1, e2, e3, e4⟩ := bndL_ok (l := [a]) (ys := [z]) (by simp only [CRL]; exact ⟨hc, trivial⟩) hok hl2
      refine ⟨cs2, e1, e2, e3, fun N' cs hN hk hco => ?_⟩
      obtain ⟨g1, g2⟩ := e4 N' cs hN hk hco
      simp only [List.map_cons, ARL] at g1
      exact ⟨g1.1, g2⟩
    · cases h
  | agg l =>
    obtain ⟨rfl, hc⟩ := hr
    unfold bnd1 at h
    dsimp only at h
    split at h
    · rename_i l' os' hl
      injection h with h
      injection h with h1 h2
      subst h1 h2
      obtain ⟨cs2, e1, e2, e3, e4⟩ := bndL_ok hc hok hl
      refine ⟨cs2, e1, e2, e3, fun N' cs hN hk hco => ?_⟩
      obtain ⟨g1, g2⟩ := e4 N' cs hN hk hco
      exact ⟨⟨_, rfl, g1⟩, g2⟩
    · cases h
theorem Bnd.app {k : Nat} {os os' : List Ob} {ys ys' : List VT} {A B : (Nat → Prop) → List Co → Prop} (h : Bnd W N k os ys A) (h' : Bnd W N (k + os.length) os' ys' B) : Bnd W N k (os ++ os') (ys ++ ys') (fun N cs => A N cs ∧ B N cs) := by
  obtain ⟨c1, a1, a2, a3, a4⟩ := h
  obtain ⟨c2, b1, b2, b3, b4⟩ := h'
  have hr : ress ((os ++ os').map some) (c1 ++ c2) = ress (os.map some) c1 ++ ress (os'.map some) c2 := by
    unfold ress
    rw [List.map_append, List.zipWith_append (by simp [a1])]
  have hc1 : ∀ i, i < os.length → co (c1 ++ c2) i = co c1 i := fun i hi => by simp [co, List.getElem?_append_left (show i < c1.length by omega)]
  have hc2 : ∀ i, co (c1 ++ c2) (os.length + i) = co c2 i := fun i => by
    unfold co
    rw [List.getElem?_append_right (by omega), show os.length + i - c1.length = i by omega]
  refine ⟨c1 ++ c2, by simp [a1, b1], by rw [hr, List.flatMap_append, a2, b2, fpL_app], fun r hm => ?_, fun N' cs hN hk hco => ?_⟩
  · rw [hr] at hm
    rcases List.mem_append.1 hm with hm | hm
    · exact a3 r hm
    · exact b3 r hm
  · simp only [List.length_append] at hk hco
    obtain ⟨g1, g2⟩ := a4 N' cs hN (by omega) (fun i hi => by rw [hco i (by omega), hc1 i hi])
    obtain ⟨g3, g4⟩ := b4 N' cs hN (by omega) (fun i hi => by
      have := hco (os.length + i) (by omega)
      rw [hc2, show k + (os.length + i) = k + os.length + i by omega] at this
      exact this)
    refine ⟨⟨g1, g3⟩, fun i o ho => ?_⟩
    rcases Nat.lt_or_ge i os.length with hi | hi
    · rw [List.getElem?_append_left hi] at ho
      rw [hc1 i hi]
      exact g2 i o ho
    · rw [List.getElem?_append_right hi] at ho
      have := g4 (i - os.length) o ho
      rw [← hc2, show os.length + (i - os.length) = i by omega] at this
      exact this
theorem bndT_ok : ∀ {l l' : List FV} {k : Nat} {os : List Ob} {us : List Value} {ys : List VT}, ROL W N [] l us ys → VT.okL W ys → bndT k l = some (l', os) → Bnd W N k os ys (fun N' cs => FVL W N' cs l' us)
  | [], l', k, os, us, ys, hr, hok, h => by
    simp [bndT] at h
    obtain ⟨rfl, rfl⟩ := h
    obtain ⟨rfl, rfl⟩ := hr
    exact ⟨[], rfl, rfl, by simp [ress], fun N' cs hN hk hco => ⟨by simp [FVL], fun i o ho => by simp at ho⟩⟩
  | a :: l, l', k, os, us, ys, ⟨v, vs, y1, y2, h1, h2, h3, h4⟩, hok, h => by
    subst h1 h2
    rw [okL_app] at hok
    unfold bndT at h
    split at h
    · rename_i a' os1 ha
      split at h
      · rename_i l2 os2 hl
        injection h with h
        injection h with e1 e2
        subst e1 e2
        have q1 := bnd1_ok h3 hok.1 ha
        have q2 := bndT_ok h4 hok.2 hl
        obtain ⟨cs2, e1, e2, e3, e4⟩ := q1.app q2
        exact ⟨cs2, e1, e2, e3, fun N' cs hN hk hco => by
          obtain ⟨g1, g2⟩ := e4 N' cs hN hk hco
          exact ⟨by simp only [FVL]; exact g1, g2⟩⟩
      · cases h
    · cases h
theorem bnd_ok {k : Nat} {r v : FV} {os : List Ob} {u : Value} {ys : List VT} (hr : RO W N [] r u ys) (hok : VT.okL W ys) (h : bnd k r = some (v, os)) : Bnd W N k os ys (fun N' cs => FVR W N' cs v u) := by
  cases r with
  | tup l =>
    obtain ⟨us, rfl, h2⟩ := hr
    unfold bnd at h
    dsimp only at h
    split at h
    · rename_i l' os' hl
      injection h with h
      injection h with h1 h2
      subst h1 h2
      obtain ⟨cs2, e1, e2, e3, e4⟩ := bndT_ok h2 hok hl
      exact ⟨cs2, e1, e2, e3, fun N' cs hN hk hco => ⟨⟨us, rfl, (e4 N' cs hN hk hco).1⟩, (e4 N' cs hN hk hco).2⟩⟩
    · cases h
  | any => exact hr.elim
  | one a =>
    obtain ⟨cs2, e1, e2, e3, e4⟩ := bnd1_ok (r := .one a) hr hok h
    exact ⟨cs2, e1, e2, e3, fun N' cs hN hk hco => ⟨FVR1_of (e4 N' cs hN hk hco).1, (e4 N' cs hN hk hco).2⟩⟩
  | agg l =>
    obtain ⟨cs2, e1, e2, e3, e4⟩ := bnd1_ok (r := .agg l) hr hok h
    exact ⟨cs2, e1, e2, e3, fun N' cs hN hk hco => ⟨FVR1_of (e4 N' cs hN hk hco).1, (e4 N' cs hN hk hco).2⟩⟩
end
section
variable {x : Cx} {g g' : Nat → FV} {ob ob' : List (Option Ob)} {cs cs' : List Co} {ts ts' : Array Value} {W W' : World} {T : List (Nat × TI)} {Q : Post} {ops : Array Oper} {rest : List Oper} {d : Nat} {ty : TypeId} {pos : String} {af : Array Edge} {gd : Option (Nat × Bool)}
/-- a call; its answer's owned parts become objects -/
theorem os_callk {fresh : Bool} {f : FuncId} {args : List FV} {R : List Lt → FV → Prop} {aa : Array Operand} {ats : Array TypeId} {key : Nat} (hS : Spec fresh x.P f [] args R) (hf : CallOk x.P f) (ha : AL fresh x g ob aa.toList args) (hk : keyOk ob key = true) (hb : ∀ r, R [] r → (bnd key r).isSome = true) :
    OS x ⟨some d, .call ⟨.value (.func f), aa, ats⟩, ty, pos, af, gd⟩ g ob [] (fun g' ob' => ∃ r v os, R [] r ∧ bnd key r = some (v, os) ∧ g' = upF g d v ∧ ob' = ob ++ os.map some) := by
  intro cs ts W hR K Q kk
  have hC := call_core hS ha hR
  obtain ⟨fn, c, h1, h2, h3⟩ := hf
  have hrun : (execOp (Act.eval ⟨ts, []⟩) ⟨some d, .call ⟨.value (.func f), aa, ats⟩, ty, pos, af, gd⟩).run x.P W = .ok (.enter f (aa.toList.map (Act.eval ⟨ts, []⟩)).toArray) W := by
    have e0 : Act.eval ⟨ts, []⟩ (.func f) = .func (.func f) #[] #[] := rfl
    have e1 : aa.map (Act.eval ⟨ts, []⟩) = (aa.toList.map (Act.eval ⟨ts, []⟩)).toArray := by apply Array.ext'; simp only [Array.toList_map]
    simp [execOp, resolve, e0, Deferred.ofValue, invoke, e1, callFunc, h1, h3]
    intro hn
    rw [hn] at h2
    simp at h2
  unfold Oper.wp
  rw [hrun]
  refine hC.mono fun e W' hE => ?_
  obtain ⟨u, r, ys, rfl, hr, hbel, hok, hnd, hfp, hro⟩ := hE
  obtain ⟨⟨v, os⟩, hbn⟩ := Option.isSome_iff_exists.1 (hb r hr)
  obtain ⟨cs2, e1, e2, e3, e4⟩ := bnd_ok hro hok hbn
  have hk := Nat.eq_of_beq_eq_true hk
  have hlen := hR.len
  have hrs : ress (ob ++ os.map some) (cs ++ cs2) = ress ob cs ++ ress (os.map some) cs2 := by
    unfold ress
    rw [List.zipWith_append hlen]
  have hext := hR.2.ext hbel
  have hnew : ∀ b ∈ (ress (os.map some) cs2).flatMap Res.S, W.heap.size ≤ b ∧ b < W'.heap.size := fun b hb => hfp b (by rw [← e2]; exact hb)
  have hL : Loc x.M x.w W' (ress (ob ++ os.map some) (cs ++ cs2)) [] := by
    rw [hrs]
    refine ⟨hext.chg, fun q hq => ?_, fun b hb => ?_, ?_, fun _ h => by cases h⟩
    · rcases List.mem_append.1 hq with hq | hq
      · exact hext.res q hq
      · exact e3 q hq
    · rw [List.flatMap_append, List.mem_append] at hb
      rcases hb with hb | hb
      · exact hext.blk b hb
      · exact ⟨.inr (Nat.le_trans hR.2.chg.size (hnew b hb).1), (hnew b hb).2⟩
    · rw [List.flatMap_append, List.nodup_append]
      refine ⟨hext.nd, by rw [e2]; exact hnd, fun a ha b hb e => ?_⟩
      subst e
      have := (hR.2.blk a ha).2
      have := (hnew a hb).1
      omega
  have hown : ∀ b ∈ ownd (ob ++ os.map some) (cs ++ cs2), b ∈ ownd ob cs ∨ W.heap.size ≤ b := fun b hb => by
    unfold ownd at hb
    rw [hrs, List.flatMap_append, List.mem_append] at hb
    rcases hb with hb | hb
    · exact .inl hb
    · exact .inr (hnew b hb).1
  have hsame : Same cs (cs ++ cs2) := ⟨by simp, fun k hk => by simp [co, List.getElem?_append_left hk]⟩
  have hcoA : ∀ k, k < cs.length → co (cs ++ cs2) k = co cs k := fun k hk => by simp [co, List.getElem?_append_left hk]
  have hcoB : ∀ i, co (cs ++ cs2) (key + i) = co cs2 i := fun i => by
    unfold co
    rw [List.getElem?_append_right (by omega), show key + i - cs.length = i by omega]
  have hN : ∀ b, x.fr W ob cs b → x.fr W' (ob ++ os.map some) (cs ++ cs2) b := fun b h => fr_to h hbel.size hown
  have hkeep : ∀ b, x.fr W ob cs b → W'.heap[b]? = W.heap[b]? := fun b h => hbel.block b h.1.1
  have hN2 : ∀ b, (fresh = false ∧ b ∉ VT.fpL ys ∧ b < W'.heap.size ∧ (x.fr W ob cs b ∨ W.heap.size ≤ b)) → x.fr W' (ob ++ os.map some) (cs ++ cs2) b := fun b hb => by
    obtain ⟨_, h5, h6, h7⟩ := hb
    rcases h7 with h7 | h7
    · exact hN b h7
    · refine ⟨⟨h6, fun hm => ?_⟩, .inr (.inr (Nat.le_trans hR.2.chg.size h7))⟩
      rw [hrs, List.flatMap_append, List.mem_append] at hm
      rcases hm with hm | hm
      · have := (hR.2.blk b hm).2
        omega
      · exact h5 (by rw [← e2]; exact hm)
  obtain ⟨g1, g2⟩ := e4 _ (cs ++ cs2) hN2 (by simp [e1]; omega) (fun i _ => hcoB i)
  have hR' : RelC x g (ob ++ os.map some) (cs ++ cs2) ts W' := by
    refine .of hR.1 hL ⟨by simp [hlen, e1], fun k o hk' => ?_⟩ (fun i hi => ?_) (hR.3.trans hsame)
    · rcases Nat.lt_or_ge k ob.length with hlt | hge
      · rw [List.getElem?_append_left hlt] at hk'
        have h5 := hR.obs.2 k o hk'
        rw [hcoA k (by omega)]
        exact ⟨CRL_keep hkeep hN hsame _ _ h5.1, h5.2⟩
      · rw [List.getElem?_append_right hge] at hk'
        have ho : os[k - ob.length]? = some o := by
          rw [List.getElem?_map] at hk'
          cases hq : os[k - ob.length]? with
          | none => rw [hq] at hk'; cases hk'
          | some o' =>
            rw [hq] at hk'
            simp at hk'
            rw [hk']
        have h5 := g2 _ o ho
        have e9 := hcoB (k - ob.length)
        rw [show key + (k - ob.length) = k by omega] at e9
        rw [e9]
        exact h5
    · obtain ⟨u, h5, h6⟩ := hR.fv hi
      exact ⟨u, h5, FVR_keep hkeep hN hsame _ _ h6⟩
  exact kk _ _ _ _ _ ⟨r, v, os, hr, hbn, rfl, rfl⟩ (hR'.put d g1) ⟨hsame, fun k _ hk => hcoA k hk, hbel.size, fun b hlt _ => hbel.block b hlt, hown, fun i hi => Array.getElem?_setIfInBounds_ne (fun e => hi (by rw [e]))⟩
theorem w_callk {fresh : Bool} {f : FuncId} {args : List FV} {r v : FV} {os : List Ob} {aa : Array Operand} {ats : Array TypeId} {key : Nat} (hw : wantA ops x.n g gd = some true) (hS : Spec fresh x.P f [] args (Ret r)) (hf : CallOk x.P f) (ha : AL fresh x g ob aa.toList args) (hk : keyOk ob key = true) (hb : bnd key r = some (v, os)) (k : WL x ops rest (upF g d v) (ob ++ os.map some) Q) :
    WL x ops (⟨some d, .call ⟨.value (.func f), aa, ats⟩, ty, pos, af, gd⟩ :: rest) g ob Q :=
  w_os (os_callk hS hf ha hk (by rintro _ rfl; rw [hb]; rfl)) hw (by
    rintro _ _ ⟨r', v', os', rfl, h, rfl, rfl⟩
    rw [hb] at h
    injection h with h
    injection h with h1 h2
    subst h1 h2
    exact k)
theorem d_callk {late : Nat → Bool} {K fr : List Nat} {fuel : Nat} {listed : Array Bool} {fresh : Bool} {f : FuncId} {args : List FV} {r v : FV} {os : List Ob} {aa : Array Operand} {ats : Array TypeId} {key : Nat} (i : Nat) (hr : Region.ready .any ops listed = [i]) (hi : ops[i]? = some ⟨some d, .call ⟨.value (.func f), aa, ats⟩, ty, pos, af, gd⟩) (hw : wantA ops x.n g gd = some true) (hS : Spec fresh x.P f [] args (Ret r)) (hf : CallOk x.P f) (ha : AL fresh x g ob aa.toList args) (hk : keyOk ob key = true) (hb : bnd key r = some (v, os)) (hK : inb K ob = true)
    (k : WD x ops Q late K (d :: fr) true fuel (listed.setIfInBounds i true) (upF g d v) (ob ++ os.map some)) : WD x ops Q late K fr true (fuel + 1) listed g ob :=
  d_os (v := v) i hr hi rfl hw (os_callk hS hf ha hk (by rintro _ rfl; rw [hb]; rfl)) (by
    rintro _ _ ⟨r', v', os', rfl, h, rfl, rfl⟩
    rw [hb] at h
    injection h with h
    injection h with h1 h2
    subst h1 h2
    exact ⟨rfl, fun k hk' => inb_get (o := none) hK k hk'⟩) (by
    rintro _ _ ⟨r', v', os', rfl, h, rfl, rfl⟩
    rw [hb] at h
    injection h with h
    injection h with h1 h2
    subst h1 h2
    exact k)
end
end Go.Proofs.YtogaallfhifngaaGreat

/- The types that occur. Printed by a program. -/
namespace Go.Proofs.YtogaallfhifngaaGreat
open Go Go.RowKit
set_option maxRecDepth 100000
theorem tt2 : TIok Tryz.prog 2 ⟨false, 1, [.int .i64 0], .it .i64⟩ := ⟨⟨.mk (by kernel_rfl) (by kernel_rfl), rfl⟩, .mk (by kernel_rfl), .mk (by kernel_rfl), .mk (by kernel_rfl)⟩
theorem tt3 : TIok Tryz.prog 3 ⟨false, 1, [.int .i64 0], .it .i64⟩ := ⟨⟨.mk (by kernel_rfl) (by kernel_rfl), rfl⟩, .mk (by kernel_rfl), .mk (by kernel_rfl), .mk (by kernel_rfl)⟩
theorem tt4 : TIok Tryz.prog 4 ⟨false, 1, [.bool false], .bl⟩ := ⟨⟨.mk (by kernel_rfl) (by kernel_rfl), rfl⟩, .mk (by kernel_rfl), .mk (by kernel_rfl), .mk (by kernel_rfl)⟩
theorem tt5 : TIok Tryz.prog 5 ⟨false, 1, [.int .u8 0], .it .u8⟩ := ⟨⟨.mk (by kernel_rfl) (by kernel_rfl), rfl⟩, .mk (by kernel_rfl), .mk (by kernel_rfl), .mk (by kernel_rfl)⟩
theorem tt9 : TIok Tryz.prog 9 ⟨false, 1, [.string ⟨#[]⟩], .ot⟩ := ⟨⟨.mk (by kernel_rfl) (by kernel_rfl), rfl⟩, .mk (by kernel_rfl), .mk (by kernel_rfl), trivial⟩
theorem tt22 : TIok Tryz.prog 22 ⟨false, 1, [.slice none 0 0], .sl 38 6 80 (.agg #[.int .i64 0, .int .i64 0, .bool false, .slice none 0 0, .bool false, .slice none 0 0])⟩ := ⟨⟨.mk (by kernel_rfl) (by kernel_rfl), rfl⟩, .mk (by kernel_rfl), .mk (by kernel_rfl), ⟨.mk (by kernel_rfl) (by kernel_rfl), .mk (by kernel_rfl) (by kernel_rfl) rfl (by decide)⟩⟩
theorem tt25 : TIok Tryz.prog 25 ⟨false, 1, [.pointer none], .pt⟩ := ⟨⟨.mk (by kernel_rfl) (by kernel_rfl), rfl⟩, .mk (by kernel_rfl), .mk (by kernel_rfl), .mk (by kernel_rfl)⟩
theorem tt27 : TIok Tryz.prog 27 ⟨false, 1, [.slice none 0 0], .sl 63 5 72 (.agg #[.int .i64 0, .bool false, .slice none 0 0, .bool false, .slice none 0 0])⟩ := ⟨⟨.mk (by kernel_rfl) (by kernel_rfl), rfl⟩, .mk (by kernel_rfl), .mk (by kernel_rfl), ⟨.mk (by kernel_rfl) (by kernel_rfl), .mk (by kernel_rfl) (by kernel_rfl) rfl (by decide)⟩⟩
theorem tt29 : TIok Tryz.prog 29 ⟨true, 3, [.slice none 0 0, .int .i64 0, .bool false], .st [(0, 27, 1), (1, 3, 1), (2, 4, 1)]⟩ := ⟨.mk (by kernel_rfl) (by kernel_rfl), .mk (by kernel_rfl), .mk (by kernel_rfl), ⟨⟨.mk (by kernel_rfl), .mk (by kernel_rfl), ⟨.mk (by kernel_rfl), .mk (by kernel_rfl), ⟨.mk (by kernel_rfl), .mk (by kernel_rfl), trivial⟩⟩⟩, .mk (by kernel_rfl)⟩⟩
theorem tt32 : TIok Tryz.prog 32 ⟨false, 1, [.slice none 0 0], .sl 104 1 4 (.int .u32 0)⟩ := ⟨⟨.mk (by kernel_rfl) (by kernel_rfl), rfl⟩, .mk (by kernel_rfl), .mk (by kernel_rfl), ⟨.mk (by kernel_rfl) (by kernel_rfl), .mk (by kernel_rfl) (by kernel_rfl) rfl (by decide)⟩⟩
theorem tt34 : TIok Tryz.prog 34 ⟨true, 2, [.bool false, .slice none 0 0], .st [(0, 4, 1), (1, 32, 1)]⟩ := ⟨.mk (by kernel_rfl) (by kernel_rfl), .mk (by kernel_rfl), .mk (by kernel_rfl), ⟨⟨.mk (by kernel_rfl), .mk (by kernel_rfl), ⟨.mk (by kernel_rfl), .mk (by kernel_rfl), trivial⟩⟩, .mk (by kernel_rfl)⟩⟩
theorem tt36 : TIok Tryz.prog 36 ⟨true, 4, [.bool false, .slice none 0 0, .bool false, .slice none 0 0], .st [(0, 34, 2), (2, 34, 2)]⟩ := ⟨.mk (by kernel_rfl) (by kernel_rfl), .mk (by kernel_rfl), .mk (by kernel_rfl), ⟨⟨.mk (by kernel_rfl), .mk (by kernel_rfl), ⟨.mk (by kernel_rfl), .mk (by kernel_rfl), trivial⟩⟩, .mk (by kernel_rfl)⟩⟩
theorem tt38 : TIok Tryz.prog 38 ⟨true, 6, [.int .i64 0, .int .i64 0, .bool false, .slice none 0 0, .bool false, .slice none 0 0], .st [(0, 3, 1), (1, 3, 1), (2, 36, 4)]⟩ := ⟨.mk (by kernel_rfl) (by kernel_rfl), .mk (by kernel_rfl), .mk (by kernel_rfl), ⟨⟨.mk (by kernel_rfl), .mk (by kernel_rfl), ⟨.mk (by kernel_rfl), .mk (by kernel_rfl), ⟨.mk (by kernel_rfl), .mk (by kernel_rfl), trivial⟩⟩⟩, .mk (by kernel_rfl)⟩⟩
theorem tt41 : TIok Tryz.prog 41 ⟨false, 1, [.slice none 0 0], .sl 3 1 8 (.int .i64 0)⟩ := ⟨⟨.mk (by kernel_rfl) (by kernel_rfl), rfl⟩, .mk (by kernel_rfl), .mk (by kernel_rfl), ⟨.mk (by kernel_rfl) (by kernel_rfl), .mk (by kernel_rfl) (by kernel_rfl) rfl (by decide)⟩⟩
theorem tt42 : TIok Tryz.prog 42 ⟨false, 1, [.slice none 0 0], .sl 45 4 64 (.agg #[.bool false, .slice none 0 0, .bool false, .slice none 0 0])⟩ := ⟨⟨.mk (by kernel_rfl) (by kernel_rfl), rfl⟩, .mk (by kernel_rfl), .mk (by kernel_rfl), ⟨.mk (by kernel_rfl) (by kernel_rfl), .mk (by kernel_rfl) (by kernel_rfl) rfl (by decide)⟩⟩
theorem tt43 : TIok Tryz.prog 43 ⟨true, 2, [.bool false, .slice none 0 0], .st [(0, 4, 1), (1, 32, 1)]⟩ := ⟨.mk (by kernel_rfl) (by kernel_rfl), .mk (by kernel_rfl), .mk (by kernel_rfl), ⟨⟨.mk (by kernel_rfl), .mk (by kernel_rfl), ⟨.mk (by kernel_rfl), .mk (by kernel_rfl), trivial⟩⟩, .mk (by kernel_rfl)⟩⟩
theorem tt45 : TIok Tryz.prog 45 ⟨true, 4, [.bool false, .slice none 0 0, .bool false, .slice none 0 0], .st [(0, 43, 2), (2, 43, 2)]⟩ := ⟨.mk (by kernel_rfl) (by kernel_rfl), .mk (by kernel_rfl), .mk (by kernel_rfl), ⟨⟨.mk (by kernel_rfl), .mk (by kernel_rfl), ⟨.mk (by kernel_rfl), .mk (by kernel_rfl), trivial⟩⟩, .mk (by kernel_rfl)⟩⟩
theorem tt49 : TIok Tryz.prog 49 ⟨false, 1, [.slice none 0 0], .sl 57 5 72 (.agg #[.int .i64 0, .bool false, .slice none 0 0, .bool false, .slice none 0 0])⟩ := ⟨⟨.mk (by kernel_rfl) (by kernel_rfl), rfl⟩, .mk (by kernel_rfl), .mk (by kernel_rfl), ⟨.mk (by kernel_rfl) (by kernel_rfl), .mk (by kernel_rfl) (by kernel_rfl) rfl (by decide)⟩⟩
theorem tt57 : TIok Tryz.prog 57 ⟨true, 5, [.int .i64 0, .bool false, .slice none 0 0, .bool false, .slice none 0 0], .st [(0, 3, 1), (1, 36, 4)]⟩ := ⟨.mk (by kernel_rfl) (by kernel_rfl), .mk (by kernel_rfl), .mk (by kernel_rfl), ⟨⟨.mk (by kernel_rfl), .mk (by kernel_rfl), ⟨.mk (by kernel_rfl), .mk (by kernel_rfl), trivial⟩⟩, .mk (by kernel_rfl)⟩⟩
theorem tt59 : TIok Tryz.prog 59 ⟨false, 1, [.int .i64 0], .it .i64⟩ := ⟨⟨.mk (by kernel_rfl) (by kernel_rfl), rfl⟩, .mk (by kernel_rfl), .mk (by kernel_rfl), .mk (by kernel_rfl)⟩
theorem tt63 : TIok Tryz.prog 63 ⟨true, 5, [.int .i64 0, .bool false, .slice none 0 0, .bool false, .slice none 0 0], .st [(0, 3, 1), (1, 45, 4)]⟩ := ⟨.mk (by kernel_rfl) (by kernel_rfl), .mk (by kernel_rfl), .mk (by kernel_rfl), ⟨⟨.mk (by kernel_rfl), .mk (by kernel_rfl), ⟨.mk (by kernel_rfl), .mk (by kernel_rfl), trivial⟩⟩, .mk (by kernel_rfl)⟩⟩
theorem tt74 : TIok Tryz.prog 74 ⟨true, 1, [.slice none 0 0], .st [(0, 49, 1)]⟩ := ⟨.mk (by kernel_rfl) (by kernel_rfl), .mk (by kernel_rfl), .mk (by kernel_rfl), ⟨⟨.mk (by kernel_rfl), .mk (by kernel_rfl), trivial⟩, .mk (by kernel_rfl)⟩⟩
theorem tt76 : TIok Tryz.prog 76 ⟨true, 3, [.slice none 0 0, .int .i64 0, .bool false], .st [(0, 74, 1), (1, 3, 1), (2, 4, 1)]⟩ := ⟨.mk (by kernel_rfl) (by kernel_rfl), .mk (by kernel_rfl), .mk (by kernel_rfl), ⟨⟨.mk (by kernel_rfl), .mk (by kernel_rfl), ⟨.mk (by kernel_rfl), .mk (by kernel_rfl), ⟨.mk (by kernel_rfl), .mk (by kernel_rfl), trivial⟩⟩⟩, .mk (by kernel_rfl)⟩⟩
theorem tt92 : TIok Tryz.prog 92 ⟨false, 1, [.nilFunc], .ot⟩ := ⟨⟨.mk (by kernel_rfl) (by kernel_rfl), rfl⟩, .mk (by kernel_rfl), .mk (by kernel_rfl), trivial⟩
theorem tt104 : TIok Tryz.prog 104 ⟨false, 1, [.int .u32 0], .it .u32⟩ := ⟨⟨.mk (by kernel_rfl) (by kernel_rfl), rfl⟩, .mk (by kernel_rfl), .mk (by kernel_rfl), .mk (by kernel_rfl)⟩
theorem tt119 : TIok Tryz.prog 119 ⟨true, 2, [.bool false, .slice none 0 0], .st [(0, 34, 2)]⟩ := ⟨.mk (by kernel_rfl) (by kernel_rfl), .mk (by kernel_rfl), .mk (by kernel_rfl), ⟨⟨.mk (by kernel_rfl), .mk (by kernel_rfl), trivial⟩, .mk (by kernel_rfl)⟩⟩
theorem tt124 : TIok Tryz.prog 124 ⟨false, 1, [.slice none 0 0], .sl 36 4 64 (.agg #[.bool false, .slice none 0 0, .bool false, .slice none 0 0])⟩ := ⟨⟨.mk (by kernel_rfl) (by kernel_rfl), rfl⟩, .mk (by kernel_rfl), .mk (by kernel_rfl), ⟨.mk (by kernel_rfl) (by kernel_rfl), .mk (by kernel_rfl) (by kernel_rfl) rfl (by decide)⟩⟩
theorem tt127 : TIok Tryz.prog 127 ⟨true, 4, [.bool false, .slice none 0 0, .bool false, .slice none 0 0], .st [(0, 36, 4)]⟩ := ⟨.mk (by kernel_rfl) (by kernel_rfl), .mk (by kernel_rfl), .mk (by kernel_rfl), ⟨⟨.mk (by kernel_rfl), .mk (by kernel_rfl), trivial⟩, .mk (by kernel_rfl)⟩⟩
theorem tt132 : TIok Tryz.prog 132 ⟨false, 1, [.int .u64 0], .it .u64⟩ := ⟨⟨.mk (by kernel_rfl) (by kernel_rfl), rfl⟩, .mk (by kernel_rfl), .mk (by kernel_rfl), .mk (by kernel_rfl)⟩
theorem tt154 : TIok Tryz.prog 154 ⟨false, 1, [.slice none 0 0], .sl 32 1 24 (.slice none 0 0)⟩ := ⟨⟨.mk (by kernel_rfl) (by kernel_rfl), rfl⟩, .mk (by kernel_rfl), .mk (by kernel_rfl), ⟨.mk (by kernel_rfl) (by kernel_rfl), .mk (by kernel_rfl) (by kernel_rfl) rfl (by decide)⟩⟩
theorem tt175 : TIok Tryz.prog 175 ⟨false, 1, [.nilIface], .ot⟩ := ⟨⟨.mk (by kernel_rfl) (by kernel_rfl), rfl⟩, .mk (by kernel_rfl), .mk (by kernel_rfl), trivial⟩
def ttab : List (Nat × TI) := [(2, ⟨false, 1, [.int .i64 0], .it .i64⟩),
  (3, ⟨false, 1, [.int .i64 0], .it .i64⟩),
  (4, ⟨false, 1, [.bool false], .bl⟩),
  (5, ⟨false, 1, [.int .u8 0], .it .u8⟩),
  (9, ⟨false, 1, [.string ⟨#[]⟩], .ot⟩),
  (22, ⟨false, 1, [.slice none 0 0], .sl 38 6 80 (.agg #[.int .i64 0, .int .i64 0, .bool false, .slice none 0 0, .bool false, .slice none 0 0])⟩),
  (25, ⟨false, 1, [.pointer none], .pt⟩),
  (27, ⟨false, 1, [.slice none 0 0], .sl 63 5 72 (.agg #[.int .i64 0, .bool false, .slice none 0 0, .bool false, .slice none 0 0])⟩),
  (29, ⟨true, 3, [.slice none 0 0, .int .i64 0, .bool false], .st [(0, 27, 1), (1, 3, 1), (2, 4, 1)]⟩),
  (32, ⟨false, 1, [.slice none 0 0], .sl 104 1 4 (.int .u32 0)⟩),
  (34, ⟨true, 2, [.bool false, .slice none 0 0], .st [(0, 4, 1), (1, 32, 1)]⟩),
  (36, ⟨true, 4, [.bool false, .slice none 0 0, .bool false, .slice none 0 0], .st [(0, 34, 2), (2, 34, 2)]⟩),
  (38, ⟨true, 6, [.int .i64 0, .int .i64 0, .bool false, .slice none 0 0, .bool false, .slice none 0 0], .st [(0, 3, 1), (1, 3, 1), (2, 36, 4)]⟩),
  (41, ⟨false, 1, [.slice none 0 0], .sl 3 1 8 (.int .i64 0)⟩),
  (42, ⟨false, 1, [.slice none 0 0], .sl 45 4 64 (.agg #[.bool false, .slice none 0 0, .bool false, .slice none 0 0])⟩),
  (43, ⟨true, 2, [.bool false, .slice none 0 0], .st [(0, 4, 1), (1, 32, 1)]⟩),
  (45, ⟨true, 4, [.bool false, .slice none 0 0, .bool false, .slice none 0 0], .st [(0, 43, 2), (2, 43, 2)]⟩),
  (49, ⟨false, 1, [.slice none 0 0], .sl 57 5 72 (.agg #[.int .i64 0, .bool false, .slice none 0 0, .bool false, .slice none 0 0])⟩),
  (57, ⟨true, 5, [.int .i64 0, .bool false, .slice none 0 0, .bool false, .slice none 0 0], .st [(0, 3, 1), (1, 36, 4)]⟩),
  (59, ⟨false, 1, [.int .i64 0], .it .i64⟩),
  (63, ⟨true, 5, [.int .i64 0, .bool false, .slice none 0 0, .bool false, .slice none 0 0], .st [(0, 3, 1), (1, 45, 4)]⟩),
  (74, ⟨true, 1, [.slice none 0 0], .st [(0, 49, 1)]⟩),
  (76, ⟨true, 3, [.slice none 0 0, .int .i64 0, .bool false], .st [(0, 74, 1), (1, 3, 1), (2, 4, 1)]⟩),
  (92, ⟨false, 1, [.nilFunc], .ot⟩),
  (104, ⟨false, 1, [.int .u32 0], .it .u32⟩),
  (119, ⟨true, 2, [.bool false, .slice none 0 0], .st [(0, 34, 2)]⟩),
  (124, ⟨false, 1, [.slice none 0 0], .sl 36 4 64 (.agg #[.bool false, .slice none 0 0, .bool false, .slice none 0 0])⟩),
  (127, ⟨true, 4, [.bool false, .slice none 0 0, .bool false, .slice none 0 0], .st [(0, 36, 4)]⟩),
  (132, ⟨false, 1, [.int .u64 0], .it .u64⟩),
  (154, ⟨false, 1, [.slice none 0 0], .sl 32 1 24 (.slice none 0 0)⟩),
  (175, ⟨false, 1, [.nilIface], .ot⟩)]
theorem ttok : TTok Tryz.prog ttab := ⟨tt2, tt3, tt4, tt5, tt9, tt22, tt25, tt27, tt29, tt32, tt34, tt36, tt38, tt41, tt42, tt43, tt45, tt49, tt57, tt59, tt63, tt74, tt76, tt92, tt104, tt119, tt124, tt127, tt132, tt154, tt175, trivial⟩
theorem ok7 : CallOk Tryz.prog 7 := .mk Tryz.func7 (by decide) rfl
theorem ok8 : CallOk Tryz.prog 8 := .mk Tryz.func8 (by decide) rfl
theorem ok9 : CallOk Tryz.prog 9 := .mk Tryz.func9 (by decide) rfl
theorem ok12 : CallOk Tryz.prog 12 := .mk Tryz.func12 (by decide) rfl
theorem ok13 : CallOk Tryz.prog 13 := .mk Tryz.func13 (by decide) rfl
theorem ok14 : CallOk Tryz.prog 14 := .mk Tryz.func14 (by decide) rfl
theorem ok15 : CallOk Tryz.prog 15 := .mk Tryz.func15 (by decide) rfl
theorem ok16 : CallOk Tryz.prog 16 := .mk Tryz.func16 (by decide) rfl
theorem ok17 : CallOk Tryz.prog 17 := .mk Tryz.func17 (by decide) rfl
theorem ok18 : CallOk Tryz.prog 18 := .mk Tryz.func18 (by decide) rfl
theorem ok19 : CallOk Tryz.prog 19 := .mk Tryz.func19 (by decide) rfl
theorem ok20 : CallOk Tryz.prog 20 := .mk Tryz.func20 (by decide) rfl
theorem ok21 : CallOk Tryz.prog 21 := .mk Tryz.func21 (by decide) rfl
theorem ok22 : CallOk Tryz.prog 22 := .mk Tryz.func22 (by decide) rfl
theorem ok23 : CallOk Tryz.prog 23 := .mk Tryz.func23 (by decide) rfl
theorem ok26 : CallOk Tryz.prog 26 := .mk Tryz.func26 (by decide) rfl
theorem ok27 : CallOk Tryz.prog 27 := .mk Tryz.func27 (by decide) rfl
theorem ok28 : CallOk Tryz.prog 28 := .mk Tryz.func28 (by decide) rfl
theorem ok29 : CallOk Tryz.prog 29 := .mk Tryz.func29 (by decide) rfl
theorem ok30 : CallOk Tryz.prog 30 := .mk Tryz.func30 (by decide) rfl
theorem ok35 : CallOk Tryz.prog 35 := .mk Tryz.func35 (by decide) rfl
theorem ok36 : CallOk Tryz.prog 36 := .mk Tryz.func36 (by decide) rfl
theorem ok38 : CallOk Tryz.prog 38 := .mk Tryz.func38 (by decide) rfl
theorem ok39 : CallOk Tryz.prog 39 := .mk Tryz.func39 (by decide) rfl
theorem ok40 : CallOk Tryz.prog 40 := .mk Tryz.func40 (by decide) rfl
theorem ok41 : CallOk Tryz.prog 41 := .mk Tryz.func41 (by decide) rfl
theorem ok42 : CallOk Tryz.prog 42 := .mk Tryz.func42 (by decide) rfl
theorem ok43 : CallOk Tryz.prog 43 := .mk Tryz.func43 (by decide) rfl
theorem ok44 : CallOk Tryz.prog 44 := .mk Tryz.func44 (by decide) rfl
theorem ok45 : CallOk Tryz.prog 45 := .mk Tryz.func45 (by decide) rfl
theorem ok46 : CallOk Tryz.prog 46 := .mk Tryz.func46 (by decide) rfl
theorem ok47 : CallOk Tryz.prog 47 := .mk Tryz.func47 (by decide) rfl
theorem ok48 : CallOk Tryz.prog 48 := .mk Tryz.func48 (by decide) rfl
theorem ok49 : CallOk Tryz.prog 49 := .mk Tryz.func49 (by decide) rfl
theorem ok50 : CallOk Tryz.prog 50 := .mk Tryz.func50 (by decide) rfl
theorem ok51 : CallOk Tryz.prog 51 := .mk Tryz.func51 (by decide) rfl
theorem ok52 : CallOk Tryz.prog 52 := .mk Tryz.func52 (by decide) rfl
theorem ok53 : CallOk Tryz.prog 53 := .mk Tryz.func53 (by decide) rfl
theorem ok54 : CallOk Tryz.prog 54 := .mk Tryz.func54 (by decide) rfl
theorem ok55 : CallOk Tryz.prog 55 := .mk Tryz.func55 (by decide) rfl
theorem ok57 : CallOk Tryz.prog 57 := .mk Tryz.func57 (by decide) rfl
theorem ok58 : CallOk Tryz.prog 58 := .mk Tryz.func58 (by decide) rfl
theorem ok60 : CallOk Tryz.prog 60 := .mk Tryz.func60 (by decide) rfl
theorem ok61 : CallOk Tryz.prog 61 := .mk Tryz.func61 (by decide) rfl
theorem ok62 : CallOk Tryz.prog 62 := .mk Tryz.func62 (by decide) rfl
theorem ok63 : CallOk Tryz.prog 63 := .mk Tryz.func63 (by decide) rfl
theorem ok64 : CallOk Tryz.prog 64 := .mk Tryz.func64 (by decide) rfl
theorem ok65 : CallOk Tryz.prog 65 := .mk Tryz.func65 (by decide) rfl
theorem ok67 : CallOk Tryz.prog 67 := .mk Tryz.func67 (by decide) rfl
theorem ok69 : CallOk Tryz.prog 69 := .mk Tryz.func69 (by decide) rfl
theorem ok70 : CallOk Tryz.prog 70 := .mk Tryz.func70 (by decide) rfl
theorem ok71 : CallOk Tryz.prog 71 := .mk Tryz.func71 (by decide) rfl
theorem ok72 : CallOk Tryz.prog 72 := .mk Tryz.func72 (by decide) rfl
theorem ok75 : CallOk Tryz.prog 75 := .mk Tryz.func75 (by decide) rfl
theorem ok78 : CallOk Tryz.prog 78 := .mk Tryz.func78 (by decide) rfl
theorem ok79 : CallOk Tryz.prog 79 := .mk Tryz.func79 (by decide) rfl
theorem ok80 : CallOk Tryz.prog 80 := .mk Tryz.func80 (by decide) rfl
theorem ok81 : CallOk Tryz.prog 81 := .mk Tryz.func81 (by decide) rfl
theorem ok82 : CallOk Tryz.prog 82 := .mk Tryz.func82 (by decide) rfl
theorem ok83 : CallOk Tryz.prog 83 := .mk Tryz.func83 (by decide) rfl
theorem ok84 : CallOk Tryz.prog 84 := .mk Tryz.func84 (by decide) rfl
theorem ok85 : CallOk Tryz.prog 85 := .mk Tryz.func85 (by decide) rfl
theorem ok86 : CallOk Tryz.prog 86 := .mk Tryz.func86 (by decide) rfl
theorem ok89 : CallOk Tryz.prog 89 := .mk Tryz.func89 (by decide) rfl
theorem ok92 : CallOk Tryz.prog 92 := .mk Tryz.func92 (by decide) rfl
theorem ok95 : CallOk Tryz.prog 95 := .mk Tryz.func95 (by decide) rfl
theorem ok96 : CallOk Tryz.prog 96 := .mk Tryz.func96 (by decide) rfl
theorem ok98 : CallOk Tryz.prog 98 := .mk Tryz.func98 (by decide) rfl
theorem ok101 : CallOk Tryz.prog 101 := .mk Tryz.func101 (by decide) rfl
theorem ok102 : CallOk Tryz.prog 102 := .mk Tryz.func102 (by decide) rfl
theorem ok103 : CallOk Tryz.prog 103 := .mk Tryz.func103 (by decide) rfl
theorem ok104 : CallOk Tryz.prog 104 := .mk Tryz.func104 (by decide) rfl
theorem ok105 : CallOk Tryz.prog 105 := .mk Tryz.func105 (by decide) rfl
theorem ok106 : CallOk Tryz.prog 106 := .mk Tryz.func106 (by decide) rfl
theorem ok107 : CallOk Tryz.prog 107 := .mk Tryz.func107 (by decide) rfl
theorem ok108 : CallOk Tryz.prog 108 := .mk Tryz.func108 (by decide) rfl
theorem ok109 : CallOk Tryz.prog 109 := .mk Tryz.func109 (by decide) rfl
theorem ok110 : CallOk Tryz.prog 110 := .mk Tryz.func110 (by decide) rfl
theorem ok115 : CallOk Tryz.prog 115 := .mk Tryz.func115 (by decide) rfl
theorem ok117 : CallOk Tryz.prog 117 := .mk Tryz.func117 (by decide) rfl
theorem ok121 : CallOk Tryz.prog 121 := .mk Tryz.func121 (by decide) rfl
theorem ok122 : CallOk Tryz.prog 122 := .mk Tryz.func122 (by decide) rfl
theorem ok123 : CallOk Tryz.prog 123 := .mk Tryz.func123 (by decide) rfl
theorem ok124 : CallOk Tryz.prog 124 := .mk Tryz.func124 (by decide) rfl
theorem ok125 : CallOk Tryz.prog 125 := .mk Tryz.func125 (by decide) rfl
theorem ok135 : CallOk Tryz.prog 135 := .mk Tryz.func135 (by decide) rfl
theorem mixed : Tryz.prog.follows .mixedOrders = true := by kernel_rfl
end Go.Proofs.YtogaallfhifngaaGreat

/- Short words for walks over this program. -/
namespace Go.Proofs.YtogaallfhifngaaGreat
open Go Go.RowKit

section
variable {x : Cx} {g : Nat → FV} {ob ob' : List (Option Ob)} {Q : Post} {ops : Array Oper} {rest : List Oper} {d : Nat} {op : Op} {ty : TypeId} {pos : String} {af : Array Edge} {gd : Option (Nat × Bool)} {C : Prop} {v : FV}
theorem o1 (k : WL x ops rest (upF g d v) ob Q) (hT : TTok x.P ttab := by exact ttok) (hw : wantA ops x.n g gd = some true := by rfl) (h : evV ttab x.n g op = some (C, v) := by rfl) (hC : C := by first | trivial | omega | (simp only [InR]; omega)) : WL x ops (⟨some d, op, ty, pos, af, gd⟩ :: rest) g ob Q := w_v hT hw h hC k
theorem ld {t : Nat} {i : TI} {a : Operand} (k : WL x ops rest (upF g d v) ob Q) (hT : TTok x.P ttab := by exact ttok) (hw : wantA ops x.n g gd = some true := by rfl) (hi : ttGet ttab t = some i := by rfl) (h : evL ob i (lk x.n g a) = some (C, v) := by rfl) : WL x ops (⟨some d, .load t a, ty, pos, af, gd⟩ :: rest) g ob Q := w_ld hT hw hi h k
theorem ldf {t : Nat} {i : TI} {a : Operand} {l : List Tr} {of : Nat} (us : List Tr) (hl : (l.drop of).take us.length = us) (k : WL x ops rest (upF g d v) ob Q) (hT : TTok x.P ttab := by exact ttok) (hw : wantA ops x.n g gd = some true := by rfl) (hi : ttGet ttab t = some i := by rfl) (h : lk x.n g a = .one (.ef l of) := by rfl) (hv : ldV i us = some v := by rfl) : WL x ops (⟨some d, .load t a, ty, pos, af, gd⟩ :: rest) g ob Q := w_ldf hT hw hi h hl hv k
theorem al {t : Nat} (key : Nat) (k : WL x ops rest (upF g d (.one (.pt key 0))) ob' Q) (hT : TTok x.P ttab := by exact ttok) (hw : wantA ops x.n g gd = some true := by rfl) (h : evAl ttab t key ob = some ob' := by rfl) : WL x ops (⟨some d, .alloc t, ty, pos, af, gd⟩ :: rest) g ob Q := w_al hT hw h k
theorem bx {t : Nat} {a : Operand} (key : Nat) (k : WL x ops rest (upF g d (.one (.pt key 0))) ob' Q) (hw : wantA ops x.n g gd = some true := by rfl) (h : evBx t key (lk x.n g a) ob = some ob' := by rfl) : WL x ops (⟨some d, .box t a, ty, pos, af, gd⟩ :: rest) g ob Q := w_bx hw h k
theorem st {t : Nat} {i : TI} {a b : Operand} (k : WL x ops rest g ob' Q) (hT : TTok x.P ttab := by exact ttok) (hw : wantA ops x.n g gd = some true := by rfl) (hi : ttGet ttab t = some i := by rfl) (h : evSt i ob (lk x.n g b) (lk x.n g a) = some ob' := by rfl) : WL x ops (⟨none, .store t a b, ty, pos, af, gd⟩ :: rest) g ob Q := w_st hT hw hi h k
theorem bs {t len : Nat} {ps : Array (Nat × Operand)} (key : Nat) (k : WL x ops rest (upF g d (.one (.sl key 0 len))) ob' Q) (hT : TTok x.P ttab := by exact ttok) (hw : wantA ops x.n g gd = some true := by rfl) (h : evBs ttab x.n g t len key ps.toList ob = some ob' := by rfl) : WL x ops (⟨some d, .buildSlice t len ps, ty, pos, af, gd⟩ :: rest) g ob Q := w_bs hT hw h k
theorem no_ {o : Oper} (k : WL x ops rest (upF g d (.one (tv undef))) ob Q) (hw : wantA ops x.n g o.guard = some false := by rfl) (hd : o.dst = some d := by rfl) : WL x ops (o :: rest) g ob Q := w_no hw hd k
theorem ca {fresh : Bool} {f : FuncId} {args : List FV} {r : FV} {aa : Array Operand} {ats : Array TypeId} (hS : Spec fresh x.P f [] args (Ret r)) (hf : CallOk x.P f) (ha : AL fresh x g ob aa.toList args) (v : FV) (k : WL x ops rest (upF g d v) ob Q) (hw : wantA ops x.n g gd = some true := by rfl) (hv : frz r = v := by rfl) :
    WL x ops (⟨some d, .call ⟨.value (.func f), aa, ats⟩, ty, pos, af, gd⟩ :: rest) g ob Q := w_call hw hS hf ha hv k
/-! drawn -/
variable {late : Nat → Bool} {K fr : List Nat} {on : Bool} {fuel : Nat} {listed : Array Bool}
theorem dv (i : Nat) (k : WD x ops Q late K fr true fuel (listed.setIfInBounds i true) (upF g d v) ob) (hT : TTok x.P ttab := by exact ttok) (hi : ops[i]? = some ⟨some d, op, ty, pos, af, gd⟩ := by rfl) (hst : stat ops late listed i = true := by kernel_rfl) (hw : wantA ops x.n g gd = some true := by rfl) (h : evV ttab x.n (mask fr g) op = some (C, v) := by rfl) (hC : C := by first | trivial | omega | (simp only [InR]; omega)) (hg : evV ttab x.n g op = some (C, v) := by rfl) : WD x ops Q late K fr true (fuel + 1) listed g ob := dt i hT hi hst hw h hC hg k
theorem df (i : Nat) (k : WD x ops Q late K (d :: fr) true fuel (listed.setIfInBounds i true) (upF g d v) ob) (hT : TTok x.P ttab := by exact ttok) (hi : ops[i]? = some ⟨some d, op, ty, pos, af, gd⟩ := by rfl) (hst : stat ops late listed i = true := by kernel_rfl) (hw : wantA ops x.n g gd = some true := by rfl) (h : evV ttab x.n g op = some (C, v) := by rfl) (hC : C := by first | trivial | omega | (simp only [InR]; omega)) : WD x ops Q late K fr true (fuel + 1) listed g ob := dtf i hT hi hst hw h hC k
theorem dld {t : Nat} {ti : TI} {a : Operand} {key off : Nat} (i : Nat) (k : WD x ops Q late K fr true fuel (listed.setIfInBounds i true) (upF g d v) ob) (hT : TTok x.P ttab := by exact ttok) (hi : ops[i]? = some ⟨some d, .load t a, ty, pos, af, gd⟩ := by rfl) (hst : stat ops late listed i = true := by kernel_rfl) (hw : wantA ops x.n g gd = some true := by rfl) (hti : ttGet ttab t = some ti := by rfl) (hlk : lk x.n g a = .one (.pt key off) := by rfl) (hK : K.contains key = true := by rfl) (h : evL ob ti (.one (.pt key off)) = some (C, v) := by rfl) : WD x ops Q late K fr true (fuel + 1) listed g ob := dl i hT hi hst hw hti hlk hK h k
theorem dlr {t : Nat} {ti : TI} {a : Operand} {l : List Tr} {of : Nat} (i : Nat) (us : List Tr) (hl : (l.drop of).take us.length = us) (k : WD x ops Q late K fr true fuel (listed.setIfInBounds i true) (upF g d v) ob) (hT : TTok x.P ttab := by exact ttok) (hi : ops[i]? = some ⟨some d, .load t a, ty, pos, af, gd⟩ := by rfl) (hst : stat ops late listed i = true := by kernel_rfl) (hw : wantA ops x.n g gd = some true := by rfl) (hti : ttGet ttab t = some ti := by rfl) (hlk : lk x.n (mask fr g) a = .one (.ef l of) := by rfl) (hv : ldV ti us = some v := by rfl) : WD x ops Q late K fr true (fuel + 1) listed g ob := dlf i hT hi hst hw hti hlk hl hv k
theorem dno (i : Nat) (k : WD x ops Q late K fr true fuel (listed.setIfInBounds i true) (upF g d (.one (tv undef))) ob) (hi : ops[i]? = some ⟨some d, op, ty, pos, af, gd⟩ := by rfl) (hst : stat ops late listed i = true := by kernel_rfl) (hw : wantA ops x.n g gd = some false := by rfl) : WD x ops Q late K fr true (fuel + 1) listed g ob := dn i hi hst hw k
theorem dca {fresh : Bool} {f : FuncId} {args : List FV} {r : FV} {aa : Array Operand} {ats : Array TypeId} (i : Nat) (hi : ops[i]? = some ⟨some d, .call ⟨.value (.func f), aa, ats⟩, ty, pos, af, gd⟩) (hS : Spec fresh x.P f [] args (Ret r)) (hf : CallOk x.P f) (ha : AL fresh x g ob aa.toList args) (v : FV) (k : WD x ops Q late K (d :: fr) true fuel (listed.setIfInBounds i true) (upF g d v) ob) (hr : Region.ready .any ops listed = [i] := by kernel_rfl) (hw : wantA ops x.n g gd = some true := by rfl) (hv : frz r = v := by rfl) : WD x ops Q late K fr true (fuel + 1) listed g ob := d_call i hr hi hw hS hf ha hv k
theorem oca {fresh : Bool} {f : FuncId} {args : List FV} {r : FV} {aa : Array Operand} {ats : Array TypeId} (i : Nat) (hi : ops[i]? = some ⟨some d, .call ⟨.value (.func f), aa, ats⟩, ty, pos, af, gd⟩) (hS : Spec fresh x.P f [] args (Ret r)) (hf : CallOk x.P f) (ha : AL fresh x g ob aa.toList args) (v : FV) (k : WD x ops Q late K (d :: fr) true fuel (listed.setIfInBounds i true) (upF g d v) ob) (hw : wantA ops x.n g gd = some true := by rfl) (hv : frz r = v := by rfl) : WO x ops Q late K fr true fuel listed i g ob := o_call i hi hw hS hf ha hv k
theorem dst {t : Nat} {ti : TI} {a b : Operand} (i : Nat) (k : WD x ops Q late K fr false fuel (listed.setIfInBounds i true) g ob') (hT : TTok x.P ttab := by exact ttok) (hr : Region.ready .any ops listed = [i] := by kernel_rfl) (hi : ops[i]? = some ⟨none, .store t a b, ty, pos, af, gd⟩ := by rfl) (hw : wantA ops x.n g gd = some true := by rfl) (hti : ttGet ttab t = some ti := by rfl) (h : evSt ti ob (lk x.n g b) (lk x.n g a) = some ob' := by rfl) (hl : late i = true := by rfl) : WD x ops Q late K fr on (fuel + 1) listed g ob := d_st i hr hi hw hT hti h hl k
theorem cak {fresh : Bool} {f : FuncId} {args : List FV} {r : FV} {os : List Ob} {aa : Array Operand} {ats : Array TypeId} (key : Nat) (hS : Spec fresh x.P f [] args (Ret r)) (hf : CallOk x.P f) (ha : AL fresh x g ob aa.toList args) (k : WL x ops rest (upF g d v) (ob ++ os.map some) Q) (hw : wantA ops x.n g gd = some true := by rfl) (hk : keyOk ob key = true := by rfl) (hb : bnd key r = some (v, os) := by rfl) :
    WL x ops (⟨some d, .call ⟨.value (.func f), aa, ats⟩, ty, pos, af, gd⟩ :: rest) g ob Q := w_callk hw hS hf ha hk hb k
theorem dck {fresh : Bool} {f : FuncId} {args : List FV} {r : FV} {os : List Ob} {aa : Array Operand} {ats : Array TypeId} (key i : Nat) (hi : ops[i]? = some ⟨some d, .call ⟨.value (.func f), aa, ats⟩, ty, pos, af, gd⟩) (hS : Spec fresh x.P f [] args (Ret r)) (hf : CallOk x.P f) (ha : AL fresh x g ob aa.toList args) (k : WD x ops Q late K (d :: fr) true fuel (listed.setIfInBounds i true) (upF g d v) (ob ++ os.map some)) (hr : Region.ready .any ops listed = [i] := by kernel_rfl) (hw : wantA ops x.n g gd = some true := by rfl) (hk : keyOk ob key = true := by rfl) (hb : bnd key r = some (v, os) := by rfl) (hK : inb K ob = true := by rfl) : WD x ops Q late K fr true (fuel + 1) listed g ob := d_callk i hr hi hw hS hf ha hk hb hK k
theorem dz0 (h : Q .normal g ob) (hr : Region.ready .any ops listed = [] := by kernel_rfl) : WD x ops Q late K fr on fuel listed g ob := dz hr h
end
end Go.Proofs.YtogaallfhifngaaGreat

/- The library's small functions on machine words: cmp.Compare, math/bits. -/
namespace Go.Proofs.YtogaallfhifngaaGreat
open Go Go.RowKit

def subB (x y c : Int) : Int := if x < y + c then 1 else 0
theorem top_split (a b d : Nat) :
    (((4294967295 ^^^ a) &&& b) ||| ((4294967295 ^^^ (a ^^^ b)) &&& d)) / 2147483648 =
      (((1 ^^^ (a / 2147483648)) &&& (b / 2147483648)) ||| ((1 ^^^ ((a / 2147483648) ^^^ (b / 2147483648))) &&& (d / 2147483648))) := by
  have e : ∀ v : Nat, v / 2147483648 = v >>> 31 := fun v => by rw [Nat.shiftRight_eq_div_pow]
  simp only [e, Nat.shiftRight_or_distrib, Nat.shiftRight_and_distrib, Nat.shiftRight_xor_distrib]
  rfl
theorem top_01 (v : Nat) (h : v < 4294967296) : v / 2147483648 = 0 ∨ v / 2147483648 = 1 := by omega
theorem borrow (x y c : Int) (x0 : 0 ≤ x) (x1 : x < 4294967296) (y0 : 0 ≤ y) (y1 : y < 4294967296) (c0 : 0 ≤ c) (c1 : c ≤ 1) :
    bits BinOp.or IntKind.u32 (bits BinOp.and IntKind.u32 (bits BinOp.xor IntKind.u32 IntKind.u32.max x) y)
      (bits BinOp.and IntKind.u32 (bits BinOp.xor IntKind.u32 IntKind.u32.max (bits BinOp.xor IntKind.u32 x y)) ((x - y - c) % 4294967296)) / 2147483648 = subB x y c := by
  obtain ⟨a, rfl⟩ := Int.eq_ofNat_of_zero_le x0
  obtain ⟨b, rfl⟩ := Int.eq_ofNat_of_zero_le y0
  have hdn : 0 ≤ ((a : Int) - b - c) % 4294967296 := by omega
  obtain ⟨d, hd⟩ := Int.eq_ofNat_of_zero_le hdn
  rw [hd]
  have em : IntKind.u32.max = ((4294967295 : Nat) : Int) := rfl
  have ha : a < 4294967296 := by omega
  have hb : b < 4294967296 := by omega
  have hd' : d < 4294967296 := by omega
  have x1 : a ^^^ b < 4294967296 := Nat.xor_lt_two_pow (n := 32) ha hb
  have x2 : 4294967295 ^^^ a < 4294967296 := Nat.xor_lt_two_pow (n := 32) (by omega) ha
  have x3 : 4294967295 ^^^ (a ^^^ b) < 4294967296 := Nat.xor_lt_two_pow (n := 32) (by omega) x1
  have x4 : (4294967295 ^^^ a) &&& b < 4294967296 := Nat.and_lt_two_pow (n := 32) _ hb
  have x5 : (4294967295 ^^^ (a ^^^ b)) &&& d < 4294967296 := Nat.and_lt_two_pow (n := 32) _ hd'
  rw [em, u32_xor_nat _ _ (by omega) ha, u32_xor_nat _ _ ha hb, u32_xor_nat _ _ (by omega) x1, u32_and_nat _ _ x2 hb, u32_and_nat _ _ x3 hd', u32_or_nat _ _ x4 x5]
  have hs := top_split a b d
  have hh : ((((4294967295 ^^^ a) &&& b) ||| ((4294967295 ^^^ (a ^^^ b)) &&& d) : Nat) : Int) / 2147483648 = (((((4294967295 ^^^ a) &&& b) ||| ((4294967295 ^^^ (a ^^^ b)) &&& d)) / 2147483648 : Nat) : Int) := rfl
  rw [hh, hs]
  unfold subB
  rcases top_01 a ha with ta | ta <;> rcases top_01 b hb with tb | tb <;> rcases top_01 d hd' with td | td <;> rw [ta, tb, td] <;> split <;> first | rfl | (exfalso; omega)

theorem isNaN_int (x : Int) (w : World) : Calls Tryz.prog 141 #[.int .i64 x] w fun e w' => e = .returned (.bool false) ∧ w = w' := by
  go_enter Tryz.func141, Tryz.ntmps141
  go_wp2
  go_ret
  simp
theorem isNaN_u32 (x : Int) (w : World) : Calls Tryz.prog 142 #[.int .u32 x] w fun e w' => e = .returned (.bool false) ∧ w = w' := by
  go_enter Tryz.func142, Tryz.ntmps142
  go_wp2
  go_ret
  simp

/-- -1, 0, 1 -/
def cmpI (x y : Int) : Int := if x < y then -1 else if y < x then 1 else 0

theorem compare_int (x y : Int) (w : World) : Calls Tryz.prog 132 #[.int .i64 x, .int .i64 y] w fun e w' => e = .returned (.int .i64 (cmpI x y)) ∧ w = w' := by
  go_enter Tryz.func132, Tryz.ntmps132
  go_wp2_with (first
    | (go_at_call 141; refine (isNaN_int _ _).mono ?_; rintro e w' ⟨rfl, rfl⟩))
  all_goals (go_ret; refine ⟨ret_int ?_, rfl⟩; show _ = cmpI x y; unfold cmpI; (repeat' split) <;> first | rfl | omega)
theorem compare_u32 (x y : Int) (w : World) : Calls Tryz.prog 133 #[.int .u32 x, .int .u32 y] w fun e w' => e = .returned (.int .i64 (cmpI x y)) ∧ w = w' := by
  go_enter Tryz.func133, Tryz.ntmps133
  go_wp2_with (first
    | (go_at_call 142; refine (isNaN_u32 _ _).mono ?_; rintro e w' ⟨rfl, rfl⟩))
  all_goals (go_ret; refine ⟨ret_int ?_, rfl⟩; show _ = cmpI x y; unfold cmpI; (repeat' split) <;> first | rfl | omega)

theorem bits_Add32 (x y c : Int) (w : World) (x0 : 0 ≤ x) (x1 : x < 4294967296) (y0 : 0 ≤ y) (y1 : y < 4294967296) (c0 : 0 ≤ c) (c1 : c < 4294967296) :
    Calls Tryz.prog 131 #[.int .u32 x, .int .u32 y, .int .u32 c] w fun e w' => e = .returned (.tuple #[.int .u32 ((x + y + c) % 4294967296), .int .u32 ((x + y + c) / 4294967296)]) ∧ w = w' := by
  go_enter Tryz.func131, Tryz.ntmps131
  go_wp2
  go_ret2
  exact ⟨rfl, rfl⟩
theorem mul_hi (x y : Int) (x0 : 0 ≤ x) (x1 : x < 4294967296) (y0 : 0 ≤ y) (y1 : y < 4294967296) : 0 ≤ x * y ∧ x * y ≤ 18446744065119617025 := by
  refine ⟨Int.mul_nonneg x0 y0, ?_⟩
  have := Int.mul_le_mul (show x ≤ 4294967295 by omega) (show y ≤ 4294967295 by omega) y0 (by omega)
  omega
theorem bits_Mul32 (x y : Int) (w : World) (x0 : 0 ≤ x) (x1 : x < 4294967296) (y0 : 0 ≤ y) (y1 : y < 4294967296) :
    Calls Tryz.prog 145 #[.int .u32 x, .int .u32 y] w fun e w' => e = .returned (.tuple #[.int .u32 (x * y / 4294967296), .int .u32 (x * y % 4294967296)]) ∧ w = w' := by
  obtain ⟨p0, p1⟩ := mul_hi x y x0 x1 y0 y1
  go_enter Tryz.func145, Tryz.ntmps145
  go_wp2
  go_ret2
  exact ⟨rfl, rfl⟩
theorem bits_Sub32 (x y c : Int) (w : World) (x0 : 0 ≤ x) (x1 : x < 4294967296) (y0 : 0 ≤ y) (y1 : y < 4294967296) (c0 : 0 ≤ c) (c1 : c ≤ 1) :
    Calls Tryz.prog 134 #[.int .u32 x, .int .u32 y, .int .u32 c] w fun e w' => e = .returned (.tuple #[.int .u32 ((x - y - c) % 4294967296), .int .u32 (subB x y c)]) ∧ w = w' := by
  have hb := Lib.hid (borrow x y c x0 x1 y0 y1 c0 c1)
  go_enter Tryz.func134, Tryz.ntmps134
  go_wp2
  go_ret2
  rw [← hb.out]
  exact ⟨rfl, rfl⟩
theorem or_low (h l : Int) (h0 : 0 ≤ h) (h1 : h < 4294967296) (l0 : 0 ≤ l) (l1 : l < 4294967296) :
    bits BinOp.or IntKind.u64 (h * 4294967296) l = h * 4294967296 + l := by
  obtain ⟨a, rfl⟩ := Int.eq_ofNat_of_zero_le h0
  obtain ⟨b, rfl⟩ := Int.eq_ofNat_of_zero_le l0
  have e : ((a : Int) * 4294967296) = ((a * 4294967296 : Nat) : Int) := by omega
  have e2 : a * 4294967296 ||| b = a * 4294967296 + b := by
    have := Nat.two_pow_add_eq_or_of_lt (i := 32) (b := b) (by omega) a
    rw [Nat.mul_comm] at this
    simpa using this.symm
  rw [e, bits_or_u64_nat _ _ (by omega) (by omega), e2]
  omega
theorem div_in (h l d : Int) (h0 : 0 ≤ h) (hd : h < d) (l0 : 0 ≤ l) (l1 : l < 4294967296) :
    0 ≤ (h * 4294967296 + l) / d ∧ (h * 4294967296 + l) / d < 4294967296 ∧ 0 ≤ (h * 4294967296 + l) % d ∧ (h * 4294967296 + l) % d < d := by
  have hp : 0 < d := by omega
  refine ⟨Int.ediv_nonneg (by omega) (by omega), Int.ediv_lt_of_lt_mul hp ?_, Int.emod_nonneg _ (by omega), Int.emod_lt_of_pos _ hp⟩
  have : (h + 1) * 4294967296 ≤ d * 4294967296 := Int.mul_le_mul_of_nonneg_right (by omega) (by omega)
  rw [Int.mul_comm 4294967296 d]
  omega
theorem bits_Div32 (h l d : Int) (w : World) (h0 : 0 ≤ h) (hd : h < d) (l0 : 0 ≤ l) (l1 : l < 4294967296) (d1 : d < 4294967296) :
    Calls Tryz.prog 136 #[.int .u32 h, .int .u32 l, .int .u32 d] w fun e w' =>
      e = .returned (.tuple #[.int .u32 ((h * 4294967296 + l) / d), .int .u32 ((h * 4294967296 + l) % d)]) ∧ ∃ n, w' = w.drewN n := by
  have hne : (d != 0) = true := by rw [bne_iff_ne]; omega
  have hne2 : ¬ d = 0 := by omega
  have hle : decide (d ≤ h) = false := by simp; omega
  have hor := or_low h l h0 (by omega) l0 l1
  obtain ⟨q0, q1, r0, r1⟩ := div_in h l d h0 hd l0 l1
  go_enter Tryz.func136, Tryz.ntmps136
  go_wp2
  go_quiet (fail)
  go_wp2
  go_ret2
  exact ⟨rfl, _, rfl⟩
end Go.Proofs.YtogaallfhifngaaGreat

/- limb: trimmed. -/
namespace Go.Proofs.YtogaallfhifngaaGreat
open Go Go.RowKit

def lenOf : Value → Nat | .slice _ n _ => n | _ => 0

set_option maxRecDepth 100000 in
set_option maxHeartbeats 400000 in
theorem limb_trimmed (A : Option Addr) (n c : Nat) (xs : List Nat) (B : Nat) (w : World) (h : U32 w B A n c xs) :
    Calls Tryz.prog 114 #[.slice A n c] w fun e w' => e = .returned (.slice A (trim xs).length c) ∧ w = w' := by
  have hbig := h.big
  have hcap := h.cap
  go_enter Tryz.func114, Tryz.ntmps114
  go_wp2
  go_loop [0] (fun a => ∃ k : Nat, k ≤ n ∧ a = .slice A k c ∧ Hid (trim (xs.take k) = trim xs)) (fun a => lenOf a)
  case atStart => exact ⟨n, Nat.le_refl _, rfl, by have := h.len; rw [List.take_of_length_le (by omega)]; exact rfl⟩
  case round =>
    obtain ⟨k, hk, rfl, ht⟩ := hrel
    by_cases h0 : 0 < k
    · obtain ⟨b, o, sp, rfl, hb, hc⟩ := h.at_ (show k - 1 < n by omega)
      go_wp2
      · have h1 : ((nth xs (k - 1) : Nat) : Int) == 0 := by assumption
        have hx : nth xs (k - 1) = 0 := by simpa using h1
        exact ⟨⟨k - 1, by omega, rfl, by rw [trim_less (by omega) (by rw [h.len]; omega) hx]; exact ht.out⟩, by simp only [lenOf]; omega⟩
      · have h1 : (((nth xs (k - 1) : Nat) : Int) == 0) = false := by assumption
        have hx : nth xs (k - 1) ≠ 0 := by simpa using h1
        go_ret
        exact ⟨ret_slice (by rw [← ht.out, trim_stop (by omega) (by rw [h.len]; omega) hx, List.length_take, h.len, Nat.min_eq_left hk]), rfl⟩
    · go_wp2
      obtain rfl : k = 0 := by omega
      go_ret
      exact ⟨ret_slice (by rw [← ht.out]; rfl), rfl⟩

theorem own_empty (w : World) (e : TypeId) : (w.alloc (.cells #[] e)).ownsRow w.heap.size e 1 (.slice (some ⟨w.heap.size, 0, none⟩) 0 0) 0 [] :=
  ⟨rfl, .inr ⟨w.heap.size, 0, #[], rfl, Nat.le_refl _, heap_alloc_new w _, Nat.le_refl _, by unfold maxLen; omega, rfl, rfl⟩⟩
theorem below_new (w : World) (o : Obj) : Below w.heap.size w (w.alloc o) := (Below.refl _ _).alloc (Nat.le_refl _) _
theorem el32 : IsEl Tryz.prog 32 104 (.int .u32 0) 1 4 := IsEl.mk Tryz.underlying32 (z := .int .u32 0) (by kernel_rfl) rfl (by omega)

/-- a new []uint32 -/
def Out32 (xs : List Nat) (w : World) (e : Ending) (w' : World) : Prop :=
  ∃ A n c, e = .returned (.slice A n c) ∧ Own 104 w' w.heap.size A n c xs ∧ Below w.heap.size w w'

set_option maxRecDepth 100000 in
set_option maxHeartbeats 400000 in
theorem clone32 (A : Option Addr) (n c : Nat) (xs : List Nat) (w : World) (h : U32 w w.heap.size A n c xs) (hn : n ≤ 1099511627776) :
    Calls Tryz.prog 113 #[.slice A n c] w (Out32 xs w) := by
  have q : ∀ (w : World) (a : Option Addr) (n c n' c' : Nat), (binOp .eql 32 (.slice a n c) (.slice none n' c')).run Tryz.prog w = .ok (.bool a.isNone) w :=
    fun w a n c n' c' => Lib.run_eql_slice_nil w _ _ a n c n' c' Tryz.underlying32
  rcases A with _ | ad
  · have h0 : n = 0 := by
      rcases Nat.eq_zero_or_pos n with h0 | h0
      · exact h0
      · obtain ⟨ad, e, _⟩ := h.rd.cell h0
        cases e
    subst h0
    have hx : xs = [] := List.eq_nil_of_length_eq_zero h.len
    subst hx
    go_enter Tryz.func113, Tryz.ntmps113
    go_wp2
    go_ret
    exact ⟨none, 0, 0, rfl, Own.nil, Below.refl _ _⟩
  · go_enter Tryz.func113, Tryz.ntmps113
    go_wp2_with (first
      | (at_builtin
         refine wpList_app _ el32 rfl (.tmp 5) (.tmp 6) rfl w.heap.size (.slice (some ⟨w.heap.size, 0, none⟩) 0 0) 0 [] rfl (own_empty _ _) w.heap.size (some ad) n c (c32 xs) rfl (h.rd.below (below_new w _)) (c32_one xs) (by omega) (by omega) (by simp) ?_
         intro A' c' w1 hown hg _))
    go_ret
    refine ⟨A', n, c', rfl, ⟨by simpa using hown, h.lim⟩, below_app (below_new w _) (own_empty _ _) hg (by simp) (Nat.le_refl _)⟩

set_option maxRecDepth 100000 in
set_option maxHeartbeats 400000 in
theorem limb_Trim (A : Option Addr) (n c : Nat) (xs : List Nat) (w : World) (h : U32 w w.heap.size A n c xs) (hn : n ≤ 1099511627776) :
    Calls Tryz.prog 94 #[.slice A n c] w (Out32 (trim xs) w) := by
  have hl := trim_length xs
  have hlen := Lib.hid h.len
  go_enter Tryz.func94, Tryz.ntmps94
  go_wp2_with (first
    | (go_at_call 114; refine (limb_trimmed _ _ _ xs _ _ h).mono ?_; rintro e w' ⟨rfl, rfl⟩)
    | (go_at_call 113; refine (clone32 _ _ _ (trim xs) _ h.trim ?_).mono ?_; (rw [hlen.out] at hl; omega); rintro e w1 ⟨A1, n1, c1, rfl, h1, hb1⟩))
  go_ret
  exact ⟨A1, n1, c1, rfl, h1, hb1⟩
end Go.Proofs.YtogaallfhifngaaGreat

/- limb: Cmp. -/
namespace Go.Proofs.YtogaallfhifngaaGreat
open Go Go.RowKit

theorem quiet_add {P : Program} {f : FuncId} {args : Array Value} {w : World} {a n : Nat} {v : Value}
    (h : Calls P f args (w.drewN (a + n)) fun e w' => e = .returned v ∧ w.drewN (a + n) = w') :
    Calls P f args (w.drewN (a + n)) fun e w'' => e = .returned v ∧ ∃ m, w'' = w.drewN (a + m) :=
  h.mono fun _ _ ⟨he, hm⟩ => ⟨he, n, hm.symm⟩
theorem quiet3 (w : World) (a b c : Nat) : ∃ k, ((w.drewN a).drewN b).drewN c = w.drewN k := ⟨_, by rw [World.drewN_drewN, World.drewN_drewN]⟩
theorem limb_trimmed_at (A : Option Addr) (n c n' : Nat) (xs : List Nat) (B : Nat) (w : World) (h : U32 w B A n c xs) (hn : (trim xs).length = n') :
    Calls Tryz.prog 114 #[.slice A n c] w fun e w' => e = .returned (.slice A n' c) ∧ w = w' := by
  subst hn; exact limb_trimmed A n c xs B w h

/-- as numbers are -/
def cmpN (x y : Nat) : Int := cmpI (x : Int) (y : Int)
theorem cmpN_lt {x y : Nat} (h : x < y) : cmpN x y = -1 := by unfold cmpN cmpI; rw [if_pos (by omega)]
theorem cmpN_gt {x y : Nat} (h : y < x) : cmpN x y = 1 := by unfold cmpN cmpI; rw [if_neg (by omega), if_pos (by omega)]
theorem cmpN_eq {x y : Nat} (h : x = y) : cmpN x y = 0 := by unfold cmpN cmpI; rw [if_neg (by omega), if_neg (by omega)]
theorem cmpN_length {xs ys : List Nat} (hx : Lim 4294967296 xs) (hy : Lim 4294967296 ys) (h : (trim xs).length ≠ (trim ys).length) :
    cmpI ((trim xs).length : Int) ((trim ys).length : Int) = cmpN (vl 4294967296 xs) (vl 4294967296 ys) := by
  rcases Nat.lt_or_gt_of_ne h with h | h
  · have := vl_lt_of_length (B := 4294967296) (by omega) hx.trim (trim_trim ys) h
    rw [vl_trim, vl_trim] at this
    rw [cmpN_lt this]; exact cmpN_lt h
  · have := vl_lt_of_length (B := 4294967296) (by omega) hy.trim (trim_trim xs) h
    rw [vl_trim, vl_trim] at this
    rw [cmpN_gt this]; exact cmpN_gt h
theorem cmpN_at {xs ys : List Nat} {k : Nat} (hx : Lim 4294967296 xs) (hy : Lim 4294967296 ys) (hl : xs.length = ys.length) (h0 : 0 < k) (hk : k ≤ xs.length)
    (hd : xs.drop k = ys.drop k) (h : nth xs (k - 1) ≠ nth ys (k - 1)) : cmpI (nth xs (k - 1) : Int) (nth ys (k - 1) : Int) = cmpN (vl 4294967296 xs) (vl 4294967296 ys) := by
  have e : k - 1 + 1 = k := by omega
  rcases Nat.lt_or_gt_of_ne h with h | h
  · have := vl_lt_at (B := 4294967296) (k := k - 1) hx hl (by omega) (by rw [e]; exact hd) (by rwa [nth_get (by omega), nth_get (by omega)] at h)
    rw [cmpN_lt this]; exact cmpN_lt h
  · have := vl_lt_at (B := 4294967296) (k := k - 1) hy hl.symm (by omega) (by rw [e]; exact hd.symm) (by rwa [nth_get (by omega), nth_get (by omega)] at h)
    rw [cmpN_gt this]; exact cmpN_gt h
theorem drop_step {xs ys : List Nat} {k : Nat} (hl : xs.length = ys.length) (h0 : 0 < k) (hk : k ≤ xs.length) (hd : xs.drop k = ys.drop k) (h : nth xs (k - 1) = nth ys (k - 1)) :
    xs.drop (k - 1) = ys.drop (k - 1) := by
  have e : k - 1 + 1 = k := by omega
  rw [List.drop_eq_getElem_cons (show k - 1 < xs.length by omega), List.drop_eq_getElem_cons (show k - 1 < ys.length by omega), e, hd, ← nth_get, ← nth_get, h]

set_option maxRecDepth 100000 in
set_option maxHeartbeats 800000 in
theorem limb_Cmp (A B : Option Addr) (n m c d : Nat) (xs ys : List Nat) (bd : Nat) (w : World) (ha : U32 w bd A n c xs) (hb : U32 w bd B m d ys) :
    Calls Tryz.prog 119 #[.slice A n c, .slice B m d] w fun e w' => e = .returned (.int .i64 (cmpN (vl 4294967296 xs) (vl 4294967296 ys))) ∧ ∃ k, w' = w.drewN k := by
  have ha1 := ha.trim
  have hb1 := hb.trim
  have hab := ha.big
  have hbb := hb.big
  have hac := ha1.cap
  have hbc := hb1.cap
  obtain ⟨n1, hn1⟩ : ∃ n1, (trim xs).length = n1 := ⟨_, rfl⟩
  obtain ⟨m1, hm1⟩ : ∃ m1, (trim ys).length = m1 := ⟨_, rfl⟩
  rw [hn1] at ha1 hac
  rw [hm1] at hb1 hbc
  have Hn1 := Lib.hid hn1
  have Hm1 := Lib.hid hm1
  clear hn1 hm1
  by_cases hne : n1 = m1
  · subst hne
    have hq : ((n1 : Int) != (n1 : Int)) = false := by simp
    go_enter Tryz.func119, Tryz.ntmps119
    go_wp2_with fail
    refine (limb_trimmed_at _ _ _ n1 xs _ _ ha Hn1.out).mono ?_
    rintro e w' ⟨rfl, rfl⟩
    go_wp2_with fail
    refine (limb_trimmed_at _ _ _ n1 ys _ _ hb Hm1.out).mono ?_
    rintro e w' ⟨rfl, rfl⟩
    go_wp2_with fail
    go_loopw [5] (fun i wr => ∃ k : Nat, k ≤ n1 ∧ i = .int .i64 ((k : Int) - 1) ∧ Hid ((trim xs).drop k = (trim ys).drop k) ∧ ∃ q, wr = w.drewN q) (fun i _ => (intOf i + 1).toNat)
    case atStart => exact ⟨n1, Nat.le_refl _, rfl, by rw [List.drop_eq_nil_of_le (by rw [Hn1.out]; exact Nat.le_refl _), List.drop_eq_nil_of_le (by rw [Hm1.out]; exact Nat.le_refl _)]; exact rfl, 0, rfl⟩
    case round =>
      obtain ⟨k, hk, rfl, ht, q, rfl⟩ := hrel
      by_cases h0 : 0 < k
      · obtain ⟨b, o, sp, rfl, hb', hc'⟩ := ha1.at_ (show k - 1 < n1 by omega)
        obtain ⟨b2, o2, sp2, rfl, hb2', hc2'⟩ := hb1.at_ (show k - 1 < n1 by omega)
        by_cases he : nth (trim xs) (k - 1) = nth (trim ys) (k - 1)
        · have he1 : (((nth (trim xs) (k - 1) : Nat) : Int) != ((nth (trim ys) (k - 1) : Nat) : Int)) = false := by rw [he]; simp
          have He := Lib.hid he
          clear he
          go_wp2_with fail
          go_quiet (fail)
          go_wp2_with fail
          exact ⟨⟨k - 1, by omega, by go_num, drop_step (by rw [Hn1.out, Hm1.out]) h0 (by rw [Hn1.out]; exact hk) ht.out He.out, _, rfl⟩, by simp [intOf]; omega⟩
        · have he1 : (((nth (trim xs) (k - 1) : Nat) : Int) != ((nth (trim ys) (k - 1) : Nat) : Int)) = true := by rw [bne_iff_ne]; omega
          have He := Lib.hid he
          clear he
          go_wp2_with fail
          go_quiet (fail)
          go_wp2_with fail
          go_quiet ((go_at_call 133; exact quiet_add (compare_u32 _ _ _)))
          go_wp2_with fail
          go_ret
          exact ⟨ret_int (by rw [cmpN_at ha1.lim hb1.lim (by rw [Hn1.out, Hm1.out]) h0 (by rw [Hn1.out]; exact hk) ht.out He.out, vl_trim, vl_trim]), quiet3 _ _ _ _⟩
      · obtain rfl : k = 0 := by omega
        have he : trim xs = trim ys := ht.out
        go_wp2_with fail
        go_ret
        exact ⟨ret_int (by rw [← vl_trim 4294967296 xs, he, vl_trim]; exact (cmpN_eq rfl).symm), _, rfl⟩
  · have hq : ((n1 : Int) != (m1 : Int)) = true := by rw [bne_iff_ne]; omega
    go_enter Tryz.func119, Tryz.ntmps119
    go_wp2_with fail
    refine (limb_trimmed_at _ _ _ n1 xs _ _ ha Hn1.out).mono ?_
    rintro e w' ⟨rfl, rfl⟩
    go_wp2_with fail
    refine (limb_trimmed_at _ _ _ m1 ys _ _ hb Hm1.out).mono ?_
    rintro e w' ⟨rfl, rfl⟩
    go_wp2_with fail
    refine (compare_int _ _ _).mono ?_
    rintro e w' ⟨rfl, rfl⟩
    go_wp2_with fail
    go_ret
    refine ⟨ret_int ?_, 0, rfl⟩
    have := cmpN_length ha.lim hb.lim (by rw [Hn1.out, Hm1.out]; exact hne)
    rw [Hn1.out, Hm1.out] at this
    exact this
end Go.Proofs.YtogaallfhifngaaGreat

/- limb: Add. -/
namespace Go.Proofs.YtogaallfhifngaaGreat
open Go Go.RowKit

/-- behind k places: what lies in out, and the carry, are the sum of what lies there -/
def AddInv (xs ys os : List Nat) (k C : Nat) : Prop :=
  C ≤ 1 ∧ vl 4294967296 (os.take k) + 4294967296 ^ k * C = vl 4294967296 (xs.take k) + vl 4294967296 (ys.take k)
theorem AddInv.zero (xs ys os : List Nat) : AddInv xs ys os 0 0 := ⟨by omega, by simp [vl]⟩
theorem AddInv.le {xs ys os : List Nat} {k C : Nat} (h : AddInv xs ys os k C) : C ≤ 1 := h.1
theorem AddInv.step {xs ys os : List Nat} {k C : Nat} (h : AddInv xs ys os k C) (hk : k < os.length) (hx : Lim 4294967296 xs) (hy : Lim 4294967296 ys) :
    AddInv xs ys (os.set k ((nth xs k + nth ys k + C) % 4294967296)) (k + 1) ((nth xs k + nth ys k + C) / 4294967296) := by
  obtain ⟨h1, h2⟩ := h
  have x1 := hx.nth (by omega) k
  have y1 := hy.nth (by omega) k
  refine ⟨by omega, ?_⟩
  rw [vl_set_take _ _ hk, vl_take_nth, vl_take_nth, Nat.pow_succ]
  have e := Nat.mod_add_div (nth xs k + nth ys k + C) 4294967296
  generalize 4294967296 ^ k = p at *
  generalize (nth xs k + nth ys k + C) / 4294967296 = q at *
  generalize (nth xs k + nth ys k + C) % 4294967296 = r at *
  have e2 : p * (r + 4294967296 * q) = p * (nth xs k + nth ys k + C) := by rw [e]
  grind
theorem AddInv.end_ {xs ys os : List Nat} {n C : Nat} (h : AddInv xs ys os n C) (hos : os.length = n + 1) (hx : xs.length ≤ n) (hy : ys.length ≤ n) :
    vl 4294967296 (os.set n C) = vl 4294967296 xs + vl 4294967296 ys := by
  have h2 := h.2
  rw [vl_take_all _ hx, vl_take_all _ hy] at h2
  rw [← h2, ← vl_set_take _ C (by omega), vl_take_all]
  rw [List.length_set]; omega

set_option maxRecDepth 100000 in
set_option maxHeartbeats 1000000 in
theorem limb_Add_ge (A B : Option Addr) (n m c d : Nat) (xs ys : List Nat) (w : World) (ha : U32 w w.heap.size A n c xs) (hb : U32 w w.heap.size B m d ys) (hn : n ≤ 1099511627776) (hmn : m ≤ n) :
    Calls Tryz.prog 118 #[.slice A n c, .slice B m d] w (Out32 (dg 4294967296 (vl 4294967296 xs + vl 4294967296 ys)) w) := by
  have hlt' : ¬ n < m := by omega
  have Hx := Lib.hid ha.len
  have Hy := Lib.hid hb.len
  go_enter Tryz.func118, Tryz.ntmps118
  go_wp2_with (refine wpList_mk _ el32 rfl (.tmp 18) (.tmp 18) rfl .i64 .i64 _ _ (n + 1) rfl rfl (by omega) (by omega) (by omega) (by omega) ?_; intro w1 hown hb1 hz1)
  have hO := Own.made hown
  clear hown
  go_wp2_with fail
  go_loopw [6, 22] (fun cy i wr => ∃ (k C : Nat) (os : List Nat), k ≤ n ∧ i = .int .i64 (k : Int) ∧ cy = .int .u32 (C : Int) ∧ Own 104 wr w.heap.size (some ⟨w.heap.size, 0, none⟩) (n + 1) (n + 1) os ∧ AddInv xs ys os k C ∧ Below w.heap.size w wr ∧ w.heap.size < wr.heap.size) (fun _ i _ => n - (intOf i).toNat)
  case atStart => exact ⟨0, 0, _, Nat.zero_le _, rfl, rfl, hO, AddInv.zero _ _ _, hb1, hz1⟩
  case round =>
    obtain ⟨k, C, os, hk, rfl, rfl, hown, hI, hbw, hz⟩ := hrel
    have hC := hI.le
    by_cases hlt : k < n
    · obtain ⟨b, o, sp, rfl, hbb, hcc⟩ := (ha.below hbw).at_ hlt
      have ho1 := hown.cell (show k < n + 1 by omega)
      have ho2 := hown.frozen k
      have hx1 := ha.lim.nth (by omega) k
      have hy1 := hb.lim.nth (by omega) k
      have hset := hown.set k (v := (nth xs k + nth ys k + C) % 4294967296) (Nat.mod_lt _ (by omega))
      have hstep := hI.step (by rw [hown.len]; omega) ha.lim hb.lim
      by_cases hm : k < m
      · obtain ⟨b2, o2, sp2, rfl, hbb2, hcc2⟩ := (hb.below hbw).at_ hm
        go_wp2_with fail
        refine (bits_Add32 _ _ _ _ ?_ ?_ ?_ ?_ ?_ ?_).mono ?_ <;> try omega
        rintro e w' ⟨rfl, rfl⟩
        go_wp2_with fail
        go_roundw
        case rel => exact ⟨k + 1, _, _, by omega, by go_num, rfl, hset, hstep, hbw.setCell (Nat.le_refl _) _, by simpa using hz⟩
        case measure => simp [intOf]; omega
      · have hy0 : nth ys k = 0 := nth_out (by rw [Hy.out]; omega)
        rw [hy0] at hset hstep
        clear hy0
        go_wp2_with fail
        refine (bits_Add32 _ _ _ _ ?_ ?_ ?_ ?_ ?_ ?_).mono ?_ <;> try omega
        rintro e w' ⟨rfl, rfl⟩
        go_wp2_with fail
        go_roundw
        case rel => exact ⟨k + 1, _, _, by omega, by go_num, rfl, hset, hstep, hbw.setCell (Nat.le_refl _) _, by simpa using hz⟩
        case measure => simp [intOf]; omega
    · obtain rfl : k = n := by omega
      have ho1 := hown.cell (show k < k + 1 by omega)
      have ho2 := hown.frozen k
      have hset := hown.set k (v := C) (by omega)
      have hend := Lib.hid (hI.end_ hown.len (by rw [Hx.out]; exact Nat.le_refl _) (by rw [Hy.out]; omega))
      have hbe := hbw.setCell (p := ⟨w.heap.size, k, none⟩) (Nat.le_refl _) (.int .u32 (C : Int))
      clear hb1 hbw hI hown hz1
      go_wp2_with fail
      refine (limb_trimmed _ _ _ _ _ _ hset.u32).mono ?_
      rintro e w' ⟨rfl, rfl⟩
      go_wp2_with fail
      go_ret
      exact ⟨_, _, _, rfl, by rw [← hend.out, dg_vl (by omega) hset.lim]; exact hset.trim, hbe⟩

set_option maxRecDepth 100000 in
set_option maxHeartbeats 1000000 in
theorem limb_Add_lt (A B : Option Addr) (n m c d : Nat) (xs ys : List Nat) (w : World) (ha : U32 w w.heap.size A n c xs) (hb : U32 w w.heap.size B m d ys) (hm : m ≤ 1099511627776) (hmn : n < m) :
    Calls Tryz.prog 118 #[.slice A n c, .slice B m d] w (Out32 (dg 4294967296 (vl 4294967296 xs + vl 4294967296 ys)) w) := by
  have hlt' : n < m := by omega
  have Hx := Lib.hid hb.len
  have Hy := Lib.hid ha.len
  go_enter Tryz.func118, Tryz.ntmps118
  go_wp2_with (refine wpList_mk _ el32 rfl (.tmp 18) (.tmp 18) rfl .i64 .i64 _ _ (m + 1) rfl rfl (by omega) (by omega) (by omega) (by omega) ?_; intro w1 hown hb1 hz1)
  have hO := Own.made hown
  clear hown
  go_wp2_with fail
  go_loopw [6, 22] (fun cy i wr => ∃ (k C : Nat) (os : List Nat), k ≤ m ∧ i = .int .i64 (k : Int) ∧ cy = .int .u32 (C : Int) ∧ Own 104 wr w.heap.size (some ⟨w.heap.size, 0, none⟩) (m + 1) (m + 1) os ∧ AddInv ys xs os k C ∧ Below w.heap.size w wr ∧ w.heap.size < wr.heap.size) (fun _ i _ => m - (intOf i).toNat)
  case atStart => exact ⟨0, 0, _, Nat.zero_le _, rfl, rfl, hO, AddInv.zero _ _ _, hb1, hz1⟩
  case round =>
    obtain ⟨k, C, os, hk, rfl, rfl, hown, hI, hbw, hz⟩ := hrel
    have hC := hI.le
    by_cases hlt : k < m
    · obtain ⟨b, o, sp, rfl, hbb, hcc⟩ := (hb.below hbw).at_ hlt
      have ho1 := hown.cell (show k < m + 1 by omega)
      have ho2 := hown.frozen k
      have hx1 := hb.lim.nth (by omega) k
      have hy1 := ha.lim.nth (by omega) k
      have hset := hown.set k (v := (nth ys k + nth xs k + C) % 4294967296) (Nat.mod_lt _ (by omega))
      have hstep := hI.step (by rw [hown.len]; omega) hb.lim ha.lim
      by_cases hm : k < n
      · obtain ⟨b2, o2, sp2, rfl, hbb2, hcc2⟩ := (ha.below hbw).at_ hm
        go_wp2_with fail
        refine (bits_Add32 _ _ _ _ ?_ ?_ ?_ ?_ ?_ ?_).mono ?_ <;> try omega
        rintro e w' ⟨rfl, rfl⟩
        go_wp2_with fail
        go_roundw
        case rel => exact ⟨k + 1, _, _, by omega, by go_num, rfl, hset, hstep, hbw.setCell (Nat.le_refl _) _, by simpa using hz⟩
        case measure => simp [intOf]; omega
      · have hy0 : nth xs k = 0 := nth_out (by rw [Hy.out]; omega)
        rw [hy0] at hset hstep
        clear hy0
        go_wp2_with fail
        refine (bits_Add32 _ _ _ _ ?_ ?_ ?_ ?_ ?_ ?_).mono ?_ <;> try omega
        rintro e w' ⟨rfl, rfl⟩
        go_wp2_with fail
        go_roundw
        case rel => exact ⟨k + 1, _, _, by omega, by go_num, rfl, hset, hstep, hbw.setCell (Nat.le_refl _) _, by simpa using hz⟩
        case measure => simp [intOf]; omega
    · obtain rfl : k = m := by omega
      have ho1 := hown.cell (show k < k + 1 by omega)
      have ho2 := hown.frozen k
      have hset := hown.set k (v := C) (by omega)
      have hend := Lib.hid (hI.end_ hown.len (by rw [Hx.out]; exact Nat.le_refl _) (by rw [Hy.out]; omega))
      have hbe := hbw.setCell (p := ⟨w.heap.size, k, none⟩) (Nat.le_refl _) (.int .u32 (C : Int))
      clear hb1 hbw hI hown hz1
      go_wp2_with fail
      refine (limb_trimmed _ _ _ _ _ _ hset.u32).mono ?_
      rintro e w' ⟨rfl, rfl⟩
      go_wp2_with fail
      go_ret
      exact ⟨_, _, _, rfl, by rw [Nat.add_comm (vl 4294967296 xs) (vl 4294967296 ys), ← hend.out, dg_vl (by omega) hset.lim]; exact hset.trim, hbe⟩

theorem limb_Add (A B : Option Addr) (n m c d : Nat) (xs ys : List Nat) (w : World) (ha : U32 w w.heap.size A n c xs) (hb : U32 w w.heap.size B m d ys) (hn : n ≤ 1099511627776) (hm : m ≤ 1099511627776) :
    Calls Tryz.prog 118 #[.slice A n c, .slice B m d] w (Out32 (dg 4294967296 (vl 4294967296 xs + vl 4294967296 ys)) w) := by
  by_cases h : m ≤ n
  · exact limb_Add_ge A B n m c d xs ys w ha hb hn h
  · exact limb_Add_lt A B n m c d xs ys w ha hb hm (by omega)
end Go.Proofs.YtogaallfhifngaaGreat

/- limb: Sub, MulSmall, DivSmall. -/
namespace Go.Proofs.YtogaallfhifngaaGreat
open Go Go.RowKit

def lo32 (n : Nat) : Nat := n % 4294967296
def hi32 (n : Nat) : Nat := n / 4294967296
theorem lo_lt (n : Nat) : lo32 n < 4294967296 := Nat.mod_lt _ (by omega)
theorem lo_hi (n : Nat) : lo32 n + 4294967296 * hi32 n = n := Nat.mod_add_div n 4294967296
theorem hi_lt {n : Nat} (h : n < 18446744073709551616) : hi32 n < 4294967296 := by unfold hi32; omega
def subS (x y c : Nat) : Nat := (x + 8589934592 - y - c) % 4294967296
def subC (x y c : Nat) : Nat := if x < y + c then 1 else 0
theorem subS_lt (x y c : Nat) : subS x y c < 4294967296 := Nat.mod_lt _ (by omega)
theorem subC_le (x y c : Nat) : subC x y c ≤ 1 := by unfold subC; split <;> omega
theorem sub_eq {x y c : Nat} (hx : x < 4294967296) (hy : y < 4294967296) (hc : c ≤ 1) : subS x y c + y + c = x + 4294967296 * subC x y c := by
  unfold subS subC; split <;> omega

theorem bits_Add32N (x y c : Nat) (w : World) (x1 : x < 4294967296) (y1 : y < 4294967296) (c1 : c < 4294967296) :
    Calls Tryz.prog 131 #[.int .u32 (x : Int), .int .u32 (y : Int), .int .u32 (c : Int)] w fun e w' =>
      e = .returned (.tuple #[.int .u32 (lo32 (x + y + c) : Nat), .int .u32 (hi32 (x + y + c) : Nat)]) ∧ w = w' :=
  (bits_Add32 _ _ _ w (by omega) (by omega) (by omega) (by omega) (by omega) (by omega)).mono fun _ _ ⟨h1, h2⟩ => ⟨h1, h2⟩
theorem bits_Mul32N (x y : Nat) (w : World) (x1 : x < 4294967296) (y1 : y < 4294967296) :
    Calls Tryz.prog 145 #[.int .u32 (x : Int), .int .u32 (y : Int)] w fun e w' =>
      e = .returned (.tuple #[.int .u32 (hi32 (x * y) : Nat), .int .u32 (lo32 (x * y) : Nat)]) ∧ w = w' :=
  (bits_Mul32 _ _ w (by omega) (by omega) (by omega) (by omega)).mono fun _ _ ⟨h1, h2⟩ => ⟨h1, h2⟩
theorem bits_Sub32N (x y c : Nat) (w : World) (x1 : x < 4294967296) (y1 : y < 4294967296) (c1 : c ≤ 1) :
    Calls Tryz.prog 134 #[.int .u32 (x : Int), .int .u32 (y : Int), .int .u32 (c : Int)] w fun e w' =>
      e = .returned (.tuple #[.int .u32 (subS x y c : Nat), .int .u32 (subC x y c : Nat)]) ∧ w = w' := by
  have e1 : ((subS x y c : Nat) : Int) = ((x : Int) - y - c) % 4294967296 := by unfold subS; omega
  have e2 : ((subC x y c : Nat) : Int) = subB x y c := by unfold subC subB; split <;> split <;> omega
  rw [e1, e2]
  exact bits_Sub32 _ _ _ w (by omega) (by omega) (by omega) (by omega) (by omega) (by omega)
theorem bits_Div32N (h l d : Nat) (w : World) (hd : h < d) (l1 : l < 4294967296) (d1 : d < 4294967296) :
    Calls Tryz.prog 136 #[.int .u32 (h : Int), .int .u32 (l : Int), .int .u32 (d : Int)] w fun e w' =>
      e = .returned (.tuple #[.int .u32 ((h * 4294967296 + l) / d : Nat), .int .u32 ((h * 4294967296 + l) % d : Nat)]) ∧ ∃ n, w' = w.drewN n :=
  (bits_Div32 _ _ _ w (by omega) (by omega) (by omega) (by omega) (by omega)).mono fun _ _ ⟨h1, h2⟩ => ⟨h1, h2⟩

/-- behind k places: out and b are a, and the borrow; beyond, out is a -/
def SubInv (xs ys os : List Nat) (k C : Nat) : Prop :=
  C ≤ 1 ∧ os.length = xs.length ∧ vl 4294967296 (os.take k) + vl 4294967296 (ys.take k) = vl 4294967296 (xs.take k) + 4294967296 ^ k * C ∧ ∀ j, k ≤ j → nth os j = nth xs j
theorem SubInv.zero (xs ys : List Nat) : SubInv xs ys xs 0 0 := ⟨by omega, rfl, by simp [vl], fun _ _ => rfl⟩
theorem SubInv.le {xs ys os : List Nat} {k C : Nat} (h : SubInv xs ys os k C) : C ≤ 1 := h.1
theorem SubInv.at_ {xs ys os : List Nat} {k C : Nat} (h : SubInv xs ys os k C) : nth os k = nth xs k := h.2.2.2 k (Nat.le_refl _)
theorem nth_set_ne {l : List Nat} {i j v : Nat} (h : i ≠ j) : nth (l.set i v) j = nth l j := by
  unfold nth; rw [List.getD_eq_getElem?_getD, List.getD_eq_getElem?_getD, List.getElem?_set_ne h]
theorem nth_set_eq {l : List Nat} {i v : Nat} (h : i < l.length) : nth (l.set i v) i = v := by
  rw [nth_get (by rw [List.length_set]; exact h), List.getElem_set_self]
theorem SubInv.step {xs ys os : List Nat} {k C : Nat} (h : SubInv xs ys os k C) (hk : k < xs.length) (hx : Lim 4294967296 xs) (hy : Lim 4294967296 ys) :
    SubInv xs ys (os.set k (subS (nth xs k) (nth ys k) C)) (k + 1) (subC (nth xs k) (nth ys k) C) := by
  obtain ⟨h1, hl, h2, h3⟩ := h
  have x1 := hx.nth (by omega) k
  have y1 := hy.nth (by omega) k
  have e := sub_eq x1 y1 h1
  refine ⟨subC_le _ _ _, by rw [List.length_set, hl], ?_, fun j hj => by rw [nth_set_ne (by omega)]; exact h3 j (by omega)⟩
  rw [vl_set_take _ _ (by omega), vl_take_nth, vl_take_nth, Nat.pow_succ]
  generalize 4294967296 ^ k = p at *
  generalize subS (nth xs k) (nth ys k) C = s at *
  generalize subC (nth xs k) (nth ys k) C = q at *
  have e2 : p * (s + nth ys k + C) = p * (nth xs k + 4294967296 * q) := by rw [e]
  grind
theorem SubInv.end_ {xs ys os : List Nat} {C : Nat} (h : SubInv xs ys os xs.length C) (ho : Lim 4294967296 os) (hy : ys.length ≤ xs.length) (hle : vl 4294967296 ys ≤ vl 4294967296 xs) :
    vl 4294967296 os = vl 4294967296 xs - vl 4294967296 ys := by
  obtain ⟨h1, hl, h2, _⟩ := h
  rw [vl_take_all _ hy, vl_take_all _ (Nat.le_refl _), vl_take_all _ (by omega)] at h2
  have := vl_lt ho
  rw [hl] at this
  have hC : C = 0 ∨ C = 1 := by omega
  rcases hC with rfl | rfl
  · omega
  · omega

/-- behind k places of a product with a limb -/
def MulInv (xs os : List Nat) (m k C : Nat) : Prop := C < 4294967296 ∧ vl 4294967296 (os.take k) + 4294967296 ^ k * C = vl 4294967296 (xs.take k) * m
theorem MulInv.zero (xs os : List Nat) (m : Nat) : MulInv xs os m 0 0 := ⟨by omega, by simp [vl]⟩
theorem MulInv.lt {xs os : List Nat} {m k C : Nat} (h : MulInv xs os m k C) : C < 4294967296 := h.1
theorem mul_le {x m C : Nat} (hx : x < 4294967296) (hm : m < 4294967296) (hC : C < 4294967296) : x * m + C ≤ 18446744069414584320 := by
  have : x * m ≤ 4294967295 * 4294967295 := Nat.mul_le_mul (by omega) (by omega)
  omega
theorem hi_carry {x m C : Nat} (hx : x < 4294967296) (hm : m < 4294967296) (hC : C < 4294967296) :
    hi32 (x * m) + hi32 (lo32 (x * m) + C) = hi32 (x * m + C) ∧ lo32 (lo32 (x * m) + C) = lo32 (x * m + C) ∧ hi32 (x * m + C) < 4294967296 := by
  have := mul_le hx hm hC
  unfold hi32 lo32
  omega
theorem MulInv.step {xs os : List Nat} {m k C : Nat} (h : MulInv xs os m k C) (hk : k < os.length) (hx : Lim 4294967296 xs) (hm : m < 4294967296) :
    MulInv xs (os.set k (lo32 (nth xs k * m + C))) m (k + 1) (hi32 (nth xs k * m + C)) := by
  obtain ⟨h1, h2⟩ := h
  have x1 := hx.nth (by omega) k
  refine ⟨(hi_carry x1 hm h1).2.2, ?_⟩
  rw [vl_set_take _ _ hk, vl_take_nth, Nat.pow_succ]
  have e := lo_hi (nth xs k * m + C)
  generalize 4294967296 ^ k = p at *
  generalize lo32 (nth xs k * m + C) = s at *
  generalize hi32 (nth xs k * m + C) = q at *
  have e2 : p * (s + 4294967296 * q) = p * (nth xs k * m + C) := by rw [e]
  grind
theorem MulInv.end_ {xs os : List Nat} {m n C : Nat} (h : MulInv xs os m n C) (hos : os.length = n + 1) (hx : xs.length ≤ n) :
    vl 4294967296 (os.set n C) = vl 4294967296 xs * m := by
  have h2 := h.2
  rw [vl_take_all _ hx] at h2
  rw [← h2, ← vl_set_take _ C (by omega), vl_take_all]
  rw [List.length_set]; omega

/-- from k on: out is how often the limb goes in, r what is left; below, out is a -/
def DivInv (xs os : List Nat) (d k r : Nat) : Prop :=
  r < d ∧ os.length = xs.length ∧ vl 4294967296 (os.drop k) * d + r = vl 4294967296 (xs.drop k) ∧ ∀ j, j < k → nth os j = nth xs j
theorem DivInv.top (xs : List Nat) {d : Nat} (hd : 0 < d) : DivInv xs xs d xs.length 0 := ⟨hd, rfl, by simp [vl], fun _ _ => rfl⟩
theorem DivInv.lt {xs os : List Nat} {d k r : Nat} (h : DivInv xs os d k r) : r < d := h.1
theorem DivInv.at_ {xs os : List Nat} {d k r : Nat} (h : DivInv xs os d k r) (h0 : 0 < k) : nth os (k - 1) = nth xs (k - 1) := h.2.2.2 _ (by omega)
theorem vl_drop_step (B : Nat) {l : List Nat} {k : Nat} (h0 : 0 < k) (h : k ≤ l.length) : vl B (l.drop (k - 1)) = nth l (k - 1) + B * vl B (l.drop k) := by
  have e := List.drop_eq_getElem_cons (show k - 1 < l.length by omega)
  rw [show k - 1 + 1 = k from by omega] at e
  rw [e, vl_cons, nth_get]
theorem DivInv.step {xs os : List Nat} {d k r : Nat} (h : DivInv xs os d k r) (h0 : 0 < k) (hk : k ≤ xs.length) (hd : 0 < d) :
    DivInv xs (os.set (k - 1) ((r * 4294967296 + nth xs (k - 1)) / d)) d (k - 1) ((r * 4294967296 + nth xs (k - 1)) % d) := by
  obtain ⟨h1, hl, h2, h3⟩ := h
  refine ⟨Nat.mod_lt _ hd, by rw [List.length_set, hl], ?_, fun j hj => by rw [nth_set_ne (by omega)]; exact h3 j (by omega)⟩
  rw [vl_drop_step _ h0 (by rw [List.length_set]; omega), vl_drop_step _ h0 hk, nth_set_eq (by omega), List.drop_set_of_lt (by omega)]
  have e := Nat.div_add_mod (r * 4294967296 + nth xs (k - 1)) d
  generalize (r * 4294967296 + nth xs (k - 1)) / d = q at *
  generalize (r * 4294967296 + nth xs (k - 1)) % d = s at *
  grind
theorem DivInv.end_ {xs os : List Nat} {d r : Nat} (h : DivInv xs os d 0 r) (hd : 0 < d) : vl 4294967296 os = vl 4294967296 xs / d ∧ r = vl 4294967296 xs % d := by
  obtain ⟨h1, _, h2, _⟩ := h
  simp only [List.drop_zero] at h2
  have e : vl 4294967296 xs = r + d * vl 4294967296 os := by rw [← h2, Nat.mul_comm]; omega
  rw [e, Nat.add_mul_div_left _ _ hd, Nat.add_mul_mod_self_left, Nat.div_eq_of_lt h1, Nat.mod_eq_of_lt h1]
  exact ⟨by omega, rfl⟩
end Go.Proofs.YtogaallfhifngaaGreat

/- limb: Sub, MulSmall, DivSmall: the walks. -/
namespace Go.Proofs.YtogaallfhifngaaGreat
open Go Go.RowKit

set_option maxRecDepth 100000 in
set_option maxHeartbeats 1000000 in
theorem limb_MulSmall (A : Option Addr) (n c m : Nat) (xs : List Nat) (w : World) (ha : U32 w w.heap.size A n c xs) (hn : n ≤ 1099511627776) (hm : m < 4294967296) :
    Calls Tryz.prog 144 #[.slice A n c, .int .u32 (m : Int)] w (Out32 (dg 4294967296 (vl 4294967296 xs * m)) w) := by
  have Hx := Lib.hid ha.len
  go_enter Tryz.func144, Tryz.ntmps144
  go_wp2_with (refine wpList_mk _ el32 rfl (.tmp 15) (.tmp 15) rfl .i64 .i64 _ _ (n + 1) rfl rfl (by omega) (by omega) (by omega) (by omega) ?_; intro w1 hown hb1 hz1)
  have hO := Own.made hown
  clear hown
  go_wp2_with fail
  go_loopw [6, 19] (fun cy i wr => ∃ (k C : Nat) (os : List Nat), k ≤ n ∧ i = .int .i64 (k : Int) ∧ cy = .int .u32 (C : Int) ∧ Own 104 wr w.heap.size (some ⟨w.heap.size, 0, none⟩) (n + 1) (n + 1) os ∧ MulInv xs os m k C ∧ Below w.heap.size w wr ∧ w.heap.size < wr.heap.size) (fun _ i _ => n - (intOf i).toNat)
  case atStart => exact ⟨0, 0, _, Nat.zero_le _, rfl, rfl, hO, MulInv.zero _ _ _, hb1, hz1⟩
  case round =>
    obtain ⟨k, C, os, hk, rfl, rfl, hown, hI, hbw, hz⟩ := hrel
    have hC := hI.lt
    by_cases hlt : k < n
    · obtain ⟨b, o, sp, rfl, hbb, hcc⟩ := (ha.below hbw).at_ hlt
      have ho1 := hown.cell (show k < n + 1 by omega)
      have ho2 := hown.frozen k
      have hx1 := ha.lim.nth (by omega) k
      obtain ⟨e1, e2, e3⟩ := hi_carry hx1 hm hC
      have hset := hown.set k (v := lo32 (nth xs k * m + C)) (lo_lt _)
      rw [← e2] at hset
      have hstep := hI.step (by rw [hown.len]; omega) ha.lim hm
      rw [← e2] at hstep
      rw [← e1] at e3 hstep
      clear e1 e2
      have hl1 := lo_lt (nth xs k * m)
      go_wp2_with fail
      refine (bits_Mul32N _ _ _ hx1 hm).mono ?_
      rintro e w' ⟨rfl, rfl⟩
      go_wp2_with fail
      refine (bits_Add32N _ _ 0 _ (lo_lt _) hC (by omega)).mono ?_
      rintro e w' ⟨rfl, rfl⟩
      rw [Nat.add_zero]
      go_wp2_with fail
      go_roundw
      case rel => exact ⟨k + 1, _, _, by omega, by go_num, by go_num, hset, hstep, hbw.setCell (Nat.le_refl _) _, by simpa using hz⟩
      case measure => simp [intOf]; omega
    · obtain rfl : k = n := by omega
      have ho1 := hown.cell (show k < k + 1 by omega)
      have ho2 := hown.frozen k
      have hset := hown.set k (v := C) (by omega)
      have hend := Lib.hid (hI.end_ hown.len (by rw [Hx.out]; exact Nat.le_refl _))
      have hbe := hbw.setCell (p := ⟨w.heap.size, k, none⟩) (Nat.le_refl _) (.int .u32 (C : Int))
      clear hb1 hbw hI hown hz1
      go_wp2_with fail
      refine (limb_trimmed _ _ _ _ _ _ hset.u32).mono ?_
      rintro e w' ⟨rfl, rfl⟩
      go_wp2_with fail
      go_ret
      exact ⟨_, _, _, rfl, by rw [← hend.out, dg_vl (by omega) hset.lim]; exact hset.trim, hbe⟩

/-- a new []uint32, a limb, an error's number -/
def Out32L (xs : List Nat) (r e1 : Nat) (w : World) (e : Ending) (w' : World) : Prop :=
  ∃ A n c, e = .returned (.tuple #[.slice A n c, .int .u32 (r : Int), .int .i64 (e1 : Int)]) ∧ Own 104 w' w.heap.size A n c xs ∧ Below w.heap.size w w'

set_option maxRecDepth 100000 in
set_option maxHeartbeats 1000000 in
theorem limb_DivSmall (A : Option Addr) (n c d : Nat) (xs : List Nat) (w : World) (ha : U32 w w.heap.size A n c xs) (hn : n ≤ 1099511627776) (hd0 : 0 < d) (hd : d < 4294967296) :
    Calls Tryz.prog 126 #[.slice A n c, .int .u32 (d : Int)] w (Out32L (dg 4294967296 (vl 4294967296 xs / d)) (vl 4294967296 xs % d) 0 w) := by
  have Hx := Lib.hid ha.len
  have hne : ((d : Int) == 0) = false := by rw [beq_eq_false_iff_ne]; omega
  go_enter Tryz.func126, Tryz.ntmps126
  go_wp2_with fail
  refine (clone32 _ _ _ xs _ ha hn).mono ?_
  rintro e w1 ⟨A1, n1, c1, rfl, hO, hb1⟩
  obtain rfl : n1 = n := by rw [← hO.len, Hx.out]
  go_wp2_with fail
  go_loopw [5, 7] (fun r i wr => ∃ (k R : Nat) (os : List Nat), k ≤ n1 ∧ i = .int .i64 ((k : Int) - 1) ∧ r = .int .u32 (R : Int) ∧ Own 104 wr w.heap.size A1 n1 c1 os ∧ DivInv xs os d k R ∧ Below w.heap.size w wr) (fun _ i _ => (intOf i + 1).toNat)
  case atStart => exact ⟨n1, 0, xs, Nat.le_refl _, by go_num, rfl, hO, by have := DivInv.top xs hd0; rwa [Hx.out] at this, hb1⟩
  case round =>
    obtain ⟨k, R, os, hk, rfl, rfl, hown, hI, hbw⟩ := hrel
    have hR := hI.lt
    by_cases h0 : 0 < k
    · obtain ⟨g, rfl, hg1, hg2⟩ := hown.form (by omega)
      have ho1 := hown.cell (show k - 1 < n1 by omega)
      rw [hI.at_ h0] at ho1
      have ho2 := hown.frozen (k - 1)
      have hx1 := ha.lim.nth (by omega) (k - 1)
      have hq : (R * 4294967296 + nth xs (k - 1)) / d < 4294967296 := by
        apply Nat.div_lt_of_lt_mul
        have : (R + 1) * 4294967296 ≤ d * 4294967296 := Nat.mul_le_mul_right _ (by omega)
        omega
      have hset := fun q => (hown.drewN q).set (k - 1) hq
      have hstep := hI.step h0 (by rw [Hx.out]; exact hk) hd0
      go_wp2_with fail
      refine (bits_Div32N _ _ _ _ hR hx1 hd).mono ?_
      rintro e w' ⟨rfl, q, rfl⟩
      go_wp2_with fail
      go_roundw
      case rel => exact ⟨k - 1, _, _, by omega, by go_num, rfl, hset q, hstep, (below_drewN hbw _).setCell hg1 _⟩
      case measure => simp [intOf]; omega
    · obtain rfl : k = 0 := by omega
      obtain ⟨h1, h2⟩ := hI.end_ hd0
      have H1 := Lib.hid h1
      have H2 := Lib.hid h2
      clear h1 h2
      go_wp2_with fail
      refine (limb_trimmed _ _ _ _ _ _ hown.u32).mono ?_
      rintro e w' ⟨rfl, rfl⟩
      go_wp2_with fail
      go_ret3
      exact ⟨_, _, _, by rw [← H2.out]; rfl, by rw [← H1.out, dg_vl (by omega) hown.lim]; exact hown.trim, hbw⟩
end Go.Proofs.YtogaallfhifngaaGreat

/- limb: Sub, left, right. -/
namespace Go.Proofs.YtogaallfhifngaaGreat
open Go Go.RowKit

/-- a new []uint32, an error's number -/
def Out32E (xs : List Nat) (e1 : Nat) (w : World) (e : Ending) (w' : World) : Prop :=
  ∃ A n c, e = .returned (.tuple #[.slice A n c, .int .i64 (e1 : Int)]) ∧ Own 104 w' w.heap.size A n c xs ∧ Below w.heap.size w w'

theorem Own.drew_base {t : TypeId} {w : World} {base n c : Nat} {A : Option Addr} {xs : List Nat} {k : Nat} (h : Own t w base A n c xs) : Own t (w.drewN k) base A n c xs := ⟨h.row, h.lim⟩

set_option maxRecDepth 100000 in
set_option maxHeartbeats 1000000 in
theorem limb_Sub (A B : Option Addr) (n m c d : Nat) (xs ys : List Nat) (w : World) (ha : U32 w w.heap.size A n c xs) (hb : U32 w w.heap.size B m d ys) (hn : n ≤ 1099511627776) (hle : vl 4294967296 ys ≤ vl 4294967296 xs) :
    Calls Tryz.prog 120 #[.slice A n c, .slice B m d] w (Out32E (dg 4294967296 (vl 4294967296 xs - vl 4294967296 ys)) 0 w) := by
  have ha1 := ha.trim
  have hb1 := hb.trim
  have htl := trim_length xs
  rw [ha.len] at htl
  obtain ⟨n1, hn1⟩ : ∃ n1, (trim xs).length = n1 := ⟨_, rfl⟩
  obtain ⟨m1, hm1⟩ : ∃ m1, (trim ys).length = m1 := ⟨_, rfl⟩
  have hyx : m1 ≤ n1 := by
    rcases Nat.lt_or_ge n1 m1 with h | h
    · have := vl_lt_of_length (B := 4294967296) (by omega) ha.lim.trim (trim_trim ys) (by omega)
      rw [vl_trim, vl_trim] at this
      omega
    · exact h
  rw [hn1] at ha1 htl
  rw [hm1] at hb1
  have Hn1 := Lib.hid hn1
  have Hm1 := Lib.hid hm1
  clear hn1 hm1
  have hge : ¬ cmpN (vl 4294967296 (trim xs)) (vl 4294967296 (trim ys)) < 0 := by
    rw [vl_trim, vl_trim]
    rcases Nat.lt_or_ge (vl 4294967296 ys) (vl 4294967296 xs) with h | h
    · rw [cmpN_gt h]; omega
    · rw [cmpN_eq (by omega)]; omega
  go_enter Tryz.func120, Tryz.ntmps120
  go_wp2_with fail
  refine (limb_trimmed_at _ _ _ n1 _ _ _ ha Hn1.out).mono ?_
  rintro e w' ⟨rfl, rfl⟩
  go_wp2_with fail
  refine (limb_trimmed_at _ _ _ m1 _ _ _ hb Hm1.out).mono ?_
  rintro e w' ⟨rfl, rfl⟩
  go_wp2_with fail
  refine (limb_Cmp _ _ _ _ _ _ _ _ _ _ ha1 hb1).mono ?_
  rintro e w' ⟨rfl, q, rfl⟩
  go_wp2_with fail
  refine (clone32 _ _ _ (trim xs) (w.drewN q) (ha1.below (below_drewN (Below.refl _ _) q)) (by omega)).mono ?_
  rintro e w1 ⟨A1, n2, c1, rfl, hO, hbw1⟩
  obtain rfl : n2 = n1 := by rw [← hO.len, Hn1.out]
  have hbw2 : Below w.heap.size w w1 := (below_drewN (Below.refl _ _) q).trans hbw1
  clear hbw1
  go_wp2_with fail
  go_loopw [7, 22] (fun cy i wr => ∃ (k C : Nat) (os : List Nat), k ≤ n2 ∧ i = .int .i64 (k : Int) ∧ cy = .int .u32 (C : Int) ∧ Own 104 wr w.heap.size A1 n2 c1 os ∧ SubInv (trim xs) (trim ys) os k C ∧ Below w.heap.size w wr) (fun _ i _ => n2 - (intOf i).toNat)
  case atStart => exact ⟨0, 0, _, Nat.zero_le _, rfl, rfl, hO, SubInv.zero _ _, hbw2⟩
  case round =>
    obtain ⟨k, C, os, hk, rfl, rfl, hown, hI, hbw⟩ := hrel
    have hC := hI.le
    by_cases hlt : k < n2
    · obtain ⟨g, rfl, hg1, hg2⟩ := hown.form (by omega)
      have ho1 := hown.cell hlt
      rw [hI.at_] at ho1
      have ho2 := hown.frozen k
      have hx1 := ha1.lim.nth (by omega) k
      have hy1 := hb1.lim.nth (by omega) k
      have hset := hown.set k (v := subS (nth (trim xs) k) (nth (trim ys) k) C) (subS_lt _ _ _)
      have hstep := hI.step (by rw [Hn1.out]; exact hlt) ha1.lim hb1.lim
      by_cases hm : k < m1
      · obtain ⟨b2, o2, sp2, rfl, hbb2, hcc2⟩ := (hb1.below hbw).at_ hm
        go_wp2_with fail
        refine (bits_Sub32N _ _ _ _ hx1 hy1 hC).mono ?_
        rintro e w' ⟨rfl, rfl⟩
        go_wp2_with fail
        go_roundw
        case rel => exact ⟨k + 1, _, _, by omega, by go_num, rfl, hset, hstep, hbw.setCell hg1 _⟩
        case measure => simp [intOf]; omega
      · have hy0 : nth (trim ys) k = 0 := nth_out (by rw [Hm1.out]; omega)
        rw [hy0] at hset hstep
        clear hy0
        go_wp2_with fail
        refine (bits_Sub32N _ 0 _ _ hx1 (by omega) hC).mono ?_
        rintro e w' ⟨rfl, rfl⟩
        go_wp2_with fail
        go_roundw
        case rel => exact ⟨k + 1, _, _, by omega, by go_num, rfl, hset, hstep, hbw.setCell hg1 _⟩
        case measure => simp [intOf]; omega
    · obtain rfl : k = n2 := by omega
      have hend := hI
      rw [← Hn1.out] at hend
      have hend2 := Lib.hid (hend.end_ hown.lim (by rw [Hn1.out, Hm1.out]; exact hyx) (by rw [vl_trim, vl_trim]; exact hle))
      clear hend
      go_wp2_with fail
      refine (limb_trimmed _ _ _ _ _ _ hown.u32).mono ?_
      rintro e w' ⟨rfl, rfl⟩
      go_wp2_with fail
      go_ret2
      exact ⟨_, _, _, rfl, by rw [← vl_trim 4294967296 xs, ← vl_trim 4294967296 ys, ← hend2.out, dg_vl (by omega) hown.lim]; exact hown.trim, hbw⟩
end Go.Proofs.YtogaallfhifngaaGreat

