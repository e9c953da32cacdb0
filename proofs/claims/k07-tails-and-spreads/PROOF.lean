import PyProof.Rows.All
import Wide.All
import OpenK.AllK
import Wide.FinOn
import HandS.ForMost
import HandS.Walk
import HandS.SlotsOwn
import HandS.TupAny
import HandS.Style
import HandS.Gcd
import HandS.Deep
import HandS.Replace
import KE.KMathGC
import KE.KOpsOwn
import HandS.Wide
import PyProof.InstEq
import OpenK.KWalk
import OpenK.KMake
import HandS.Flt
import HandS.IsInst
import HandS.SortInts
import KE.GoesNew
import KE.GoesEnum
import HandS.SetFor
import HandS.Strs
import HandS.Conv
import KE.RegKIsAll
import PySem.Challenge.RW_nothingmadeup_k07_tails_and_spreads
set_option Elab.async false
set_option linter.all false
set_option maxRecDepth 100000
/-! Vg: values without a heap, and what they are in a heap -/
namespace Vg
open PySem L2

/-- a value, whole -/
inductive DV where
  | non | bl (b : Bool) | int (i : Int) | str (s : List Nat)
  | lst (xs : List DV) | tup (xs : List DV) | ins (c : Nat) (vs : List DV)
  /-- a list of ints that may stand in the written part: what the law gets -/
  | scr (ns : List Int)

/-- what is fixed: the written part, where each class stands, the names of its attributes in the order of their first store -/
structure Sg where
  K : PySem.W.Frag
  cls : Nat → Addr
  fnames : Nat → List Str

mutual
inductive Rep (S : Sg) (H : Hp) : DV → V → Prop where
  | non : Rep S H .non .non
  | bl {b} : Rep S H (.bl b) (.bl b)
  | int {i} : Rep S H (.int i) (.int i)
  | str {s : List Nat} : Rep S H (.str s) (.str ⟨s.toArray⟩)
  | lst {a ds vs} : Rd H a (.lst vs) → Reps S H ds vs → Rep S H (.lst ds) (.ref a)
  | tup {a ds vs} : SqT S.K H a vs → Reps S H ds vs → Rep S H (.tup ds) (.ref a)
  | ins {a c dx ds} {fs : List (Str × V)} : H a = some (.ins (S.cls c) dx fs) → fs.map (·.1) = S.fnames c → Reps S H ds (fs.map (·.2)) → Rep S H (.ins c ds) (.ref a)
  | scr {a ns} : SqL S.K H a (ns.map V.int) → Rep S H (.scr ns) (.ref a)
inductive Reps (S : Sg) (H : Hp) : List DV → List V → Prop where
  | nil : Reps S H [] []
  | cons {d v ds vs} : Rep S H d v → Reps S H ds vs → Reps S H (d :: ds) (v :: vs)
end

theorem same_t {K : PySem.W.Frag} {H H' : Hp} {a : Addr} {xs : List V} (e : Same H H') (h : SqT K H a xs) : SqT K H' a xs := by
  rcases h with (h | ⟨o, h⟩) | h
  · exact .inl (.inl (e _ _ h))
  · exact .inl (.inr ⟨o, e _ _ h⟩)
  · exact .inr h

theorem same_rd {H H' : Hp} {a : Addr} {o : HO} (e : Same H H') (h : Rd H a o) : Rd H' a o := by
  rcases h with h | ⟨u, h⟩
  · exact .inl (e _ _ h)
  · exact .inr ⟨u, e _ _ h⟩

theorem same_l {K : PySem.W.Frag} {H H' : Hp} {a : Addr} {xs : List V} (e : Same H H') (h : SqL K H a xs) : SqL K H' a xs := by
  rcases h with h | h
  · exact .inl (same_rd e h)
  · exact .inr h

mutual
theorem Rep.mono {S : Sg} {H H' : Hp} (e : Same H H') : ∀ {d : DV} {v : V}, Rep S H d v → Rep S H' d v
  | _, _, .non => .non
  | _, _, .bl => .bl
  | _, _, .int => .int
  | _, _, .str => .str
  | _, _, .lst h r => .lst (same_rd e h) (Reps.mono e r)
  | _, _, .tup h r => .tup (same_t e h) (Reps.mono e r)
  | _, _, .ins h n r => .ins (e _ _ h) n (Reps.mono e r)
  | _, _, .scr h => .scr (same_l e h)
theorem Reps.mono {S : Sg} {H H' : Hp} (e : Same H H') : ∀ {ds : List DV} {vs : List V}, Reps S H ds vs → Reps S H' ds vs
  | _, _, .nil => .nil
  | _, _, .cons h r => .cons (Rep.mono e h) (Reps.mono e r)
end

theorem Reps.length {S : Sg} {H : Hp} : ∀ {ds : List DV} {vs : List V}, Reps S H ds vs → ds.length = vs.length
  | _, _, .nil => rfl
  | _, _, .cons _ r => congrArg (· + 1) (Reps.length r)
theorem Reps.get {S : Sg} {H : Hp} : ∀ {ds : List DV} {vs : List V} {i : Nat} {d : DV}, Reps S H ds vs → ds[i]? = some d → ∃ v, vs[i]? = some v ∧ Rep S H d v
  | _, _, _, _, .nil, e => by simp at e
  | _, _, 0, _, .cons h _, e => by
    simp at e
    subst e
    exact ⟨_, rfl, h⟩
  | _, _, i + 1, d, .cons _ r, e => by
    obtain ⟨v, h1, h2⟩ := Reps.get (i := i) (d := d) r (by simpa using e)
    exact ⟨v, by simpa using h1, h2⟩
theorem Reps.getV {S : Sg} {H : Hp} : ∀ {ds : List DV} {vs : List V} {i : Nat} {v : V}, Reps S H ds vs → vs[i]? = some v → ∃ d, ds[i]? = some d ∧ Rep S H d v
  | _, _, _, _, .nil, e => by simp at e
  | _, _, 0, _, .cons h _, e => by
    simp at e
    subst e
    exact ⟨_, rfl, h⟩
  | _, _, i + 1, d, .cons _ r, e => by
    obtain ⟨v, h1, h2⟩ := Reps.getV (i := i) (v := d) r (by simpa using e)
    exact ⟨v, by simpa using h1, h2⟩
theorem Reps.set {S : Sg} {H : Hp} {d : DV} {v : V} (h : Rep S H d v) : ∀ {ds : List DV} {vs : List V} (i : Nat), Reps S H ds vs → Reps S H (ds.set i d) (vs.set i v)
  | _, _, _, .nil => .nil
  | _, _, 0, .cons _ r => .cons h r
  | _, _, i + 1, .cons q r => .cons q (Reps.set h i r)
theorem Reps.append {S : Sg} {H : Hp} : ∀ {ds es : List DV} {vs us : List V}, Reps S H ds vs → Reps S H es us → Reps S H (ds ++ es) (vs ++ us)
  | _, _, _, _, .nil, s => s
  | _, _, _, _, .cons h r, s => .cons h (Reps.append r s)
theorem Reps.take {S : Sg} {H : Hp} : ∀ {ds : List DV} {vs : List V} (n : Nat), Reps S H ds vs → Reps S H (ds.take n) (vs.take n)
  | _, _, 0, _ => .nil
  | _, _, _ + 1, .nil => .nil
  | _, _, n + 1, .cons h r => .cons h (Reps.take n r)
theorem Reps.drop {S : Sg} {H : Hp} : ∀ {ds : List DV} {vs : List V} (n : Nat), Reps S H ds vs → Reps S H (ds.drop n) (vs.drop n)
  | _, _, 0, r => r
  | _, _, _ + 1, .nil => .nil
  | _, _, n + 1, .cons _ r => Reps.drop n r
theorem Reps.one {S : Sg} {H : Hp} {d : DV} {v : V} (h : Rep S H d v) : Reps S H [d] [v] := .cons h .nil
theorem Reps.ints {S : Sg} {H : Hp} : ∀ (ns : List Int), Reps S H (ns.map DV.int) (ns.map V.int)
  | [] => .nil
  | _ :: ns => .cons .int (Reps.ints ns)
theorem Reps.reverse {S : Sg} {H : Hp} : ∀ {ds : List DV} {vs : List V}, Reps S H ds vs → Reps S H ds.reverse vs.reverse
  | _, _, .nil => .nil
  | _, _, .cons h r => by
    rw [List.reverse_cons, List.reverse_cons]
    exact (Reps.reverse r).append (.one h)

/-! ### inversion -/
theorem Rep.int_inv {S : Sg} {H : Hp} {i : Int} {v : V} (h : Rep S H (.int i) v) : v = .int i := by cases h; rfl
theorem Rep.bl_inv {S : Sg} {H : Hp} {b : Bool} {v : V} (h : Rep S H (.bl b) v) : v = .bl b := by cases h; rfl
theorem Rep.str_inv {S : Sg} {H : Hp} {s : List Nat} {v : V} (h : Rep S H (.str s) v) : v = .str ⟨s.toArray⟩ := by cases h; rfl
theorem Rep.non_inv {S : Sg} {H : Hp} {v : V} (h : Rep S H .non v) : v = .non := by cases h; rfl
theorem Reps.ints_inv {S : Sg} {H : Hp} : ∀ {ns : List Int} {vs : List V}, Reps S H (ns.map DV.int) vs → vs = ns.map V.int
  | [], _, h => by cases h; rfl
  | n :: ns, _, h => by
    cases h with
    | cons a r => rw [a.int_inv, Reps.ints_inv r]; rfl

/-! ### two heaps: what is known (Hk), what is there (H) -/
structure Step (Hk H Hk' H' : Hp) : Prop where
  k : Same Hk Hk'
  h : Same H H'
  i : Same Hk' H'
  s : ∀ a, H a ≠ none → Hk' a ≠ none → Hk a ≠ none
theorem Step.refl {Hk H : Hp} (i : Same Hk H) : Step Hk H Hk H := ⟨Same.refl _, Same.refl _, i, fun _ _ h => h⟩
theorem ne_none_of {H H' : Hp} (e : Same H H') {a : Addr} (h : H a ≠ none) : H' a ≠ none := by
  cases q : H a with
  | none => exact absurd q h
  | some o =>
    rw [e _ _ q]
    exact fun z => nomatch z
theorem Step.trans {Hk H Hk1 H1 Hk2 H2 : Hp} (a : Step Hk H Hk1 H1) (b : Step Hk1 H1 Hk2 H2) : Step Hk H Hk2 H2 :=
  ⟨a.k.trans b.k, a.h.trans b.h, b.i, fun x h1 h2 => a.s x h1 (b.s x (ne_none_of a.h h1) h2)⟩
theorem same_new {H : Hp} {p : Addr} {o : HO} (h : H p = none) : Same H (upd H p o) := fun a u e => by
  rw [upd_ne (ne_of_none e h)]
  exact e
theorem none_of_same {Hk H : Hp} (i : Same Hk H) {p : Addr} (h : H p = none) : Hk p = none := i.free h
theorem same_both {Hk H : Hp} (i : Same Hk H) {p : Addr} {o : HO} : Same (upd Hk p o) (upd H p o) := fun a u e => by
  by_cases q : a = p
  · subst q
    rw [upd_same] at e ⊢
    exact e
  · rw [upd_ne q] at e ⊢
    exact i _ _ e
/-- a new object, known -/
theorem Step.new {Hk H : Hp} (i : Same Hk H) {p : Addr} {o : HO} (h : H p = none) : Step Hk H (upd Hk p o) (upd H p o) :=
  ⟨same_new (none_of_same i h), same_new h, same_both i, fun a h1 h2 => by
    by_cases q : a = p
    · subst q
      exact absurd h h1
    · rw [upd_ne q] at h2
      exact h2⟩
/-- a new object, not known -/
theorem Step.newO {Hk H : Hp} (i : Same Hk H) {p : Addr} {o : HO} (h : H p = none) : Step Hk H Hk (upd H p o) :=
  ⟨Same.refl _, same_new h, i.trans (same_new h), fun _ _ h => h⟩
/-- what is there and was made behind the start becomes known -/
theorem Step.frz {K0 H0 Hk H : Hp} (st : Step K0 H0 Hk H) {p : Addr} {o : HO} (h0 : H0 p = none) (hk : Hk p = none) (h : H p = some o) : Step K0 H0 (upd Hk p o) H :=
  ⟨st.k.trans (same_new hk), st.h, fun a u e => by
    by_cases q : a = p
    · subst q
      rw [upd_same] at e
      cases e
      exact h
    · rw [upd_ne q] at e
      exact st.i _ _ e, fun a h1 h2 => by
    by_cases q : a = p
    · subst q
      exact absurd h0 h1
    · rw [upd_ne q] at h2
      exact st.s a h1 h2⟩
/-- what is not known and was made behind the start is changed -/
theorem Step.mut {K0 H0 Hk H : Hp} (st : Step K0 H0 Hk H) {p : Addr} {o : HO} (h0 : H0 p = none) (hk : Hk p = none) : Step K0 H0 Hk (upd H p o) :=
  ⟨st.k, fun a u e => by
    rw [upd_ne (ne_of_none e h0)]
    exact st.h _ _ e, fun a u e => by
    rw [upd_ne (ne_of_none e hk)]
    exact st.i _ _ e, st.s⟩

/-! ### names -/
inductive Bd where
  | val (d : DV) | own (xs : List DV) | obj (c : Nat) (vs : List DV)
def Bd.isOwn : Bd → Bool
  | .val _ => false
  | _ => true
abbrev Env := List (Option Bd)
structure Fr where
  K0 : Hp
  H0 : Hp
  B : Hp
  P : Addr
  X : Addr
def BdOk (S : Sg) (fr : Fr) (Hk H : Hp) (v : V) : Bd → Prop
  | .val d => Rep S Hk d v
  | .own xs => ∃ p vs, v = .ref p ∧ H p = some (.lst vs) ∧ Hk p = none ∧ fr.H0 p = none ∧ Reps S Hk xs vs
  | .obj c ds => ∃ p dx, ∃ fs : List (Str × V), v = .ref p ∧ H p = some (.ins (S.cls c) dx fs) ∧ Hk p = none ∧ fr.H0 p = none ∧ fs.map (·.1) = (S.fnames c).take ds.length ∧ Reps S Hk ds (fs.map (·.2)) ∧ p = fr.P ∧ dx = fr.X
structure StOk (S : Sg) (fr : Fr) (Γ : Env) (Hk : Hp) (σ : St) (H : Hp) : Prop where
  st : Step fr.K0 fr.H0 Hk H
  sl : ∀ (i : Nat) (b : Bd), Γ[i]? = some (some b) → ∃ v, σ[i]? = some (some v) ∧ BdOk S fr Hk H v b
  ap : ∀ (i j : Nat) (p : Addr) (b c : Bd), i ≠ j → Γ[i]? = some (some b) → Γ[j]? = some (some c) → b.isOwn = true → c.isOwn = true → σ[i]? = some (some (.ref p)) → σ[j]? = some (some (.ref p)) → False
  len : σ.length = Γ.length
  b : Same fr.B Hk
section
variable {S : Sg} {fr : Fr} {Γ : Env} {Hk H Hk' H' : Hp} {σ : St} {v : V}
theorem BdOk.step {b : Bd} (s : Step Hk H Hk' H') (h : BdOk S fr Hk H v b) : BdOk S fr Hk' H' v b := by
  have hn : ∀ p o, H p = some o → Hk p = none → Hk' p = none := fun p o e k => by
    cases q : Hk' p with
    | none => rfl
    | some u => exact absurd k (s.s p (by rw [e]; exact fun z => nomatch z) (by rw [q]; exact fun z => nomatch z))
  cases b with
  | val d => exact Rep.mono s.k h
  | own xs =>
    obtain ⟨p, vs, e, h1, h2, h3, h4⟩ := h
    exact ⟨p, vs, e, s.h _ _ h1, hn _ _ h1 h2, h3, Reps.mono s.k h4⟩
  | obj c ds =>
    obtain ⟨p, dx, fs, e, h1, h2, h3, h4, h5, h6⟩ := h
    exact ⟨p, dx, fs, e, s.h _ _ h1, hn _ _ h1 h2, h3, h4, Reps.mono s.k h5, h6⟩
theorem StOk.step (h : StOk S fr Γ Hk σ H) (s : Step Hk H Hk' H') : StOk S fr Γ Hk' σ H' :=
  ⟨h.st.trans s, fun i b e => by
    obtain ⟨v, h1, h2⟩ := h.sl i b e
    exact ⟨v, h1, h2.step s⟩, h.ap, h.len, h.b.trans s.k⟩
theorem StOk.var {i : Nat} {d : DV} (h : StOk S fr Γ Hk σ H) (e : Γ[i]? = some (some (.val d))) : ∃ v, σ[i]? = some (some v) ∧ Rep S Hk d v := h.sl i _ e
/-- a name gets a value -/
theorem StOk.setB {i : Nat} {b : Bd} (h : StOk S fr Γ Hk σ H) (r : BdOk S fr Hk H v b) (hb : b.isOwn = true → ∀ (j : Nat) (c : Bd) (p : Addr), j ≠ i → Γ[j]? = some (some c) → c.isOwn = true → v = .ref p → σ[j]? = some (some (.ref p)) → False) : StOk S fr (Γ.set i (some b)) Hk (σ.set i (some v)) H := by
  refine ⟨h.st, fun j c e => ?_, fun j l p c d ne e1 e2 o1 o2 s1 s2 => ?_, by rw [List.length_set, List.length_set, h.len], h.b⟩
  · by_cases q : i = j
    · subst q
      by_cases hl : i < Γ.length
      · rw [List.getElem?_set_self hl] at e
        cases e
        exact ⟨v, List.getElem?_set_self (by rw [h.len]; exact hl), r⟩
      · rw [List.getElem?_eq_none (by simpa using hl)] at e
        cases e
    · rw [List.getElem?_set_ne q] at e
      obtain ⟨u, h1, h2⟩ := h.sl j c e
      exact ⟨u, by rw [List.getElem?_set_ne q]; exact h1, h2⟩
  · by_cases q : i = j
    · subst q
      have q2 : ¬ i = l := ne
      rw [List.getElem?_set_ne q2] at e2 s2
      by_cases hl : i < Γ.length
      · rw [List.getElem?_set_self hl] at e1
        rw [List.getElem?_set_self (by rw [h.len]; exact hl)] at s1
        cases e1
        exact hb o1 l d p (fun z => ne z.symm) e2 o2 (Option.some.inj (Option.some.inj s1)) s2
      · rw [List.getElem?_eq_none (by simpa using hl)] at e1
        cases e1
    · rw [List.getElem?_set_ne q] at e1 s1
      by_cases q2 : i = l
      · subst q2
        by_cases hl : i < Γ.length
        · rw [List.getElem?_set_self hl] at e2
          rw [List.getElem?_set_self (by rw [h.len]; exact hl)] at s2
          cases e2
          exact hb o2 j c p ne e1 o1 (Option.some.inj (Option.some.inj s2)) s1
        · rw [List.getElem?_eq_none (by simpa using hl)] at e2
          cases e2
      · rw [List.getElem?_set_ne q2] at e2 s2
        exact h.ap j l p c d ne e1 e2 o1 o2 s1 s2
theorem StOk.setV {i : Nat} {d : DV} (h : StOk S fr Γ Hk σ H) (r : Rep S Hk d v) : StOk S fr (Γ.set i (some (.val d))) Hk (σ.set i (some v)) H :=
  h.setB (b := .val d) r fun z => by cases z
/-- a name is forgotten -/
theorem StOk.forget {i : Nat} (h : StOk S fr Γ Hk σ H) {o : Option V} : StOk S fr (Γ.set i none) Hk (σ.set i o) H := by
  have key : ∀ (j : Nat) (c : Bd), (Γ.set i none)[j]? = some (some c) → i ≠ j ∧ Γ[j]? = some (some c) := fun j c e => by
    by_cases q : i = j
    · subst q
      by_cases hl : i < Γ.length
      · rw [List.getElem?_set_self hl] at e
        cases e
      · rw [List.getElem?_eq_none (by simpa using hl)] at e
        cases e
    · rw [List.getElem?_set_ne q] at e
      exact ⟨q, e⟩
  refine ⟨h.st, fun j c e => ?_, fun j l p c d ne e1 e2 o1 o2 s1 s2 => ?_, by rw [List.length_set, List.length_set, h.len], h.b⟩
  · obtain ⟨q, e⟩ := key j c e
    obtain ⟨u, h1, h2⟩ := h.sl j c e
    exact ⟨u, by rw [List.getElem?_set_ne q]; exact h1, h2⟩
  · obtain ⟨q1, e1⟩ := key j c e1
    obtain ⟨q2, e2⟩ := key l d e2
    rw [List.getElem?_set_ne q1] at s1
    rw [List.getElem?_set_ne q2] at s2
    exact h.ap j l p c d ne e1 e2 o1 o2 s1 s2
/-- an own list (or object) is frozen: it becomes a value -/
theorem StOk.frzL' {i : Nat} {xs : List DV} (h : StOk S fr Γ Hk σ H) (e : Γ[i]? = some (some (.own xs))) : ∃ p vs, Hk p = none ∧ StOk S fr (Γ.set i (some (.val (.lst xs)))) (upd Hk p (.lst vs)) σ H := by
  obtain ⟨v, sv, p, vs, rfl, hp, hk, h0, r⟩ := h.sl i _ e
  have hl : i < Γ.length := by
    rcases Nat.lt_or_ge i Γ.length with q | q
    · exact q
    · rw [List.getElem?_eq_none q] at e
      cases e
  have s1 : Same Hk (upd Hk p (.lst vs)) := same_new hk
  refine ⟨p, vs, hk, h.st.frz h0 hk hp, fun j c ej => ?_, fun j l q c d ne e1 e2 o1 o2 t1 t2 => ?_, by rw [List.length_set, h.len], h.b.trans s1⟩
  · by_cases q : i = j
    · subst q
      rw [List.getElem?_set_self hl] at ej
      cases ej
      exact ⟨.ref p, sv, .lst (.inl upd_same) (r.mono s1)⟩
    · rw [List.getElem?_set_ne q] at ej
      obtain ⟨u, h1, h2⟩ := h.sl j c ej
      refine ⟨u, h1, ?_⟩
      have hne : ∀ q, u = .ref q → c.isOwn = true → q ≠ p := fun q' hu hc z => by
        subst z
        subst hu
        exact h.ap i j q' _ c (fun z => q z) e ej rfl hc sv h1
      cases c with
      | val d => exact Rep.mono s1 h2
      | own xs =>
        obtain ⟨q', us, e', g1, g2, g3, g4⟩ := h2
        exact ⟨q', us, e', g1, by rw [upd_ne (hne q' e' rfl)]; exact g2, g3, g4.mono s1⟩
      | obj c' ds =>
        obtain ⟨q', dx, fs, e', g1, g2, g3, g4, g5, g6⟩ := h2
        exact ⟨q', dx, fs, e', g1, by rw [upd_ne (hne q' e' rfl)]; exact g2, g3, g4, g5.mono s1, g6⟩
  · have key : ∀ (j : Nat) (c : Bd), (Γ.set i (some (.val (.lst xs))))[j]? = some (some c) → c.isOwn = true → Γ[j]? = some (some c) := fun j c e o => by
      by_cases q : i = j
      · subst q
        rw [List.getElem?_set_self hl] at e
        cases e
        cases o
      · rw [List.getElem?_set_ne q] at e
        exact e
    exact h.ap j l q c d ne (key _ _ e1 o1) (key _ _ e2 o2) o1 o2 t1 t2
theorem StOk.frzL {i : Nat} {xs : List DV} (h : StOk S fr Γ Hk σ H) (e : Γ[i]? = some (some (.own xs))) : ∃ Hk', Same Hk Hk' ∧ StOk S fr (Γ.set i (some (.val (.lst xs)))) Hk' σ H := by
  obtain ⟨p, vs, hk, r⟩ := h.frzL' e
  exact ⟨_, same_new hk, r⟩
/-- what is one's own is changed -/
theorem StOk.mutB {i : Nat} {b b' : Bd} {p : Addr} {o : HO} (h : StOk S fr Γ Hk σ H) (e : Γ[i]? = some (some b)) (ob : b.isOwn = true) (ob' : b'.isOwn = true) (sv : σ[i]? = some (some (.ref p))) (hk : Hk p = none) (h0 : fr.H0 p = none)
    (hb : BdOk S fr Hk (upd H p o) (.ref p) b') : StOk S fr (Γ.set i (some b')) Hk σ (upd H p o) := by
  have hl : i < Γ.length := by
    rcases Nat.lt_or_ge i Γ.length with q | q
    · exact q
    · rw [List.getElem?_eq_none q] at e
      cases e
  refine ⟨h.st.mut h0 hk, fun j c ej => ?_, fun j l q c d ne e1 e2 o1 o2 t1 t2 => ?_, by rw [List.length_set, h.len], h.b⟩
  · by_cases q : i = j
    · subst q
      rw [List.getElem?_set_self hl] at ej
      cases ej
      exact ⟨.ref p, sv, hb⟩
    · rw [List.getElem?_set_ne q] at ej
      obtain ⟨u, h1, h2⟩ := h.sl j c ej
      refine ⟨u, h1, ?_⟩
      have hne : ∀ q, u = .ref q → c.isOwn = true → q ≠ p := fun q' hu hc z => by
        subst z
        subst hu
        exact h.ap i j q' _ c (fun z => q z) e ej ob hc sv h1
      cases c with
      | val d => exact h2
      | own xs =>
        obtain ⟨q', us, e', g1, g2, g3, g4⟩ := h2
        exact ⟨q', us, e', by rw [upd_ne (hne q' e' rfl)]; exact g1, g2, g3, g4⟩
      | obj c' ds =>
        obtain ⟨q', dx, fs, e', g1, g2, g3, g4, g5, g6⟩ := h2
        exact ⟨q', dx, fs, e', by rw [upd_ne (hne q' e' rfl)]; exact g1, g2, g3, g4, g5, g6⟩
  · have key : ∀ (j : Nat) (c : Bd), (Γ.set i (some b'))[j]? = some (some c) → c.isOwn = true → ∃ c', Γ[j]? = some (some c') ∧ c'.isOwn = true := fun j c e' o => by
      by_cases q : i = j
      · subst q
        exact ⟨_, e, ob⟩
      · rw [List.getElem?_set_ne q] at e'
        exact ⟨c, e', o⟩
    obtain ⟨c', g1, g2⟩ := key _ _ e1 o1
    obtain ⟨d', g3, g4⟩ := key _ _ e2 o2
    exact h.ap j l q c' d' ne g1 g3 g2 g4 t1 t2
/-- an own list is changed -/
theorem StOk.mutL {i : Nat} {xs ys : List DV} {us : List V} {p : Addr} {vs : List V} (h : StOk S fr Γ Hk σ H) (e : Γ[i]? = some (some (.own xs))) (sv : σ[i]? = some (some (.ref p))) (hp : H p = some (.lst vs)) (r : Reps S Hk ys us) :
    StOk S fr (Γ.set i (some (.own ys))) Hk σ (upd H p (.lst us)) := by
  obtain ⟨v, sv', p', vs', rfl, hp', hk, h0, _⟩ := h.sl i _ e
  rw [sv] at sv'
  cases sv'
  exact h.mutB e rfl rfl sv hk h0 ⟨p, us, rfl, upd_same, hk, h0, r⟩
end
end Vg


set_option Elab.async false
set_option linter.all false
set_option maxRecDepth 100000
/-! Vg: a small language and what its terms give, by wish -/
namespace Vg
open PySem L2

inductive Bi where
  | len | int | str | bool | abs | max | min | sum | all | any | sorted | list | tuple | lcm | gcd | divmod | sset
  deriving DecidableEq
/-- methods of built-in types -/
inductive Bm where
  | join | count | index | sindex
  deriving DecidableEq
inductive Ty where
  | str | int | bool | list | tuple | cls (c : Nat)
  deriving DecidableEq
inductive Tg where
  | one (i : Nat) | two (i j : Nat)
  deriving DecidableEq

/-- expressions; nil and cons: argument lists -/
inductive E where
  | nil | cons (a r : E)
  | k (d : DV) | var (i : Nat)
  | bin (o : Operator) (a b : E) | un (o : UnaryOp) (a : E)
  | cmp (o : CmpOp) (a b : E) | chain (o p : CmpOp) (a b c : E)
  | band (a b : E) | bor (a b : E) | bnot (a : E) | ife (t a b : E)
  | call (f : Nat) (as : E) | mk (c : Nat) (as : E) | bi (b : Bi) (as : E) | isi (a : E) (t : Ty)
  | bm (m : Bm) (o a : E) | om (m : Nat) (o as : E) | fld (o : E) (f : Nat)
  | idx (o i : E) | slc (o lo hi : E) | part (a : E) | nopart | rev (o : E)
  | lst (as : E) | tup (as : E)
  | lc (tg : Tg) (it tst elt : E) | tt
  /-- two walks, no test -/
  | lc2 (tg : Tg) (it : E) (tg1 : Tg) (it1 elt : E)
  | catL (a b : E) | repL (a b : E) | slcL (o lo hi : E)
  | rng1 (a : E) | rng2 (a b : E) | rng3 (a b c : E) | zip (a b : E)
  | fldO (i f : Nat) | idxO (i : Nat) (ix : E) | lenO (i : Nat) | ownI (i : Nat) | inO (neg : Bool) (a : E) (i : Nat)
  /-- an own list is looked at as a value; what comes back holds no list -/
  | lend (i : Nat) (e : E)
  /-- a name of the module that stands for an int -/
  | glb (j : Nat) (n : Int)
  /-- list(range(..)), tuple(range(..)) -/
  | lrg1 (tp : Bool) (a : E) | lrg2 (tp : Bool) (a b : E)
  /-- sorted(set(a)), ints -/
  | sset (a : E)
  /-- isinstance(a, (list, tuple)) -/
  | isLT (a : E)
  /-- list(x), x an own list -/
  | cpyO (i : Nat)

/-- statements -/
inductive Cm where
  | nop | seq (a b : Cm)
  | asg (i : Nat) (e : E) | asgO (i : Nat) (e : E) | asg2 (i j : Nat) (e : E) | par (i j : Nat) (a b : E) | aug (i : Nat) (o : Operator) (e : E)
  | frz (i : Nat) (b : Cm) | app (i : Nat) (e : E) | seti (i : Nat) (ix e : E) | fset (i f : Nat) (e : E) | drop (e : E)
  | ret (e : E) | retO (i : Nat) | retF (e : E) | retN
  | ite (t : E) (a b : Cm) | for_ (tg : Tg) (it : E) (b : Cm) | while_ (t : E) (b : Cm)
  | brk | cnt | never

/-- what the defs do -/
structure Sem where
  F : Nat → List DV → (DV → Prop) → Prop
  I : Nat → List DV → (DV → Prop) → Prop
  M : Nat → Nat → Option Nat
  fx : Nat → Nat → Option Nat
  nc : Nat

def rep {α : Type} (xs : List α) : Nat → List α
  | 0 => []
  | n + 1 => xs ++ rep xs n

/-- list and tuple data: None, bools, ints, texts, lists, tuples -/
def pd : DV → Option PyData
  | .non => some .none
  | .bl b => some (.bool b)
  | .int i => some (.int i)
  | .str s => some (.str ⟨s.toArray⟩)
  | .lst xs => (pds xs).map .list
  | .tup xs => (pds xs).map .tuple
  | .ins _ _ => none
  | .scr _ => none
where pds : List DV → Option (List PyData)
  | [] => some []
  | x :: r => match pd x, pds r with
    | some a, some b => some (a :: b)
    | _, _ => none

def scalD : DV → DV → Bool
  | .non, .non => true
  | .bl _, .bl _ => true
  | .int _, .int _ => true
  | .str _, .str _ => true
  | _, _ => false
def eqS : DV → DV → Bool
  | .non, .non => true
  | .bl a, .bl b => decide (a = b)
  | .int a, .int b => decide (a = b)
  | .str a, .str b => decide (a = b)
  | _, _ => false
def flatD : DV → Bool
  | .bl _ => true
  | .int _ => true
  | .str _ => true
  | _ => false

/-- operators of own classes: their method ids -/
def binId : Operator → Option Nat
  | .Add => some 0
  | .Sub => some 1
  | .BitAnd => some 2
  | .BitOr => some 3
  | .BitXor => some 4
  | _ => none
abbrev idContains : Nat := 5
abbrev idInvert : Nat := 6
abbrev idEq : Nat := 7

/-- // by a divisor below 2 ^ 64 -/
def CDv (_ j : Int) : Prop := j ≠ 0 ∧ j.natAbs < 2 ^ 64
def binS (Sm : Sem) (o : Operator) (x y : DV) (Q : DV → Prop) : Prop :=
  match x, y with
  | .int i, .int j =>
    match o with
    | .Add => Q (.int (i + j))
    | .Sub => Q (.int (i - j))
    | .Mult => CMul i j ∧ Q (.int (i * j))
    | .FloorDiv => CDv i j ∧ Q (.int (i.fdiv j))
    | .Mod => j ≠ 0 ∧ Q (.int (i.fmod j))
    | .Pow => CPow i j ∧ Q (.int (i ^ j.toNat))
    | .LShift => CPow i j ∧ Q (.int (i * 2 ^ j.toNat))
    | .RShift => 0 ≤ j ∧ Q (.int (i / 2 ^ j.toNat))
    | .BitAnd => Q (.int (Builtin.bitAnd i j))
    | .BitOr => Q (.int (Builtin.bitOr i j))
    | _ => False
  | .str a, .str b => o = .Add ∧ a.length + b.length ≤ sizeLine ∧ Q (.str (a ++ b))
  | .str a, .int k => o = .Mult ∧ -(2 ^ 63) ≤ k ∧ k < 2 ^ 63 ∧ a.length * k.toNat ≤ sizeLine ∧ Q (.str (rep a k.toNat))
  | .lst a, .lst b => o = .Add ∧ a.length + b.length ≤ sizeLine ∧ Q (.lst (a ++ b))
  | .tup a, .tup b => o = .Add ∧ a.length + b.length ≤ sizeLine ∧ Q (.tup (a ++ b))
  | .lst a, .int k => o = .Mult ∧ -(2 ^ 63) ≤ k ∧ k < 2 ^ 63 ∧ a.length * k.toNat ≤ sizeLine ∧ Q (.lst (rep a k.toNat))
  | .ins c vs, .ins d us => c = d ∧ ∃ m f, binId o = some m ∧ Sm.M c m = some f ∧ Sm.F f [.ins c vs, .ins d us] Q
  | _, _ => False

def unS (Sm : Sem) (o : UnaryOp) (x : DV) (Q : DV → Prop) : Prop :=
  match o, x with
  | .USub, .int i => Q (.int (-i))
  | .Invert, .ins c vs => ∃ f, Sm.M c idInvert = some f ∧ Sm.F f [.ins c vs] Q
  | _, _ => False

def intCmp : CmpOp → Option (Int → Int → Bool)
  | .Lt => some fun i j => decide (i < j)
  | .LtE => some fun i j => decide (i ≤ j)
  | .Gt => some fun i j => decide (j < i)
  | .GtE => some fun i j => decide (j ≤ i)
  | _ => none

/-- y in a list or tuple of flat things -/
def inD (x : DV) (ys : List DV) : Bool := ys.any fun y => eqS y x
/-- flat things of one kind -/
def sameKind : DV → DV → Bool
  | .bl _, .bl _ => true
  | .int _, .int _ => true
  | .str _, .str _ => true
  | _, _ => false

def isNon : DV → Bool
  | .non => true
  | _ => false

def seqP (t : Bool) (ds : List PyData) : PyData := if t then .tuple ds else .list ds
def cmpS (Sm : Sem) (o : CmpOp) (x y : DV) (Q : DV → Prop) : Prop :=
  match o with
  | .Eq => (scalD x y = true ∧ Q (.bl (eqS x y))) ∨ (∃ a b, pd x = some a ∧ pd y = some b ∧ SeqAt.shaped a = true ∧ SeqAt.shaped b = true ∧ Q (.bl (PyData.eqv a b))) ∨
      (∃ c us ws f, x = .ins c us ∧ y = .ins c ws ∧ Sm.M c idEq = some f ∧ Sm.F f [x, y] Q)
  | .NotEq => (scalD x y = true ∧ Q (.bl (!eqS x y))) ∨ (∃ a b, pd x = some a ∧ pd y = some b ∧ SeqAt.shaped a = true ∧ SeqAt.shaped b = true ∧ Q (.bl (!PyData.eqv a b))) ∨
      (∃ c us ws f, x = .ins c us ∧ y = .ins c ws ∧ Sm.M c idEq = some f ∧ Sm.F f [x, y] fun d => ∃ b, d = .bl b ∧ Q (.bl (!b)))
  | .In => (∃ ys, (y = .lst ys ∨ y = .tup ys) ∧ flatD x = true ∧ (ys.all fun z => sameKind z x) = true ∧ Q (.bl (inD x ys))) ∨
      (∃ c s, x = .str [c] ∧ y = .str s ∧ Q (.bl (decide (c ∈ s)))) ∨
      (∃ c vs f, y = .ins c vs ∧ Sm.M c idContains = some f ∧ Sm.F f [y, x] fun d => ∃ b, d = .bl b ∧ Q (.bl b)) ∨
      (∃ a ds t, pd x = some a ∧ pd y = some (seqP t ds) ∧ SeqAt.shaped a = true ∧ SeqAt.shaped (seqP t ds) = true ∧ Q (.bl (ds.any fun z => PyData.eqv z a)))
  | .NotIn => (∃ ys, (y = .lst ys ∨ y = .tup ys) ∧ flatD x = true ∧ (ys.all fun z => sameKind z x) = true ∧ Q (.bl (!inD x ys))) ∨
      (∃ c s, x = .str [c] ∧ y = .str s ∧ Q (.bl (!decide (c ∈ s)))) ∨
      (∃ c vs f, y = .ins c vs ∧ Sm.M c idContains = some f ∧ Sm.F f [y, x] fun d => ∃ b, d = .bl b ∧ Q (.bl (!b))) ∨
      (∃ a ds t, pd x = some a ∧ pd y = some (seqP t ds) ∧ SeqAt.shaped a = true ∧ SeqAt.shaped (seqP t ds) = true ∧ Q (.bl (!ds.any fun z => PyData.eqv z a)))
  | .Is => (y = .non ∧ Q (.bl (isNon x))) ∨ (∃ a b, x = .bl a ∧ y = .bl b ∧ Q (.bl (decide (a = b))))
  | .IsNot => (y = .non ∧ Q (.bl (!isNon x))) ∨ (∃ a b, x = .bl a ∧ y = .bl b ∧ Q (.bl (!decide (a = b))))
  | .Lt => ∃ i j, x = .int i ∧ y = .int j ∧ Q (.bl (decide (i < j)))
  | .LtE => ∃ i j, x = .int i ∧ y = .int j ∧ Q (.bl (decide (i ≤ j)))
  | .Gt => ∃ i j, x = .int i ∧ y = .int j ∧ Q (.bl (decide (j < i)))
  | .GtE => ∃ i j, x = .int i ∧ y = .int j ∧ Q (.bl (decide (j ≤ i)))

def ints? : List DV → Option (List Int)
  | [] => some []
  | .int i :: r => (ints? r).map (i :: ·)
  | _ :: _ => none
def bls? : List DV → Option (List Bool)
  | [] => some []
  | .bl i :: r => (bls? r).map (i :: ·)
  | _ :: _ => none
def strs? : List DV → Option (List (List Nat))
  | [] => some []
  | .str i :: r => (strs? r).map (i :: ·)
  | _ :: _ => none

def seq? : DV → Option (List DV)
  | .lst xs => some xs
  | .tup xs => some xs
  | _ => none

def sortI (ns : List Int) : List Int := ns.mergeSort (fun a b => decide (a ≤ b))

def biS (b : Bi) (as : List DV) (Q : DV → Prop) : Prop :=
  match b, as with
  | .len, [.str s] => s.length ≤ sizeLine ∧ Q (.int s.length)
  | .len, [.lst xs] => Q (.int xs.length)
  | .len, [.tup xs] => Q (.int xs.length)
  | .len, [.scr xs] => Q (.int xs.length)
  | .int, [.int i] => Q (.int i)
  | .int, [.bl b] => Q (.int (if b then 1 else 0))
  | .int, [.str s] => ∃ n, PySem.intText? ⟨s.toArray⟩ = some n ∧ s.length ≤ 640 ∧ Q (.int n)
  | .abs, [.int i] => Q (.int (if i < 0 then -i else i))
  | .max, [.int i, .int j] => Q (.int (if j > i then j else i))
  | .max, [.int i, .int j, .int l] => Q (.int (if l > (if j > i then j else i) then l else (if j > i then j else i)))
  | .min, [.int i, .int j] => Q (.int (if j < i then j else i))
  | .max, [.lst xs] => ∃ ns, ints? xs = some ns ∧ 0 < ns.length ∧ ∀ m, m ∈ ns → (∀ y, y ∈ ns → y ≤ m) → Q (.int m)
  | .min, [.lst xs] => ∃ ns, ints? xs = some ns ∧ 0 < ns.length ∧ ∀ m, m ∈ ns → (∀ y, y ∈ ns → m ≤ y) → Q (.int m)
  | .sum, [.lst xs] => ∃ ns, ints? xs = some ns ∧ Q (.int ns.sum)
  | .all, [.lst xs] => ∃ bs, bls? xs = some bs ∧ Q (.bl (bs.all id))
  | .any, [.lst xs] => ∃ bs, bls? xs = some bs ∧ Q (.bl (bs.any id))
  | .sorted, [.lst xs] => ∃ ns, ints? xs = some ns ∧ ∀ ms : List Int, ms.Perm ns → ms.Pairwise (· ≤ ·) → Q (.lst (ms.map .int))
  | .list, [.lst xs] => Q (.lst xs)
  | .list, [.tup xs] => Q (.lst xs)
  | .list, [.scr ns] => Q (.lst (ns.map .int))
  | .tuple, [.lst xs] => Q (.tup xs)
  | .tuple, [.tup xs] => Q (.tup xs)
  | .lcm, [.int i, .int j] => i.natAbs < 2 ^ 64 ∧ j.natAbs < 2 ^ 64 ∧ Q (.int ((i.natAbs.lcm j.natAbs : Nat) : Int))
  | .gcd, [.int i, .int j] => Q (.int ((Nat.gcd i.natAbs j.natAbs : Nat) : Int))
  | .divmod, [.int i, .int j] => CDiv i j ∧ Q (.tup [.int (i / j), .int (i % j)])
  | .sset, [d] => ∃ xs ns, seq? d = some xs ∧ ints? xs = some ns ∧ ns.length ≤ 4000 ∧ ∀ ms : List Int, (∀ x, x ∈ ms ↔ x ∈ ns) → ms.Pairwise (· < ·) → Q (.lst (ms.map .int))
  | _, _ => False

def tyS (nc : Nat) (t : Ty) (d : DV) : Option Bool :=
  match d with
  | .non => some false
  | .bl _ => some (t = .bool || t = .int)
  | .int _ => some (t = .int)
  | .str _ => some (t = .str)
  | .lst _ => some (t = .list)
  | .tup _ => some (t = .tuple)
  | .ins c _ => if c < nc then some (t = .cls c) else none
  | .scr _ => none
def tyOk (nc : Nat) : Ty → Bool
  | .cls c => decide (c < nc)
  | _ => true

def countOne (c : Nat) (s : List Nat) : Nat := (s.filter (· == c)).length

def bmTy : Bm → DV → Prop
  | .join, .str _ => True
  | .count, .str _ => True
  | .index, .lst _ => True
  | .sindex, .str _ => True
  | _, _ => False
def bmS (m : Bm) (o a : DV) (Q : DV → Prop) : Prop :=
  match m, o, a with
  | .join, .str s, d => ∃ xs ss, seq? d = some xs ∧ strs? xs = some ss ∧ (ss.map (·.length)).sum + ss.length * s.length ≤ 16777216 ∧ Q (.str (TL.joinL s ss))
  | .count, .str s, .str [c] => Q (.int (countOne c s))
  | .index, .lst xs, d => (∃ ns y j, d = .int y ∧ ints? xs = some ns ∧ ns[j]? = some y ∧ (∀ i, i < j → ns[i]? ≠ some y) ∧ Q (.int (j : Nat))) ∨
      (∃ a ds j z, pd d = some a ∧ pd.pds xs = some ds ∧ SeqAt.shaped a = true ∧ SeqAt.shaped (.list ds) = true ∧ ds[j]? = some z ∧ PyData.eqv z a = true ∧ (∀ m z', m < j → ds[m]? = some z' → PyData.eqv z' a = false) ∧ Q (.int (j : Nat)))
  | .sindex, .str s, .str [c] => c ∈ s ∧ ∀ j : Nat, Q (.int j)
  | _, _, _ => False

def idxS (o i : DV) (Q : DV → Prop) : Prop :=
  match o, i with
  | .lst xs, .int i => ∃ d, atI xs i = some d ∧ Q d
  | .tup xs, .int i => ∃ d, atI xs i = some d ∧ Q d
  | .str s, .int i => s.length ≤ sizeLine ∧ ∃ c, atI s i = some c ∧ Q (.str [c])
  | .scr ns, .int i => ∃ d, atI (ns.map DV.int) i = some d ∧ Q d
  | _, _ => False

def cut {α : Type} (xs : List α) (lo hi : Option Int) : List α := (xs.drop (HT.sIx xs.length 0 lo)).take (HT.sIx xs.length xs.length hi - HT.sIx xs.length 0 lo)
def slcS (o : DV) (lo hi : Option Int) (Q : DV → Prop) : Prop :=
  match o with
  | .lst xs => Q (.lst (cut xs lo hi))
  | .tup xs => Q (.tup (cut xs lo hi))
  | .str s => s.length ≤ sizeLine ∧ Q (.str (cut s lo hi))
  | .scr ns => Q (.lst (cut (ns.map .int) lo hi))
  | _ => False

def itemsOf : DV → Option (List DV)
  | .lst xs => some xs
  | .tup xs => some xs
  | .str s => some (s.map fun c => .str [c])
  | .scr ns => some (ns.map .int)
  | _ => none

def stT (tg : Tg) (Γ : Env) (x : DV) (K : Env → Prop) : Prop :=
  match tg with
  | .one i => K (Γ.set i (some (.val x)))
  | .two i j => ∃ a b, x = .tup [a, b] ∧ K ((Γ.set i (some (.val a))).set j (some (.val b)))
def Tg.slots : Tg → List Nat
  | .one i => [i]
  | .two i j => [i, j]
def wipeE (Γ : Env) : List Nat → Env
  | [] => Γ
  | v :: vs => (wipeE Γ vs).set v none

def lcW (st : DV → (Env → Prop) → Prop) (tst elt : Env → (DV → Prop) → Prop) : List DV → List DV → (List DV → Prop) → Prop
  | [], acc, Q => Q acc
  | x :: r, acc, Q => st x fun Γ' => tst Γ' fun b => ∃ bb, b = .bl bb ∧ if bb = true then elt Γ' (fun y => acc.length < sizeLine ∧ lcW st tst elt r (acc ++ [y]) Q) else lcW st tst elt r acc Q

/-- a comprehension of two walks -/
def lc2W (st : DV → (Env → Prop) → Prop) (it1 : Env → (List DV → Prop) → Prop) (st1 : Env → DV → (Env → Prop) → Prop) (elt : Env → (DV → Prop) → Prop) : List DV → List DV → (List DV → Prop) → Prop
  | [], acc, Q => Q acc
  | x :: r, acc, Q => st x fun Γ' => it1 Γ' fun ys => lcW (st1 Γ') (fun _ K => K (.bl true)) elt ys acc fun acc' => lc2W st it1 st1 elt r acc' Q

def isLT (nc : Nat) : DV → Option Bool
  | .non => some false
  | .bl _ => some false
  | .int _ => some false
  | .str _ => some false
  | .lst _ => some true
  | .tup _ => some true
  | .ins c _ => if c < nc then some false else none
  | .scr _ => none
def sqD (tp : Bool) (xs : List DV) : DV := if tp then .tup xs else .lst xs
mutual
/-- no list in it -/
def noL : DV → Bool
  | .lst _ => false
  | .scr _ => false
  | .tup xs => noLs xs
  | .ins _ xs => noLs xs
  | _ => true
def noLs : List DV → Bool
  | [] => true
  | x :: r => noL x && noLs r
end
def argsOf (d : DV) (Q : List DV → Prop) : Prop := match d with
  | .tup ds => Q ds
  | _ => False

/-- the part of a slice: none, or an int -/
def partOf (d : DV) (Q : Option Int → Prop) : Prop := match d with
  | .non => Q none
  | .int i => Q (some i)
  | _ => False

def ev (Sm : Sem) : E → Env → (DV → Prop) → Prop
  | .nil, _, Q => Q (.tup [])
  | .cons a r, Γ, Q => ev Sm a Γ fun x => ev Sm r Γ fun y => argsOf y fun ys => Q (.tup (x :: ys))
  | .k d, _, Q => Q d
  | .var i, Γ, Q => ∃ d, Γ[i]? = some (some (.val d)) ∧ Q d
  | .bin o a b, Γ, Q => ev Sm a Γ fun x => ev Sm b Γ fun y => binS Sm o x y Q
  | .un o a, Γ, Q => ev Sm a Γ fun x => unS Sm o x Q
  | .cmp o a b, Γ, Q => ev Sm a Γ fun x => ev Sm b Γ fun y => cmpS Sm o x y Q
  | .chain o p a b c, Γ, Q => ev Sm a Γ fun x => ev Sm b Γ fun y => cmpS Sm o x y fun r => ∃ bb, r = .bl bb ∧ if bb = true then ev Sm c Γ fun z => cmpS Sm p y z Q else Q (.bl false)
  | .band a b, Γ, Q => ev Sm a Γ fun x => ∃ c, x = .bl c ∧ if c = true then ev Sm b Γ (fun y => ∃ d, y = .bl d ∧ Q (.bl d)) else Q (.bl false)
  | .bor a b, Γ, Q => ev Sm a Γ fun x => ∃ c, x = .bl c ∧ if c = true then Q (.bl true) else ev Sm b Γ (fun y => ∃ d, y = .bl d ∧ Q (.bl d))
  | .bnot a, Γ, Q => ev Sm a Γ fun x => ∃ c, x = .bl c ∧ Q (.bl (!c))
  | .ife t a b, Γ, Q => ev Sm t Γ fun x => ∃ c, x = .bl c ∧ if c = true then ev Sm a Γ Q else ev Sm b Γ Q
  | .call f as, Γ, Q => ev Sm as Γ fun x => argsOf x fun ds => Sm.F f ds Q
  | .mk c as, Γ, Q => ev Sm as Γ fun x => argsOf x fun ds => Sm.I c ds Q
  | .bi b as, Γ, Q => ev Sm as Γ fun x => argsOf x fun ds => biS b ds Q
  | .isi a t, Γ, Q => ev Sm a Γ fun x => ∃ b, tyOk Sm.nc t = true ∧ tyS Sm.nc t x = some b ∧ Q (.bl b)
  | .bm m o a, Γ, Q => ev Sm o Γ fun x => bmTy m x ∧ ev Sm a Γ fun y => bmS m x y Q
  | .om m o as, Γ, Q => ev Sm o Γ fun x => ∃ c vs f, x = .ins c vs ∧ Sm.M c m = some f ∧ ev Sm as Γ fun y => argsOf y fun ds => Sm.F f (x :: ds) Q
  | .fld o f, Γ, Q => ev Sm o Γ fun x => ∃ c vs j d, x = .ins c vs ∧ Sm.fx c f = some j ∧ vs[j]? = some d ∧ Q d
  | .idx o i, Γ, Q => ev Sm o Γ fun x => ev Sm i Γ fun y => idxS x y Q
  | .slc o lo hi, Γ, Q => ev Sm o Γ fun x => ev Sm lo Γ fun a => ev Sm hi Γ fun b => partOf a fun l => partOf b fun h => slcS x l h Q
  | .part a, Γ, Q => ev Sm a Γ fun x => ∃ i, x = .int i ∧ Q (.int i)
  | .nopart, _, Q => Q .non
  | .rev o, Γ, Q => ev Sm o Γ fun x => ∃ xs, x = .lst xs ∧ Q (.lst xs.reverse)
  | .lst as, Γ, Q => ev Sm as Γ fun x => argsOf x fun ds => ds.length ≤ sizeLine ∧ Q (.lst ds)
  | .tup as, Γ, Q => ev Sm as Γ fun x => argsOf x fun ds => ds.length ≤ sizeLine ∧ Q (.tup ds)
  | .lc tg it tst elt, Γ, Q => ev Sm it Γ fun d => ∃ xs, itemsOf d = some xs ∧
      lcW (fun x K => stT tg (wipeE Γ tg.slots) x K) (fun Γ' Q' => ev Sm tst Γ' Q') (fun Γ' Q' => ev Sm elt Γ' Q') xs [] fun ys => Q (.lst ys)
  | .tt, _, Q => Q (.bl true)
  | .lc2 tg it tg1 it1 elt, Γ, Q => ev Sm it Γ fun d => ∃ xs, itemsOf d = some xs ∧
      lc2W (fun x K => stT tg (wipeE Γ (tg.slots ++ tg1.slots)) x K) (fun Γ' K => ev Sm it1 Γ' fun d => ∃ ys, itemsOf d = some ys ∧ K ys) (fun Γ' x K => stT tg1 (wipeE Γ' tg1.slots) x K) (fun Γ' Q' => ev Sm elt Γ' Q') xs [] fun ys => Q (.lst ys)
  | .rng1 a, Γ, Q => ev Sm a Γ fun x => ∃ n : Int, x = .int n ∧ -(2 ^ 62) ≤ n ∧ n < 2 ^ 62 ∧ Q (.lst ((List.range n.toNat).map fun i => .int (i : Nat)))
  | .rng2 a b, Γ, Q => ev Sm a Γ fun x => ev Sm b Γ fun y => ∃ lo n : Int, x = .int lo ∧ y = .int n ∧ (-(2 ^ 62) ≤ lo ∧ lo < 2 ^ 62 ∧ -(2 ^ 62) ≤ n ∧ n < 2 ^ 62) ∧ Q (.lst ((List.range (n - lo).toNat).map fun i => .int (lo + (i : Nat))))
  | .rng3 _ _ _, _, _ => False
  | .catL a b, Γ, Q => ev Sm a Γ fun x => ev Sm b Γ fun y => ∃ xs ys, x = .lst xs ∧ y = .lst ys ∧ xs.length + ys.length ≤ sizeLine ∧ Q (.lst (xs ++ ys))
  | .repL a b, Γ, Q => ev Sm a Γ fun x => ev Sm b Γ fun y => ∃ xs, ∃ n : Int, x = .lst xs ∧ y = .int n ∧ -(2 ^ 63) ≤ n ∧ n < 2 ^ 63 ∧ xs.length * n.toNat ≤ sizeLine ∧ Q (.lst (rep xs n.toNat))
  | .slcL o lo hi, Γ, Q => ev Sm o Γ fun x => ev Sm lo Γ fun a => ev Sm hi Γ fun b => partOf a fun l => partOf b fun h => ∃ xs, x = .lst xs ∧ Q (.lst (cut xs l h))
  | .zip a b, Γ, Q => ev Sm a Γ fun x => ev Sm b Γ fun y => ∃ s t, x = .str s ∧ y = .str t ∧ Q (.lst ((s.zip t).map fun p => .tup [.str [p.1], .str [p.2]]))
  | .idxO i ix, Γ, Q => ∃ xs, Γ[i]? = some (some (.own xs)) ∧ ev Sm ix Γ fun y => ∃ j d, y = .int j ∧ atI xs j = some d ∧ Q d
  | .fldO i f, Γ, Q => ∃ c vs j d, Γ[i]? = some (some (.obj c vs)) ∧ Sm.fx c f = some j ∧ vs[j]? = some d ∧ Q d
  | .ownI i, Γ, Q => ∃ xs, Γ[i]? = some (some (.own xs)) ∧ Q (.lst xs)
  | .lenO i, Γ, Q => ∃ xs, Γ[i]? = some (some (.own xs)) ∧ Q (.int xs.length)
  | .lend i e, Γ, Q => ∃ xs, Γ[i]? = some (some (.own xs)) ∧ ev Sm e (Γ.set i (some (.val (.lst xs)))) fun d => noL d = true ∧ Q d
  | .glb _ n, _, Q => Q (.int n)
  | .isLT a, Γ, Q => ev Sm a Γ fun d => ∃ b, isLT Sm.nc d = some b ∧ Q (.bl b)
  | .cpyO i, Γ, Q => ∃ xs, Γ[i]? = some (some (.own xs)) ∧ Q (.lst xs)
  | .sset a, Γ, Q => ev Sm a Γ fun d => ∃ ns : List Int, (d = .lst (ns.map .int) ∨ d = .tup (ns.map .int)) ∧ ns.length ≤ 4000 ∧ ∀ ms : List Int, (∀ x, x ∈ ms ↔ x ∈ ns) → ms.Pairwise (· < ·) → Q (.lst (ms.map .int))
  | .lrg1 tp a, Γ, Q => ev Sm a Γ fun x => ∃ n : Int, x = .int n ∧ (0 ≤ n ∧ n ≤ 16777216) ∧ Q (sqD tp ((List.range n.toNat).map fun i => .int (i : Nat)))
  | .lrg2 tp a b, Γ, Q => ev Sm a Γ fun x => ev Sm b Γ fun y => ∃ m n : Int, x = .int m ∧ y = .int n ∧ (0 ≤ m ∧ m ≤ 16777216 ∧ 0 ≤ n ∧ n ≤ 16777216) ∧ Q (sqD tp ((List.range (n - m).toNat).map fun i => .int (m + (i : Nat))))
  | .inO neg a i, Γ, Q => ev Sm a Γ fun x => ∃ ys, Γ[i]? = some (some (.own ys)) ∧ flatD x = true ∧ (ys.all fun z => sameKind z x) = true ∧ Q (.bl (if neg then !inD x ys else inD x ys))

/-- the ends of a statement; ro: a list of one's own is handed back -/
structure DE where
  nx : Env → Prop
  rt : DV → Prop
  ro : List DV → Prop
  bk : Env → Prop
  ct : Env → Prop

def forW (st : Env → DV → (Env → Prop) → Prop) (body : Env → DE → Prop) (D : DE) : List DV → Env → Prop
  | [], Γ => D.nx Γ
  | x :: r, Γ => st Γ x fun Γ' => body Γ' { nx := forW st body D r, rt := D.rt, ro := D.ro, bk := D.nx, ct := forW st body D r }
def whW (t : Env → (DV → Prop) → Prop) (body : Env → DE → Prop) (D : DE) : Nat → Env → Prop
  | 0, _ => False
  | n + 1, Γ => t Γ fun b => ∃ bb, b = .bl bb ∧ if bb = true then body Γ { nx := whW t body D n, rt := D.rt, ro := D.ro, bk := D.nx, ct := whW t body D n } else D.nx Γ

/-- what an expression is that gives a new list -/
def E.isNew : E → Bool
  | .lst _ => true
  | .lc _ _ _ _ => true
  | .lc2 _ _ _ _ _ => true
  | .rev _ => true
  | .bi .list _ => true
  | .bi .sorted _ => true
  | .catL _ _ => true
  | .repL _ _ => true
  | .slcL _ _ _ => true
  | .sset _ => true
  | .cpyO _ => true
  | .lrg1 tp _ => !tp
  | .lrg2 tp _ _ => !tp
  | _ => false

def ex (Sm : Sem) : Cm → Env → DE → Prop
  | .nop, Γ, D => D.nx Γ
  | .seq a b, Γ, D => ex Sm a Γ { D with nx := fun Γ' => ex Sm b Γ' D }
  | .asg i e, Γ, D => ev Sm e Γ fun d => D.nx (Γ.set i (some (.val d)))
  | .asgO i e, Γ, D => ev Sm e Γ fun d => ∃ xs, d = .lst xs ∧ D.nx (Γ.set i (some (.own xs)))
  | .asg2 i j e, Γ, D => ev Sm e Γ fun d => stT (.two i j) Γ d D.nx
  | .par i j a b, Γ, D => ev Sm a Γ fun x => ev Sm b Γ fun y => D.nx ((Γ.set i (some (.val x))).set j (some (.val y)))
  | .aug i o e, Γ, D => ∃ a, Γ[i]? = some (some (.val (.int a))) ∧ ev Sm e Γ fun d => ∃ b, d = .int b ∧ match o with
      | .Add => D.nx (Γ.set i (some (.val (.int (a + b)))))
      | .Sub => D.nx (Γ.set i (some (.val (.int (a - b)))))
      | _ => False
  | .frz i b, Γ, D => ∃ xs, Γ[i]? = some (some (.own xs)) ∧ ex Sm b (Γ.set i (some (.val (.lst xs)))) D
  | .app i e, Γ, D => ∃ xs, Γ[i]? = some (some (.own xs)) ∧ ev Sm e Γ fun d => xs.length < sizeLine ∧ D.nx (Γ.set i (some (.own (xs ++ [d]))))
  | .seti i ix e, Γ, D => ev Sm e Γ fun d => ∃ xs, Γ[i]? = some (some (.own xs)) ∧ ev Sm ix Γ fun y => ∃ k j, y = .int k ∧ ixN xs.length k = some j ∧ D.nx (Γ.set i (some (.own (xs.set j d))))
  | .fset i f e, Γ, D => ev Sm e Γ fun d => ∃ c vs, Γ[i]? = some (some (.obj c vs)) ∧ Sm.fx c f = some vs.length ∧ D.nx (Γ.set i (some (.obj c (vs ++ [d]))))
  | .drop e, Γ, D => ev Sm e Γ fun _ => D.nx Γ
  | .ret e, Γ, D => ev Sm e Γ D.rt
  | .retO i, Γ, D => ∃ xs, Γ[i]? = some (some (.own xs)) ∧ D.ro xs
  | .retF e, Γ, D => ev Sm e Γ fun d => ∃ xs, d = .lst xs ∧ D.ro xs
  | .retN, _, D => D.rt .non
  | .ite t a b, Γ, D => ev Sm t Γ fun x => ∃ c, x = .bl c ∧ if c = true then ex Sm a Γ D else ex Sm b Γ D
  | .for_ tg it b, Γ, D => ev Sm it Γ fun d => ∃ xs, itemsOf d = some xs ∧ forW (fun Γ x K => stT tg Γ x K) (fun Γ' D' => ex Sm b Γ' D') D xs Γ
  | .while_ t b, Γ, D => ∃ n, whW (fun Γ' Q' => ev Sm t Γ' Q') (fun Γ' D' => ex Sm b Γ' D') D n Γ
  | .brk, Γ, D => D.bk Γ
  | .cnt, Γ, D => D.ct Γ
  | .never, _, _ => False
end Vg


set_option Elab.async false
set_option linter.all false
set_option maxRecDepth 100000
set_option maxHeartbeats 4000000
/-! Vg: operators -/
namespace Vg
open PySem L2

/-- what is handed to a wish: the value, with what it is in the heap -/
abbrev Gives (S : Sg) (Hk H : Hp) (QD : DV → Prop) (Q : VK) : Prop := ∀ d v Hk' H', Step Hk H Hk' H' → Rep S Hk' d v → QD d → Q v H'
/-- .. a new list that nobody knows -/
abbrev GivesL (S : Sg) (Hk H : Hp) (QD : DV → Prop) (Q : VK) : Prop := ∀ ds p vs Hk' H', Step Hk H Hk' H' → H p = none → Hk' p = none → H' p = some (.lst vs) → Reps S Hk' ds vs → QD (.lst ds) → Q (.ref p) H'
section
variable {S : Sg} {Hk H : Hp} {QD : DV → Prop} {Q : VK}
theorem Gives.toL (g : Gives S Hk H QD Q) : GivesL S Hk H QD Q := fun ds p vs Hk' H' st h0 h1 h2 r q =>
  g (.lst ds) (.ref p) (upd Hk' p (.lst vs)) H' (st.frz h0 h1 h2) (.lst (.inl upd_same) (r.mono (same_new h1))) q
theorem Gives.here (g : Gives S Hk H QD Q) (i : Same Hk H) {d : DV} {v : V} (r : Rep S Hk d v) (q : QD d) : Q v H := g d v Hk H (Step.refl i) r q
theorem Gives.step {Hk1 H1 : Hp} (g : Gives S Hk H QD Q) (st : Step Hk H Hk1 H1) : Gives S Hk1 H1 QD Q := fun d v Hk' H' s r q => g d v Hk' H' (st.trans s) r q
theorem GivesL.step {Hk1 H1 : Hp} (g : GivesL S Hk H QD Q) (st : Step Hk H Hk1 H1) : GivesL S Hk1 H1 QD Q := fun ds p vs Hk' H' s h0 h1 h2 r q =>
  g ds p vs Hk' H' (st.trans s) (st.h.free h0) h1 h2 r q
theorem GivesL.new (g : GivesL S Hk H QD Q) (i : Same Hk H) {p : Addr} (h : H p = none) {ds : List DV} {vs : List V} (r : Reps S Hk ds vs) (q : QD (.lst ds)) : Q (.ref p) (upd H p (.lst vs)) :=
  g ds p vs Hk _ (Step.newO i h) h (none_of_same i h) upd_same r q
theorem Gives.newT (g : Gives S Hk H QD Q) (i : Same Hk H) {p : Addr} (h : H p = none) {ds : List DV} {vs : List V} (r : Reps S Hk ds vs) (q : QD (.tup ds)) : Q (.ref p) (upd H p (.tup vs)) :=
  g (.tup ds) _ _ _ (Step.new i h) (.tup (.inl (.inl upd_same)) (r.mono (same_new (none_of_same i h)))) q
end

theorem PE_imp {X : Cx} {e : Expr} {t t' : TE} (h : PE X e t) (i : ∀ σ H Q, t' σ H Q → t σ H Q) : PE X e t' := ⟨fun pins s σ H Q I q => h.run pins s σ H Q I (i σ H Q q)⟩
theorem PT_imp {X : Cx} {e : Expr} {t t' : TT} (h : PT X e t) (i : ∀ σ H Q, t' σ H Q → t σ H Q) : PT X e t' := ⟨fun pins s σ H Q I q => h.run pins s σ H Q I (i σ H Q q)⟩
theorem PA_imp {X : Cx} {e : List Expr} {t t' : TA} (h : PA X e t) (i : ∀ σ H Q, t' σ H Q → t σ H Q) : PA X e t' := ⟨fun pos pins s σ H Q I q => h.run pos pins s σ H Q I (i σ H Q q)⟩
theorem PS_imp {X : Cx} {e : Stmt} {t t' : TS} (h : PS X e t) (i : ∀ D σ H, t' D σ H → t D σ H) : PS X e t' := ⟨fun pins s σ H D I q => h.run pins s σ H D I (i D σ H q)⟩
theorem PSs_imp {X : Cx} {e : List Stmt} {t t' : TS} (h : PSs X e t) (i : ∀ D σ H, t' D σ H → t D σ H) : PSs X e t' := ⟨fun pins s σ H D I q => h.run pins s σ H D I (i D σ H q)⟩
theorem PO_imp {X : Cx} {e : Option Expr} {t t' : TO} (h : PO X e t) (i : ∀ σ H Q, t' σ H Q → t σ H Q) : PO X e t' := ⟨fun pins s σ H Q I q => h.run pins s σ H Q I (i σ H Q q)⟩
theorem PI_imp {X : Cx} {tg e : Expr} {t t' : TI} (h : PI X tg e t) (i : ∀ σ H Q, t' σ H Q → t σ H Q) : PI X tg e t' := ⟨fun pins s σ H Q I q => h.run pins s σ H Q I (i σ H Q q)⟩

/-! ### what the names of the text mean -/
structure Nm where
  fn : Nat → Option Str
  cn : Nat → Option Str
  mid : Nat → Str
  fid : Nat → Str
  ar : Nat → Nat
  fresh : Nat → Bool
  hasM : Bi → Bool
  gn : Nat → Option (Str × Int)

/-- a def's promise, by what F says of it -/
def spF (S : Sg) (Sm : Sem) (T : Nm) (f : Nat) : Sp := fun vs H Q _ => ∃ ds QD Hk, Same Hk H ∧ Reps S Hk ds vs ∧ ds.length = T.ar f ∧ Sm.F f ds QD ∧ (if T.fresh f = true then GivesL S Hk H QD Q else Gives S Hk H QD Q)
/-- an __init__'s promise: the new instance stands at p and has no attribute -/
def spI (S : Sg) (Sm : Sem) (ar : Nat → Nat) (c : Nat) : Sp := fun vs H Q _ => ∃ (p dx : Addr) (ws : List V), ∃ ds QD Hk, vs = .ref p :: ws ∧ H p = some (.ins (S.cls c) dx []) ∧ Hk p = none ∧ Same Hk H ∧ Reps S Hk ds ws ∧ ds.length = ar c ∧ Sm.I c ds QD ∧
  ∀ d us H' Hk', ∀ fs : List (Str × V), d = .ins c us → H' p = some (.ins (S.cls c) dx fs) → Hk' p = none → fs.map (·.1) = S.fnames c → Reps S Hk' us (fs.map (·.2)) → Step Hk (fun a => if a = p then none else H a) Hk' H' → QD d → Q .non H'

structure FA (X : Cx) (S : Sg) (Sm : Sem) (T : Nm) (k f : Nat) (a : Addr) : Prop where
  ex : ∃ (fd : FuncData) (ps : List Str) (j : Nat), j + 1 ≤ k ∧ Binds X.K fd ps [] ∧ FnOk X.prog X.w X.K X.mg X.base CX0 j a fd ps (spF S Sm T f)

def bltNames : List Str := ["len", "int", "str", "bool", "abs", "max", "min", "sum", "all", "any", "sorted", "list", "tuple", "divmod", "isinstance", "range", "zip", "set", "enumerate"]

/-- the run of a body that the terms speak of -/
structure XOk (S : Sg) (Sm : Sem) (T : Nm) (k : Nat) (arI : Nat → Nat) (X : Cx) : Prop where
  calm : X.calm = true
  K : X.K = S.K
  nd : X.N.Nodup
  room : Room k X.A
  fns : ∀ f x, T.fn f = some x → ∃ a, X.mg x = some (.ref a) ∧ PySem.W.keepIn X.K (.ref a) = true ∧ FA X S Sm T k f a
  mth : ∀ c m f, Sm.M c m = some f → PySem.W.selfFirst X.K (S.cls c) = true ∧ (∃ a, Meth X.K (S.cls c) (T.mid m) a ∧ FA X S Sm T k f a) ∧ T.mid m ∉ S.fnames c ∧ Cls X.K (S.cls c)
  mks : ∀ c x, T.cn c = some x → X.mg x = some (.ref (S.cls c)) ∧ ∃ (a : Addr) (fd : FuncData) (ps : List Str) (j : Nat), Mk X.K (S.cls c) a ∧ Binds X.K fd ps [] ∧ FnOk X.prog X.w X.K X.mg X.base CX0 j a fd ps (spI S Sm arI c) ∧ j + 1 ≤ k
  fld : ∀ c f j, Sm.fx c f = some j → NoAttr X.K (S.cls c) (T.fid f) ∧ (S.fnames c)[j]? = some (T.fid f) ∧ (S.fnames c).Nodup ∧ Cls X.K (S.cls c) ∧ (S.fnames c).length < 1000
  blt : ∀ x ∈ bltNames, X.mg x = none
  bid : ∀ o m, binId o = some m → PySem.dunder o.info.2 = T.mid m
  bin5 : T.mid idContains = "__contains__"
  bin6 : T.mid idInvert = "__invert__"
  bin7 : T.mid idEq = "__eq__"
  ne : ∀ c f, Sm.M c idEq = some f → PySem.W.findIn X.K (.ref (S.cls c)) "__ne__" = some (some (.builtin "object.__ne__")) ∧ PySem.W.mroIn X.K (S.cls c) (.type "object") = some true
  lcm : T.hasM .lcm = true → X.mg "lcm" = some (.builtin "math.lcm")
  gcd : T.hasM .gcd = true → X.mg "gcd" = some (.builtin "math.gcd")
  glb : ∀ j x n, T.gn j = some (x, n) → ∃ u, X.mg x = some u ∧ RelV (.int n) u
  cnx : ∀ c, c < Sm.nc → ∃ x, T.cn c = some x
  tyI : ∀ c, c < Sm.nc → ∀ (H : Hp) (a dx : Addr) (fs : List (Str × V)), H a = some (.ins (S.cls c) dx fs) → TyOf X.K H (.ref a) (.ref (S.cls c))
  isi1 : ∀ c d, c < Sm.nc → d < Sm.nc → PySem.W.kitOne X.K (.ref (S.cls c)) (.ref (S.cls d)) = some (decide (d = c))
  isi2 : ∀ c, c < Sm.nc → ∀ n ∈ (["str", "int", "bool", "list", "tuple"] : List String), PySem.W.kitOne X.K (.ref (S.cls c)) (.type n) = some false
  isi3 : ∀ c, c < Sm.nc → ∀ n ∈ (["str", "int", "bool", "list", "tuple", "NoneType"] : List String), PySem.W.kitOne X.K (.type n) (.ref (S.cls c)) = some false
  arF : ∀ f ds QD, Sm.F f ds QD → ds.length = T.ar f
  arI : ∀ c ds QD, Sm.I c ds QD → ds.length = arI c

section
variable {S : Sg} {Sm : Sem} {T : Nm} {k : Nat} {arI : Nat → Nat} {X : Cx}

/-- the callee of an own operator runs -/
theorem run_F {pins : List (Addr × Obj)} {σ : St} {H Hk : Hp} {s : Shared} {Q : VK} {QD : DV → Prop} {f : Nat} {a : Addr} {us : List Value} {vs : List V} {ds : List DV} (ok : XOk S Sm T k arI X) (fa : FA X S Sm T k f a) (I : Inv X pins σ H s) (r : Vals vs us)
    (i : Same Hk H) (rd : Reps S Hk ds vs) (h : Sm.F f ds QD) (g : Gives S Hk H QD Q) : wpAny (model X.prog X.w) X.A (PySem.call (.ref a) us) (EP X pins σ Q) X.xe s := by
  obtain ⟨fd, ps, j, hj, b, F⟩ := fa.ex
  have F := F.mono (Nat.le_of_succ_le hj)
  refine run_fn (dvs := []) (ds := []) (E := E0) F ok.room b .nil pass0 I r ?_
  rw [List.append_nil]
  refine ⟨ds, QD, Hk, i, rd, ok.arF f ds QD h, h, ?_⟩
  split
  · exact g.toL
  · exact g
/-- .. one call deeper: from a built-in's code -/
theorem run_F1 {pins : List (Addr × Obj)} {σ : St} {H Hk : Hp} {s : Shared} {Q : VK} {QD : DV → Prop} {f : Nat} {a : Addr} {us : List Value} {vs : List V} {ds : List DV} (ok : XOk S Sm T k arI X) (fa : FA X S Sm T k f a) (I : Inv X pins σ H s) (r : Vals vs us)
    (i : Same Hk H) (rd : Reps S Hk ds vs) (h : Sm.F f ds QD) (g : Gives S Hk H QD Q) : wpAny (model X.prog X.w) X.A.in1 (PySem.call (.ref a) us) (EP X pins σ Q) X.xe s := by
  obtain ⟨fd, ps, j, hj, b, F⟩ := fa.ex
  have hs : spF S Sm T f vs H Q E0 := ⟨ds, QD, Hk, i, rd, ok.arF f ds QD h, h, by
    split
    · exact g.toL
    · exact g⟩
  have hl : us.length = ps.length := by rw [← r.length]; exact F.len _ _ _ _ hs
  have hb := b s us I.kIn (by rw [List.append_nil]; exact hl)
  rw [List.append_nil] at hb
  refine wpAny_call (codeAny_mono (F.run X.A.in1 X.stack s H ⟨us, []⟩ us vs Q E0 (ok.room.mono hj).in1 I.env0.in1 hb r hs) fun r s' hq => ?_)
  cases r with
  | error e => exact pass0 pins σ H s e s' I hq
  | ok fl =>
    cases fl with
    | ret u => exact I.after hq
    | next => exact hq.elim
    | brk => exact hq.elim
    | cont => exact hq.elim
end
end Vg


set_option Elab.async false
set_option linter.all false
set_option maxRecDepth 100000
set_option maxHeartbeats 4000000
namespace Vg
open PySem L2

/-! ### lists and data -/
theorem rep_flat {α : Type} (xs : List α) : ∀ n : Nat, (List.replicate n xs).flatten = rep xs n
  | 0 => rfl
  | n + 1 => by
    rw [List.replicate_succ, List.flatten_cons, rep_flat xs n]
    rfl
theorem Reps.rep {S : Sg} {H : Hp} {ds : List DV} {vs : List V} (r : Reps S H ds vs) : ∀ n : Nat, Reps S H (Vg.rep ds n) (Vg.rep vs n)
  | 0 => .nil
  | n + 1 => Reps.append r (Reps.rep r n)
theorem rep_length {α : Type} (xs : List α) : ∀ n : Nat, (rep xs n).length = xs.length * n
  | 0 => by simp [rep]
  | n + 1 => by
    show (xs ++ rep xs n).length = _
    rw [List.length_append, rep_length xs n, Nat.mul_succ, Nat.add_comm]
theorem str_app (a b : List Nat) : (⟨a.toArray⟩ : Str) ++ (⟨b.toArray⟩ : Str) = ⟨(a ++ b).toArray⟩ := by
  show (⟨a.toArray ++ b.toArray⟩ : Str) = _
  rw [List.append_toArray]
theorem str_len (a : List Nat) : (⟨a.toArray⟩ : Str).length = a.length := by
  show a.toArray.size = _
  simp
theorem str_inj {a b : List Nat} (h : (⟨a.toArray⟩ : Str) = ⟨b.toArray⟩) : a = b := by
  have := congrArg (fun z : Str => z.cps.toList) h
  simpa using this

section
variable {S : Sg} {Sm : Sem} {T : Nm} {k : Nat} {arI : Nat → Nat} {X : Cx}

open PySem PySem.Spec PyProof.Rows in
theorem op_fdivV : OpR X (binaryOp .FloorDiv) (rI CDv fun i j => .int (i.fdiv j)) := opI fun _ _ _ _ _ _ _ hc q => floordiv_int hc.1 q (.inl (PyProof.noPylong_of_log2 (Nat.lt_of_lt_of_le (PySem.Flt.log2_lt_of (by decide) hc.2) (by decide))))

theorem add_lists : OpR X (binaryOp .Add) (fun x y H Q => ∃ a b xs zs, x = .ref a ∧ y = .ref b ∧ Rd H a (.lst xs) ∧ Rd H b (.lst zs) ∧ xs.length + zs.length ≤ sizeLine ∧ ∀ p, H p = none → Q (.ref p) (upd H p (.lst (xs ++ zs)))) := by
  intro pins s σ H x y v u Q I rx ry h
  obtain ⟨a, b, xs, zs, rfl, rfl, ha, hb, hz, q⟩ := h
  cases rx
  cases ry
  obtain ⟨_, i1, n1, r1, e1⟩ := ha.ok I.hok
  obtain ⟨_, i2, n2, r2, e2⟩ := hb.ok I.hok
  have l1 := r1.length
  have l2 := r2.length
  refine PySem.P.add_list e1 e2 ?_ (by simp only [List.size_toArray]; omega)
  rw [List.append_toArray]
  exact ⟨.ref _, _, I.lnew (t' := s.toks) (r1.append r2) (by simp only [List.length_append]; omega), rfl, q _ I.fresh⟩

theorem fold_rep {α : Type} (a : List α) : ∀ (n : Nat) (acc : List α), List.foldl (fun x y => x ++ y) acc.toArray (List.replicate n a.toArray) = (acc ++ rep a n).toArray
  | 0, acc => by simp [rep]
  | n + 1, acc => by
    rw [List.replicate_succ, List.foldl_cons, List.append_toArray, fold_rep a n (acc ++ a), List.append_assoc]
    rfl
/-- text times int -/
theorem mul_strs : OpR X (binaryOp .Mult) (fun x y H Q => ∃ (a : List Nat) (n : Int), x = .str ⟨a.toArray⟩ ∧ y = .int n ∧ -(2 ^ 63) ≤ n ∧ n < 2 ^ 63 ∧ a.length * n.toNat ≤ sizeLine ∧ Q (.str ⟨(Vg.rep a n.toNat).toArray⟩) H) := by
  intro pins s σ H x y v u Q I rx ry h
  obtain ⟨a, n, rfl, rfl, h1, h2, hz, q⟩ := h
  obtain ⟨t, rfl⟩ := rx
  obtain ⟨t', rfl⟩ := ry
  have hs : (⟨a.toArray⟩ : Str).length = a.length := str_len a
  have line : (sizeLine : Nat) = 16777216 := rfl
  refine PySem.P.mul_str ?_ (fun hn hc => ?_) (fun hn hc => ?_) ?_
  · simp only [Bool.or_eq_false_iff, decide_eq_false_iff_not]
    omega
  · rw [hs]
    intro hgt
    have hn1 : 0 < n := by omega
    have h3 := Int.ediv_mul_le (2 ^ 63 - 1 : Int) (b := n) (by omega)
    have h4 : ((2 ^ 63 - 1) / n + 1) * n ≤ (a.length : Int) * n := Int.mul_le_mul_of_nonneg_right (by omega) (by omega)
    have h5 : (2 ^ 63 - 1 : Int) < ((2 ^ 63 - 1) / n + 1) * n := Int.lt_ediv_add_one_mul_self _ hn1
    have h6 : (a.length : Int) * n ≤ 16777216 := by
      have : (a.length : Int) * n = ((a.length * n.toNat : Nat) : Int) := by
        rw [Int.natCast_mul, Int.toNat_of_nonneg (by omega)]
      rw [this]
      omega
    omega
  · rw [hs]
    show decide (a.length * n.toNat > sizeLine) = false
    exact decide_eq_false (by omega)
  · by_cases hn : n < 1
    · rw [if_pos hn]
      have e0 : n.toNat = 0 := by omega
      rw [e0] at q
      exact ⟨by decide, .str Str.empty, H, I.tok _, ⟨_, rfl⟩, q⟩
    · rw [if_neg hn]
      by_cases h1' : (n == 1 || (⟨a.toArray⟩ : Str).length == 0) = true
      · rw [if_pos h1']
        have e : Vg.rep a n.toNat = a := by
          rw [hs] at h1'
          simp only [Bool.or_eq_true, beq_iff_eq] at h1'
          rcases h1' with z | z
          · subst z
            show a ++ [] = a
            rw [List.append_nil]
          · have : a = [] := List.eq_nil_of_length_eq_zero z
            subst this
            have : ∀ m : Nat, Vg.rep ([] : List Nat) m = [] := fun m => List.eq_nil_of_length_eq_zero (by rw [rep_length]; simp)
            exact this _
        rw [e] at q
        exact ⟨.str ⟨a.toArray⟩, H, I, ⟨_, rfl⟩, q⟩
      · rw [if_neg h1']
        have e := fold_rep a n.toNat []
        rw [List.nil_append] at e
        have e2 : (List.replicate n.toNat (⟨a.toArray⟩ : Str).cps).foldl (fun x y => x ++ y) #[] = (Vg.rep a n.toNat).toArray := e
        refine ⟨?_, .str ⟨(Vg.rep a n.toNat).toArray⟩, H, I.tok _, ⟨s.toks, ?_⟩, q⟩
        · show (Array.size _) ≤ _
          rw [e2]
          simp only [List.size_toArray, rep_length]
          exact hz
        · rw [e2]

theorem lt_line {n : Nat} (h : n ≤ sizeLine) : n ≤ sizeLine := h

/-- an own operator -/
theorem op_inst {o : Operator} {m : Nat} (ok : XOk S Sm T k arI X) (hm : binId o = some m) : OpR X (binaryOp o) (fun x y H Q => ∃ c us ws f Hk QD, Same Hk H ∧ Rep S Hk (.ins c us) x ∧ Rep S Hk (.ins c ws) y ∧ Sm.M c m = some f ∧ Sm.F f [.ins c us, .ins c ws] QD ∧ Gives S Hk H QD Q) := by
  intro pins s σ H x y v u Q I rx ry h
  obtain ⟨c, us, ws, f, Hk, QD, i, r1, r2, hM, hF, g⟩ := h
  obtain ⟨hc, ⟨a, me, fa⟩, _, _⟩ := ok.mth c m f hM
  have q1 := r1
  have q2 := r2
  cases q1 with
  | ins e1 _ _ =>
    cases q2 with
    | ins e2 _ _ =>
      cases rx
      cases ry
      obtain ⟨mA, J, _⟩ := ins_get I.hok (i _ _ e1)
      obtain ⟨mB, J', _⟩ := ins_get I.hok (i _ _ e2)
      obtain ⟨od, J, _⟩ := J.look
      obtain ⟨od', J', _⟩ := J'.look
      obtain ⟨mm, hFr⟩ := I.fr
      refine PySem.W.binop_K (op := o) hFr I.ok.mod.kin J J'.type hc (by rw [ok.bid o m hm]; exact me.at_) me.fn ?_
      refine wpAny_mono (run_F (vs := [.ref _, .ref _]) ok fa I (.cons rfl (.cons rfl .nil)) i (.cons r1 (.cons r2 .nil)) hF g) (fun w s' z => ?_) fun _ _ x => x
      obtain ⟨z', H', I', rz, qz⟩ := z
      exact SlX.cmpback rz ⟨z', H', I', rz, qz⟩

open PySem PySem.Spec PyProof.Rows PySem.SeqRoads2 in
/-- list times int -/
theorem mul_lists : OpR X (binaryOp .Mult) (fun x y H Q => ∃ a xs, ∃ n : Int, x = .ref a ∧ y = .int n ∧ Rd H a (.lst xs) ∧ -(2 ^ 63) ≤ n ∧ n < 2 ^ 63 ∧ xs.length * n.toNat ≤ sizeLine ∧ ∀ p, H p = none → Q (.ref p) (upd H p (.lst (Vg.rep xs n.toNat)))) := by
  intro pins s σ H x y v u Q I rx ry h
  obtain ⟨a, xs, n, rfl, rfl, ha, b1, b2, hz, q⟩ := h
  cases rx
  obtain ⟨t, rfl⟩ := ry
  obtain ⟨_, its, m, r, e⟩ := ha.ok I.hok
  have hl := r.length
  have c1 : its.toArray.size * n.toNat ≤ sizeLine := by
    simp only [List.size_toArray]
    rw [← hl]
    exact hz
  have c2 : ¬ its.toArray.size * n.toNat > (2 ^ 63 - 1) / 8 := by
    have z : (sizeLine : Nat) ≤ (2 ^ 63 - 1) / 8 := by decide
    omega
  have c3 : ¬ (!Builtin.List.listFitsIndex n) = true := by
    simp [fitsIndex_both b1 b2]
  have c4 : ¬ Builtin.List.listTooLong (its.toArray.size * n.toNat) = true := by
    rw [notLongL c1]
    exact Bool.false_ne_true
  have c5 : List.foldl (fun x1 x2 => x1 ++ x2) #[] (List.replicate (if its.toArray.isEmpty = true then 0 else n.toNat) its.toArray) = (Vg.rep its n.toNat).toArray := by
    have f0 : ∀ m : Nat, List.foldl (fun x1 x2 => x1 ++ x2) #[] (List.replicate m its.toArray) = (Vg.rep its m).toArray := fun m => by
      have z := fold_rep its m []
      rwa [List.nil_append] at z
    rw [f0]
    cases its with
    | nil =>
      have z : ∀ m : Nat, Vg.rep ([] : List Value) m = [] := fun m => List.eq_nil_of_length_eq_zero (by rw [rep_length]; simp)
      rw [z, z]
    | cons b r' => simp
  have road := AutoListH.list___mul___list_int_3 a its.toArray m n t c3 c2 c4
  refine wpAny_binaryOp_repeat_ref (by decide) ⟨_, e, rfl⟩ (fun s' => typeIs_int s' n t) noFill_list_mul F.fills_int_mul F.slot_int_rmul repeat_list F.slot_int_index.lookup ?_
  refine call_meets F.slot_int_rmul (typeIs_int s n t) F.entry_int_rmul (F.args_int_rmul_2 _ _) (int___rmul___int_list n t a its.toArray m) ⟨e, rfl, ⟨_, e, rfl⟩, ?_⟩
  refine call_meets F.slot_list_mul ⟨_, e, rfl⟩ F.entry_list_mul (F.args_list_mul_2 _ _) road ⟨e, ?_⟩
  rw [c5]
  have rr : Vals (Vg.rep xs n.toNat) (Vg.rep its n.toNat) := by
    rw [← rep_flat, ← rep_flat]
    exact r.rep n.toNat
  exact ⟨.ref _, _, I.lnew (t' := s.toks) rr (by rw [rep_length]; exact hz), rfl, q _ I.fresh⟩

def rBin (S : Sg) (Sm : Sem) (o : Operator) : R2 := fun x y H Q => ∃ d e Hk QD, Same Hk H ∧ Rep S Hk d x ∧ Rep S Hk e y ∧ binS Sm o d e QD ∧ Gives S Hk H QD Q

theorem op_bin (ok : XOk S Sm T k arI X) (o : Operator) : OpR X (binaryOp o) (rBin S Sm o) := by
  intro pins s σ H x y v u Q I rx ry h
  obtain ⟨d, e, Hk, QD, i, r1, r2, hb, g⟩ := h
  cases d with
  | int a =>
    cases e with
    | int b =>
      have e1 := r1.int_inv
      have e2 := r2.int_inv
      subst e1
      subst e2
      cases o with
      | Add => exact op_add pins s σ H _ _ v u Q I rx ry ⟨a, b, rfl, rfl, g.here i .int hb⟩
      | Sub => exact op_sub pins s σ H _ _ v u Q I rx ry ⟨a, b, rfl, rfl, g.here i .int hb⟩
      | Mult => exact op_mul pins s σ H _ _ v u Q I rx ry ⟨a, b, rfl, rfl, hb.1, g.here i .int hb.2⟩
      | FloorDiv => exact op_fdivV pins s σ H _ _ v u Q I rx ry ⟨a, b, rfl, rfl, hb.1, g.here i .int hb.2⟩
      | Mod => exact op_modN pins s σ H _ _ v u Q I rx ry ⟨a, b, rfl, rfl, hb.1, g.here i .int hb.2⟩
      | Pow => exact op_pow pins s σ H _ _ v u Q I rx ry ⟨a, b, rfl, rfl, hb.1, g.here i .int hb.2⟩
      | LShift => exact op_shl pins s σ H _ _ v u Q I rx ry ⟨a, b, rfl, rfl, hb.1, g.here i .int hb.2⟩
      | RShift => exact op_shr pins s σ H _ _ v u Q I rx ry ⟨a, b, rfl, rfl, hb.1, g.here i .int hb.2⟩
      | BitAnd => exact op_and pins s σ H _ _ v u Q I rx ry ⟨a, b, rfl, rfl, g.here i .int hb⟩
      | BitOr => exact op_or pins s σ H _ _ v u Q I rx ry ⟨a, b, rfl, rfl, g.here i .int hb⟩
      | _ => exact (show False from hb).elim
    | _ => exact (show False from hb).elim
  | str a =>
    cases e with
    | str b =>
      have e1 := r1.str_inv
      have e2 := r2.str_inv
      subst e1
      subst e2
      obtain ⟨rfl, hz, hq⟩ := hb
      refine op_add_str pins s σ H _ _ v u Q I rx ry ⟨_, _, rfl, rfl, ?_, ?_⟩
      · rw [str_len, str_len]
        exact hz
      · rw [str_app]
        exact g.here i .str hq
    | int n =>
      have e1 := r1.str_inv
      have e2 := r2.int_inv
      subst e1
      subst e2
      obtain ⟨rfl, h1, h2, hz, hq⟩ := hb
      exact mul_strs pins s σ H _ _ v u Q I rx ry ⟨a, n, rfl, rfl, h1, h2, hz, g.here i .str hq⟩
    | _ => exact (show False from hb).elim
  | lst a =>
    cases e with
    | lst b =>
      obtain ⟨rfl, hz, hq⟩ := hb
      cases r1 with
      | lst h1 s1 =>
        cases r2 with
        | lst h2 s2 =>
          refine add_lists pins s σ H _ _ v u Q I rx ry ⟨_, _, _, _, rfl, rfl, same_rd i h1, same_rd i h2, by rw [← s1.length, ← s2.length]; exact hz, fun p hp => ?_⟩
          exact g.toL.new i hp (s1.append s2) hq
    | int n =>
      obtain ⟨rfl, h1, h2, hz, hq⟩ := hb
      have e2 := r2.int_inv
      subst e2
      cases r1 with
      | lst h3 s1 =>
        exact mul_lists pins s σ H _ _ v u Q I rx ry ⟨_, _, n, rfl, rfl, same_rd i h3, h1, h2, by rw [← s1.length]; exact hz, fun p hp => g.toL.new i hp (s1.rep n.toNat) hq⟩
    | _ => exact (show False from hb).elim
  | tup a =>
    cases e with
    | tup b =>
      obtain ⟨rfl, hz, hq⟩ := hb
      cases r1 with
      | tup h1 s1 =>
        cases r2 with
        | tup h2 s2 =>
          have l1 := s1.length
          have l2 := s2.length
          refine op_catA pins s σ H _ _ v u Q I rx ry ⟨_, _, _, _, rfl, rfl, ok.K ▸ same_t i h1, ok.K ▸ same_t i h2, by rw [← l1, ← l2]; exact hz, fun z => ?_, fun z z2 => ?_, fun z z2 p hp => ?_⟩
          · subst z
            cases s1
            exact g.here i (.tup h2 s2) hq
          · subst z2
            cases s2
            rw [List.append_nil] at hq
            exact g.here i (.tup h1 s1) hq
          · exact g.newT i hp (s1.append s2) hq
    | _ => exact (show False from hb).elim
  | ins c us =>
    cases e with
    | ins c' ws =>
      obtain ⟨rfl, m, f, hm, hM, hF⟩ := hb
      exact op_inst ok hm pins s σ H x y v u Q I rx ry ⟨c, us, ws, f, Hk, QD, i, r1, r2, hM, hF, g⟩
    | _ => exact (show False from hb).elim
  | _ => exact (show False from hb).elim

def rUn (S : Sg) (Sm : Sem) (o : UnaryOp) : V → Hp → VK → Prop := fun x H Q => ∃ d Hk QD, Same Hk H ∧ Rep S Hk d x ∧ unS Sm o d QD ∧ Gives S Hk H QD Q
theorem op_un (ok : XOk S Sm T k arI X) (o : UnaryOp) : UnR X (unaryOp o) (rUn S Sm o) := by
  intro pins s σ H x v Q I rx h
  obtain ⟨d, Hk, QD, i, r1, hb, g⟩ := h
  cases o with
  | USub =>
    cases d with
    | int a =>
      have e1 := r1.int_inv
      subst e1
      exact un_neg pins s σ H _ v Q I rx ⟨a, rfl, g.here i .int hb⟩
    | _ => exact (show False from hb).elim
  | Invert =>
    cases d with
    | ins c us =>
      obtain ⟨f, hM, hF⟩ := hb
      obtain ⟨hc, ⟨a, me, fa⟩, _, _⟩ := ok.mth c _ f hM
      have q1 := r1
      cases q1 with
      | ins e1 _ _ =>
        cases rx
        obtain ⟨mA, J, _⟩ := ins_get I.hok (i _ _ e1)
        obtain ⟨od, J, _⟩ := J.look
        obtain ⟨mm, hFr⟩ := I.fr
        refine PySem.W.ksp_inv hFr I.ok.mod.kin J (by rw [← ok.bin6]; exact me.at_) me.fn ?_
        exact run_F (vs := [.ref _]) ok fa I (.cons rfl .nil) i (.cons r1 .nil) hF g
    | _ => exact (show False from hb).elim
  | _ => exact (show False from hb).elim
end
end Vg


set_option Elab.async false
set_option linter.all false
set_option maxRecDepth 100000
set_option maxHeartbeats 4000000
/-! Vg: x != y, two instances of a class with an __eq__ of its own and no __ne__ -/
namespace PySem.W
open PySem PySem.Calls PyProof.Rows
section
variable {prog : Program} {w : World} {A : Around} {E : Value → Shared → Prop} {s : Shared} {K : Frag} {x y C L f : Addr} {h₀ : Heap} {m : Str → Option Value} {ox oy : Obj} {od od' : Option Obj}
/-- a special method that is a built-in slot of object -/
theorem ifBound_B {name : Str} {i : String} {args : List Value} {Q : Option Value → Shared → Prop} (X : K.In s.heap) (I : InstAt s.heap x ox C od) (hs : findIn K (.ref C) name = some (some (.builtin i))) (hb : ∀ v, bindSpecial (.builtin i) v = pure (.builtin i, [v]))
    (h : wpAny (model prog w) A (call (.builtin i) (.ref x :: args)) (fun v => Q (some v)) E s) : wpAny (model prog w) A (callSpecialIfBound? (.ref x) name args) Q E s := by
  simp only [callSpecialIfBound?, bindSpecialIfBound?]
  refine wpAny_holding (wpAny_bind (wpAny_bind (wpAny_bind (I.type.here ((looks_findIn X hs).here ?_)))) |> id)
  simp only [hb]
  refine wpAny_bind (wpAny_askSetting (wpAny_ite ?_))
  have go : wpAny (model prog w) A (call (.builtin i) ([.ref x] ++ args) >>= fun v => pure (some v)) Q E s := wpAny_bind (wpAny_mono h (fun _ _ z => wpAny_pure z) fun _ _ z => z)
  split
  · exact wpAny_bind (wpAny_pure (wpAny_pure go))
  · exact wpAny_tryCatch (wpAny_bind (wpAny_pure (wpAny_pure go)))
theorem ne_body {Q : Fin → Shared → Prop} (X : K.In s.heap) (I : InstAt s.heap x ox C od) (he : findIn K (.ref C) "__eq__" = some (some (.ref f))) (hf : isFn K (.ref f) = true) (hu : A.units < cLine)
    (h : wpAny (model prog w) A (call (.ref f) [.ref x, .ref y]) (fun v s' => ∃ b, v = .bool b ∧ Q (.done (.ret (.bool (!b)))) s') E s) : wpAny (model prog w) A (Builtin.«object.__ne__» ⟨[.ref x, .ref y], []⟩) Q E s := by
  obtain ⟨hp, g, d, t, os⟩ := s
  unfold Builtin.«object.__ne__»
  repeat (first
    | with_reducible refine wpAny_cRoomFor hu ?_
    | (refine wpAny_bind (m := callSpecialIfBound? (.ref x) (Str.ofString "__eq__") [.ref y]) (ifBound_K X I he hf (wpAny_mono h (fun r s' hr => by
        obtain ⟨b, rfl, hq⟩ := hr
        repeat (first | exact hq | exact wpAny_pure hq | exact wpAny_truthy_bool hq | refine wpAny_bind (m := truthy (.bool _)) (wpAny_truthy_bool ?_) | wp_step)) fun _ _ z => z)))
    | wp_step)
theorem ne_K {Q : Value → Shared → Prop} (hu : A.units + 1 < cLine) (Fh : Fr h₀ L s.heap m) (X₀ : K.In h₀) (I : InstAt s.heap x ox C od) (J : InstAt s.heap y oy C od') (he : findIn K (.ref C) "__eq__" = some (some (.ref f))) (hf : isFn K (.ref f) = true)
    (hn : findIn K (.ref C) "__ne__" = some (some (.builtin "object.__ne__"))) (hm : mroIn K C (.type "object") = some true)
    (h : wpAny (model prog w) A.in1 (call (.ref f) [.ref x, .ref y]) (fun v s' => ∃ b, v = .bool b ∧ Q (.bool (!b)) s') E s) : wpAny (model prog w) A (richCompare .NotEq (.ref x) (.ref y)) Q E s := by
  have X := X₀.keeps Fh.keep
  have inst : Looks (model prog w) s.heap (isInstance (.ref x) (.type "object")) true := I.type.andThen (looks_mroIn X hm)
  have one : wpAny (model prog w) A (tryCompare (.ref x) "__ne__" (.ref y)) (fun r s' => ∃ v, r = some v ∧ Q v s') E s := by
    unfold tryCompare
    refine wpAny_bind (ifBound_B X I hn F.cmp_object.ne.bind (wpAny_call (codeAny_call_builtin F.cmp_object.ne.plain F.cmpEntry_ne (check_slot F.cmpKind_ne F.cmpSplit_ne inst (F.cmpArgs_ne _ _) (ne_body X I he hf hu (wpAny_mono h (fun v s' hv => ?_) fun _ _ z => z))))))
    obtain ⟨b, rfl, hq⟩ := hv
    exact ⟨b, rfl, wpAny_pure ⟨_, rfl, hq⟩⟩
  unfold richCompare
  simp only [oneThing_ref]
  refine wpAny_holding (wpAny_bind (wpAny_cRoomFor (Nat.lt_of_succ_lt hu) (wpAny_bind (I.type.here (wpAny_bind (J.type.here ?_))))))
  rw [show (Value.ref C != Value.ref C) = false by simp]
  simp only [Bool.false_eq_true, if_false]
  refine wpAny_bind (wpAny_pure ?_)
  simp only [Bool.false_eq_true, if_false]
  refine wpAny_bind (wpAny_mono one (fun r u z => ?_) fun _ _ z => z)
  obtain ⟨v, rfl, hq⟩ := z
  exact wpAny_pure hq
end
end PySem.W


set_option Elab.async false
set_option linter.all false
set_option maxRecDepth 100000
set_option maxHeartbeats 4000000
/-! Vg: comparisons -/
namespace Vg
open PySem L2
section
variable {S : Sg} {Sm : Sem} {T : Nm} {k : Nat} {arI : Nat → Nat} {X : Cx}

mutual
theorem Rep.dp {H : Hp} : ∀ {d : DV} {v : V} {p : PyData}, Rep S H d v → pd d = some p → Dp S.K H v p
  | _, _, _, .non, e => by
    cases Option.some.inj e
    exact .non
  | _, _, _, .bl, e => by
    cases Option.some.inj e
    exact .bl _
  | _, _, _, .int, e => by
    cases Option.some.inj e
    exact .int _
  | _, _, _, .str, e => by
    cases Option.some.inj e
    exact .str _
  | _, _, p, @Rep.lst _ _ a ds vs h r, e => by
    have e' : (pd.pds ds).map PyData.list = some p := e
    cases q : pd.pds ds with
    | none =>
      rw [q] at e'
      cases e'
    | some ps =>
      rw [q] at e'
      cases Option.some.inj e'
      exact .lst (.inl h) (Reps.dp r q)
  | _, _, p, @Rep.tup _ _ a ds vs h r, e => by
    have e' : (pd.pds ds).map PyData.tuple = some p := e
    cases q : pd.pds ds with
    | none =>
      rw [q] at e'
      cases e'
    | some ps =>
      rw [q] at e'
      cases Option.some.inj e'
      exact .tup h (Reps.dp r q)
  | _, _, _, .ins _ _ _, e => by cases e
  | _, _, _, .scr _, e => by cases e
theorem Reps.dp {H : Hp} : ∀ {ds : List DV} {vs : List V} {ps : List PyData}, Reps S H ds vs → pd.pds ds = some ps → DpAll S.K H vs ps
  | _, _, _, .nil, e => by
    cases Option.some.inj e
    exact .nil
  | _, _, ps, @Reps.cons _ _ d v ds vs h r, e => by
    unfold pd.pds at e
    cases q1 : pd d with
    | none =>
      rw [q1] at e
      cases e
    | some a =>
      cases q2 : pd.pds ds with
      | none =>
        rw [q1, q2] at e
        cases e
      | some b =>
        rw [q1, q2] at e
        cases Option.some.inj e
        exact .cons (Rep.dp h q1) (Reps.dp r q2)
end

theorem eqS_spec {H : Hp} {x y : DV} {v u : V} (h : scalD x y = true) (r1 : Rep S H x v) (r2 : Rep S H y u) : scal v u = true ∧ decide (v = u) = eqS x y := by
  cases x <;> cases y <;> first | cases h | skip
  · cases r1
    cases r2
    exact ⟨rfl, rfl⟩
  · cases r1
    cases r2
    rename_i a b
    refine ⟨rfl, ?_⟩
    show _ = decide (a = b)
    exact decide_eq_decide.mpr ⟨fun z => V.bl.inj z, fun z => congrArg V.bl z⟩
  · cases r1
    cases r2
    rename_i a b
    refine ⟨rfl, ?_⟩
    show _ = decide (a = b)
    exact decide_eq_decide.mpr ⟨fun z => V.int.inj z, fun z => congrArg V.int z⟩
  · cases r1
    cases r2
    rename_i a b
    refine ⟨rfl, ?_⟩
    show _ = decide (a = b)
    exact decide_eq_decide.mpr ⟨fun z => str_inj (V.str.inj z), fun z => by rw [z]⟩

theorem flat_spec {H : Hp} {x : DV} {v : V} (h : flatD x = true) (r : Rep S H x v) : flatV v = true := by
  cases x <;> first | cases h | skip
  all_goals (cases r; rfl)
theorem kind_spec {H : Hp} {x y : DV} {v u : V} (h : sameKind y x = true) (r1 : Rep S H x v) (r2 : Rep S H y u) : flatV u = true ∧ eqV u v = eqS y x := by
  cases y <;> cases x <;> first | cases h | skip
  · cases r1
    cases r2
    exact ⟨rfl, rfl⟩
  · cases r1
    cases r2
    exact ⟨rfl, rfl⟩
  · cases r1
    cases r2
    rename_i b a
    refine ⟨rfl, ?_⟩
    show ((⟨b.toArray⟩ : Str) == ⟨a.toArray⟩) = decide (b = a)
    by_cases e : b = a
    · rw [e]
      simp
    · rw [decide_eq_false e]
      exact beq_eq_false_iff_ne.mpr fun z => e (str_inj z)
theorem inD_spec {H : Hp} {x : DV} {v : V} (r : Rep S H x v) : ∀ {ys : List DV} {us : List V}, Reps S H ys us → (ys.all fun z => sameKind z x) = true → us.all flatV = true ∧ inV v us = inD x ys
  | _, _, .nil, _ => ⟨rfl, rfl⟩
  | _, _, .cons h t, e => by
    rw [List.all_cons, Bool.and_eq_true] at e
    obtain ⟨e1, e2⟩ := e
    obtain ⟨f1, f2⟩ := kind_spec e1 r h
    obtain ⟨g1, g2⟩ := inD_spec r t e2
    refine ⟨by rw [List.all_cons, f1, g1]; rfl, ?_⟩
    show (List.any (_ :: _) _) = (List.any (_ :: _) _)
    rw [List.any_cons, List.any_cons, f2]
    exact congrArg (eqS _ _ || ·) g2

def rCmp (S : Sg) (Sm : Sem) (o : CmpOp) : R2 := fun x y H Q => ∃ d e Hk QD, Same Hk H ∧ Rep S Hk d x ∧ Rep S Hk e y ∧ cmpS Sm o d e QD ∧ Gives S Hk H QD Q

theorem in_inst (ok : XOk S Sm T k arI X) {c f : Nat} {us : List DV} {d : DV} {x y : V} {neg : Bool} {pins : List (Addr × Obj)} {s : Shared} {σ : St} {H Hk : Hp} {v u : Value} {Q : VK} {QD : DV → Prop} (I : Inv X pins σ H s) (rx : RelV x v) (ry : RelV y u)
    (i : Same Hk H) (r1 : Rep S Hk d x) (r2 : Rep S Hk (.ins c us) y) (hM : Sm.M c idContains = some f) (hF : Sm.F f [.ins c us, d] fun d => ∃ b, d = .bl b ∧ QD (.bl (if neg then !b else b))) (g : Gives S Hk H QD Q) :
    wpAny (model X.prog X.w) X.A (compareOp (if neg then .NotIn else .In) v u) (EP X pins σ Q) X.xe s := by
  obtain ⟨hc, ⟨a, me, fa⟩, _, _⟩ := ok.mth c _ f hM
  have q2 := r2
  cases q2 with
  | ins e1 _ _ =>
    cases ry
    obtain ⟨mA, J, _⟩ := ins_get I.hok (i _ _ e1)
    obtain ⟨od, J, _⟩ := J.look
    obtain ⟨mm, hFr⟩ := I.fr
    have hat := me.at_
    rw [ok.bin5] at hat
    have hG : Gives S Hk H (fun d => ∃ b, d = .bl b ∧ QD (.bl (if neg then !b else b))) (fun z H' => ∃ b, z = .bl b ∧ Q (.bl (if neg then !b else b)) H') := fun d v Hk' H' st r q => by
      obtain ⟨b, rfl, q⟩ := q
      exact ⟨b, r.bl_inv, g _ _ Hk' H' st .bl q⟩
    have run := run_F (us := [.ref _, v]) (vs := [.ref _, x]) ok fa I (.cons rfl (.cons rx .nil)) i (.cons r2 (.cons r1 .nil)) hF hG
    cases neg with
    | false =>
      refine PySem.W.in_K hFr I.ok.mod.kin J hat me.fn (wpAny_mono run (fun w s' z => ?_) fun _ _ x => x)
      obtain ⟨z', H', I', rz, b, rfl, qz⟩ := z
      cases rz
      exact wpAny_truthy_bool ⟨.bl b, H', I', rfl, qz⟩
    | true =>
      refine PySem.W.notIn_K hFr I.ok.mod.kin J hat me.fn (wpAny_mono run (fun w s' z => ?_) fun _ _ x => x)
      obtain ⟨z', H', I', rz, b, rfl, qz⟩ := z
      cases rz
      exact wpAny_truthy_bool ⟨.bl (!b), H', I', rfl, qz⟩

theorem eq_inst (ok : XOk S Sm T k arI X) {c f : Nat} {us ws : List DV} {x y : V} {pins : List (Addr × Obj)} {s : Shared} {σ : St} {H Hk : Hp} {v u : Value} {Q : VK} {QD : DV → Prop} (I : Inv X pins σ H s) (rx : RelV x v) (ry : RelV y u)
    (i : Same Hk H) (r1 : Rep S Hk (.ins c us) x) (r2 : Rep S Hk (.ins c ws) y) (hM : Sm.M c idEq = some f) (hF : Sm.F f [.ins c us, .ins c ws] QD) (g : Gives S Hk H QD Q) :
    wpAny (model X.prog X.w) X.A (compareOp .Eq v u) (EP X pins σ Q) X.xe s := by
  obtain ⟨hc, ⟨a, me, fa⟩, _, _⟩ := ok.mth c _ f hM
  have q1 := r1
  have q2 := r2
  cases q1 with
  | ins e1 _ _ =>
    cases q2 with
    | ins e2 _ _ =>
      cases rx
      cases ry
      obtain ⟨mA, J, _⟩ := ins_get I.hok (i _ _ e1)
      obtain ⟨mB, J', _⟩ := ins_get I.hok (i _ _ e2)
      obtain ⟨od, J, _⟩ := J.look
      obtain ⟨od', J', _⟩ := J'.look
      obtain ⟨mm, hFr⟩ := I.fr
      have hat := me.at_
      rw [ok.bin7] at hat
      show wpAny _ _ (richCompare .Eq _ _) _ _ _
      refine PySem.W.cmp_K (op := .Eq) ok.room.units0 hFr I.ok.mod.kin J J'.type (by simp [PySem.W.notFirst]) hat me.fn ?_
      refine wpAny_mono (run_F (vs := [.ref _, .ref _]) ok fa I (.cons rfl (.cons rfl .nil)) i (.cons r1 (.cons r2 .nil)) hF g) (fun w s' z => ?_) fun _ _ x => x
      obtain ⟨z', H', I', rz, qz⟩ := z
      exact SlX.cmpback rz ⟨z', H', I', rz, qz⟩

theorem ne_inst (ok : XOk S Sm T k arI X) {c f : Nat} {us ws : List DV} {x y : V} {pins : List (Addr × Obj)} {s : Shared} {σ : St} {H Hk : Hp} {v u : Value} {Q : VK} {QD : DV → Prop} (I : Inv X pins σ H s) (rx : RelV x v) (ry : RelV y u)
    (i : Same Hk H) (r1 : Rep S Hk (.ins c us) x) (r2 : Rep S Hk (.ins c ws) y) (hM : Sm.M c idEq = some f) (hF : Sm.F f [.ins c us, .ins c ws] fun d => ∃ b, d = .bl b ∧ QD (.bl (!b))) (g : Gives S Hk H QD Q) :
    wpAny (model X.prog X.w) X.A (compareOp .NotEq v u) (EP X pins σ Q) X.xe s := by
  obtain ⟨hc, ⟨a, me, fa⟩, _, _⟩ := ok.mth c _ f hM
  obtain ⟨hne, hmro⟩ := ok.ne c f hM
  have q1 := r1
  have q2 := r2
  cases q1 with
  | ins e1 _ _ =>
    cases q2 with
    | ins e2 _ _ =>
      cases rx
      cases ry
      obtain ⟨mA, J, _⟩ := ins_get I.hok (i _ _ e1)
      obtain ⟨mB, J', _⟩ := ins_get I.hok (i _ _ e2)
      obtain ⟨od, J, _⟩ := J.look
      obtain ⟨od', J', _⟩ := J'.look
      obtain ⟨mm, hFr⟩ := I.fr
      have hat := me.at_
      rw [ok.bin7] at hat
      show wpAny _ _ (richCompare .NotEq _ _) _ _ _
      have hu := ok.room.units
      refine PySem.W.ne_K (by omega) hFr I.ok.mod.kin J J' hat me.fn hne hmro ?_
      refine wpAny_mono (run_F1 (vs := [.ref _, .ref _]) (Q := fun v H' => ∃ b, v = .bl b ∧ Q (.bl (!b)) H') ok fa I (.cons rfl (.cons rfl .nil)) i (.cons r1 (.cons r2 .nil)) hF ?_) (fun w s' z => ?_) fun _ _ x => x
      · intro d v Hk' H' st r q
        obtain ⟨b, rfl, q⟩ := q
        exact ⟨b, r.bl_inv, g (.bl (!b)) (.bl (!b)) Hk' H' st .bl q⟩
      · obtain ⟨z', H', I', rz, b, rfl, qz⟩ := z
        cases rz
        exact ⟨b, rfl, .bl (!b), H', I', rfl, qz⟩

theorem op_cmp (ok : XOk S Sm T k arI X) (o : CmpOp) : OpR X (compareOp o) (rCmp S Sm o) := by
  intro pins s σ H x y v u Q I rx ry h
  obtain ⟨d, e, Hk, QD, i, r1, r2, hb, g⟩ := h
  have hu : X.A.units + 64 < cLine := ok.room.units
  have hK := ok.K
  cases o with
  | Eq =>
    rcases hb with ⟨h1, q⟩ | ⟨a, b, e1, e2, s1, s2, q⟩ | ⟨c, us, ws, f, rfl, rfl, hM, hF⟩
    · obtain ⟨z1, z2⟩ := eqS_spec h1 r1 r2
      exact op_eq pins s σ H _ _ v u Q I rx ry ⟨z1, by rw [z2]; exact g.here i .bl q⟩
    · refine op_eqD hu pins s σ H _ _ v u Q I rx ry ⟨a, b, ?_, ?_, s1, s2, g.here i .bl q⟩
      · rw [hK]
        exact Rep.dp (r1.mono i) e1
      · rw [hK]
        exact Rep.dp (r2.mono i) e2
    · exact eq_inst ok I rx ry i r1 r2 hM hF g
  | NotEq =>
    rcases hb with ⟨h1, q⟩ | ⟨a, b, e1, e2, s1, s2, q⟩ | ⟨c, us, ws, f, rfl, rfl, hM, hF⟩
    · obtain ⟨z1, z2⟩ := eqS_spec h1 r1 r2
      exact op_ne pins s σ H _ _ v u Q I rx ry ⟨z1, by rw [z2]; exact g.here i .bl q⟩
    · refine op_neD hu pins s σ H _ _ v u Q I rx ry ⟨a, b, ?_, ?_, s1, s2, g.here i .bl q⟩
      · rw [hK]
        exact Rep.dp (r1.mono i) e1
      · rw [hK]
        exact Rep.dp (r2.mono i) e2
    · exact ne_inst ok I rx ry i r1 r2 hM hF g
  | In =>
    rcases hb with ⟨ys, hy, hf, ha, q⟩ | ⟨c, t, rfl, rfl, q⟩ | ⟨c, vs, f, rfl, hM, hF⟩ | ⟨a, ds, t, e1, e2, s1, s2, q⟩
    · have hfl := flat_spec hf r1
      rcases hy with rfl | rfl
      · cases r2 with
        | lst h2 s2 =>
          obtain ⟨z1, z2⟩ := inD_spec r1 s2 ha
          refine op_in_seq pins s σ H _ _ v u Q I rx ry ⟨_, _, rfl, .inl (.inl (same_rd i h2)), hfl, z1, ?_⟩
          show Q (.bl (inV _ _)) H
          rw [z2]
          exact g.here i .bl q
      · cases r2 with
        | tup h2 s2 =>
          obtain ⟨z1, z2⟩ := inD_spec r1 s2 ha
          refine op_in_seq pins s σ H _ _ v u Q I rx ry ⟨_, _, rfl, .inr (hK ▸ same_t i h2), hfl, z1, ?_⟩
          show Q (.bl (inV _ _)) H
          rw [z2]
          exact g.here i .bl q
    · have e1 := r1.str_inv
      have e2 := r2.str_inv
      subst e1
      subst e2
      exact op_in_sign pins s σ H _ _ v u Q I rx ry ⟨c, _, rfl, rfl, g.here i .bl q⟩
    · refine in_inst (neg := false) ok I rx ry i r1 r2 hM ?_ g
      exact hF
    · have hu' : X.A.units + 65 < cLine := by have := ok.room.un; omega
      have d1 := Rep.dp (r1.mono i) e1
      have d2 := Rep.dp (r2.mono i) e2
      rw [← hK] at d1 d2
      obtain ⟨as, x1⟩ := Dp.reads I a x v d1 rx
      obtain ⟨bs, x2⟩ := Dp.reads I (seqP t ds) y u d2 ry
      cases t with
      | false => exact SeqAt.in_list_reads x2 x1 (SeqAt.canLay_of_shaped s2) (SeqAt.canLay_of_shaped s1) (PyProof.Rows.room_in_shaped s1 hu') ⟨.bl _, H, I, rfl, g.here i .bl q⟩
      | true => exact SeqAt.in_tuple_reads x2 x1 (SeqAt.canLay_of_shaped s2) (SeqAt.canLay_of_shaped s1) (PyProof.Rows.room_in_shaped s1 hu') ⟨.bl _, H, I, rfl, g.here i .bl q⟩
  | NotIn =>
    rcases hb with ⟨ys, hy, hf, ha, q⟩ | ⟨c, t, rfl, rfl, q⟩ | ⟨c, vs, f, rfl, hM, hF⟩ | ⟨a, ds, t, e1, e2, s1, s2, q⟩
    · have hfl := flat_spec hf r1
      rcases hy with rfl | rfl
      · cases r2 with
        | lst h2 s2 =>
          obtain ⟨z1, z2⟩ := inD_spec r1 s2 ha
          refine op_notIn_seq pins s σ H _ _ v u Q I rx ry ⟨_, _, rfl, .inl (.inl (same_rd i h2)), hfl, z1, ?_⟩
          show Q (.bl (!inV _ _)) H
          rw [z2]
          exact g.here i .bl q
      · cases r2 with
        | tup h2 s2 =>
          obtain ⟨z1, z2⟩ := inD_spec r1 s2 ha
          refine op_notIn_seq pins s σ H _ _ v u Q I rx ry ⟨_, _, rfl, .inr (hK ▸ same_t i h2), hfl, z1, ?_⟩
          show Q (.bl (!inV _ _)) H
          rw [z2]
          exact g.here i .bl q
    · have e1 := r1.str_inv
      have e2 := r2.str_inv
      subst e1
      subst e2
      exact op_notIn_sign pins s σ H _ _ v u Q I rx ry ⟨c, _, rfl, rfl, g.here i .bl q⟩
    · refine in_inst (neg := true) ok I rx ry i r1 r2 hM ?_ g
      exact hF
    · have hu' : X.A.units + 65 < cLine := by have := ok.room.un; omega
      have d1 := Rep.dp (r1.mono i) e1
      have d2 := Rep.dp (r2.mono i) e2
      rw [← hK] at d1 d2
      obtain ⟨as, x1⟩ := Dp.reads I a x v d1 rx
      obtain ⟨bs, x2⟩ := Dp.reads I (seqP t ds) y u d2 ry
      cases t with
      | false => exact SeqAt.notIn_list_reads x2 x1 (SeqAt.canLay_of_shaped s2) (SeqAt.canLay_of_shaped s1) (PyProof.Rows.room_in_shaped s1 hu') ⟨.bl _, H, I, rfl, g.here i .bl q⟩
      | true => exact SeqAt.notIn_tuple_reads x2 x1 (SeqAt.canLay_of_shaped s2) (SeqAt.canLay_of_shaped s1) (PyProof.Rows.room_in_shaped s1 hu') ⟨.bl _, H, I, rfl, g.here i .bl q⟩
  | Is =>
    rcases hb with ⟨rfl, q⟩ | ⟨a, b, rfl, rfl, q⟩
    · have e2 := r2.non_inv
      subst e2
      refine op_isN pins s σ H _ _ v u Q I rx ry ⟨rfl, ?_⟩
      have e : decide (x = V.non) = isNon d := by
        cases r1 <;> rfl
      rw [e]
      exact g.here i .bl q
    · have e1 := r1.bl_inv
      have e2 := r2.bl_inv
      subst e1
      subst e2
      exact op_isBl pins s σ H _ _ v u Q I rx ry ⟨a, b, rfl, rfl, g.here i .bl q⟩
  | IsNot =>
    rcases hb with ⟨rfl, q⟩ | ⟨a, b, rfl, rfl, q⟩
    · have e2 := r2.non_inv
      subst e2
      refine op_notN pins s σ H _ _ v u Q I rx ry ⟨rfl, ?_⟩
      have e : (!decide (x = V.non)) = (!isNon d) := by
        cases r1 <;> rfl
      rw [e]
      exact g.here i .bl q
    · have e1 := r1.bl_inv
      have e2 := r2.bl_inv
      subst e1
      subst e2
      exact op_notBl pins s σ H _ _ v u Q I rx ry ⟨a, b, rfl, rfl, g.here i .bl q⟩
  | Lt =>
    obtain ⟨a, b, rfl, rfl, q⟩ := hb
    have e1 := r1.int_inv
    have e2 := r2.int_inv
    subst e1
    subst e2
    exact op_lt pins s σ H _ _ v u Q I rx ry ⟨a, b, rfl, rfl, g.here i .bl q⟩
  | LtE =>
    obtain ⟨a, b, rfl, rfl, q⟩ := hb
    have e1 := r1.int_inv
    have e2 := r2.int_inv
    subst e1
    subst e2
    exact op_le pins s σ H _ _ v u Q I rx ry ⟨a, b, rfl, rfl, g.here i .bl q⟩
  | Gt =>
    obtain ⟨a, b, rfl, rfl, q⟩ := hb
    have e1 := r1.int_inv
    have e2 := r2.int_inv
    subst e1
    subst e2
    exact op_gt pins s σ H _ _ v u Q I rx ry ⟨a, b, rfl, rfl, g.here i .bl q⟩
  | GtE =>
    obtain ⟨a, b, rfl, rfl, q⟩ := hb
    have e1 := r1.int_inv
    have e2 := r2.int_inv
    subst e1
    subst e2
    exact op_ge pins s σ H _ _ v u Q I rx ry ⟨a, b, rfl, rfl, g.here i .bl q⟩
end
end Vg


set_option Elab.async false
set_option linter.all false
set_option maxRecDepth 100000
set_option maxHeartbeats 4000000
/-! Vg: built-in functions, methods, subscripts, slices by values -/
namespace Vg
open PySem L2
section
variable {S : Sg} {Sm : Sem} {T : Nm} {k : Nat} {arI : Nat → Nat} {X : Cx}

theorem ints_spec {H : Hp} : ∀ {ds : List DV} {vs : List V} {ns : List Int}, Reps S H ds vs → ints? ds = some ns → vs = ns.map V.int
  | _, _, _, .nil, e => by
    cases Option.some.inj e
    rfl
  | _, _, ns, @Reps.cons _ _ d v ds vs h r, e => by
    cases d <;> first | (cases e; done) | skip
    rename_i i
    have e' : (ints? ds).map (i :: ·) = some ns := e
    cases q : ints? ds with
    | none =>
      rw [q] at e'
      cases e'
    | some ms =>
      rw [q] at e'
      cases Option.some.inj e'
      rw [h.int_inv, ints_spec r q]
      rfl
theorem bls_spec {H : Hp} : ∀ {ds : List DV} {vs : List V} {ns : List Bool}, Reps S H ds vs → bls? ds = some ns → vs = ns.map V.bl
  | _, _, _, .nil, e => by
    cases Option.some.inj e
    rfl
  | _, _, ns, @Reps.cons _ _ d v ds vs h r, e => by
    cases d <;> first | (cases e; done) | skip
    rename_i i
    have e' : (bls? ds).map (i :: ·) = some ns := e
    cases q : bls? ds with
    | none =>
      rw [q] at e'
      cases e'
    | some ms =>
      rw [q] at e'
      cases Option.some.inj e'
      rw [h.bl_inv, bls_spec r q]
      rfl
theorem strs_spec {H : Hp} : ∀ {ds : List DV} {vs : List V} {ns : List (List Nat)}, Reps S H ds vs → strs? ds = some ns → vs = (ns.map fun s => (⟨s.toArray⟩ : Str)).map V.str
  | _, _, _, .nil, e => by
    cases Option.some.inj e
    rfl
  | _, _, ns, @Reps.cons _ _ d v ds vs h r, e => by
    cases d <;> first | (cases e; done) | skip
    rename_i i
    have e' : (strs? ds).map (i :: ·) = some ns := e
    cases q : strs? ds with
    | none =>
      rw [q] at e'
      cases e'
    | some ms =>
      rw [q] at e'
      cases Option.some.inj e'
      rw [h.str_inv, strs_spec r q]
      rfl
theorem seq_spec {H : Hp} {d : DV} {v : V} {xs : List DV} (r : Rep S H d v) (e : seq? d = some xs) : ∃ a vs, v = .ref a ∧ (SqL S.K H a vs ∨ SqT S.K H a vs) ∧ Reps S H xs vs := by
  cases d <;> first | (cases e; done) | skip
  · cases Option.some.inj e
    cases r with
    | lst h t => exact ⟨_, _, rfl, .inl (.inl h), t⟩
  · cases Option.some.inj e
    cases r with
    | tup h t => exact ⟨_, _, rfl, .inr h, t⟩

def rBi (S : Sg) (b : Bi) : List V → Hp → VK → Prop := fun vs H Q => ∃ ds Hk QD, Same Hk H ∧ Reps S Hk ds vs ∧ biS b ds QD ∧ Gives S Hk H QD Q
/-- for what gives a new list -/
def rBiL (S : Sg) (b : Bi) : List V → Hp → VK → Prop := fun vs H Q => ∃ ds Hk QD, Same Hk H ∧ Reps S Hk ds vs ∧ biS b ds QD ∧ GivesL S Hk H QD Q

theorem reps1 {H : Hp} {d : DV} {vs : List V} (r : Reps S H [d] vs) : ∃ v, vs = [v] ∧ Rep S H d v := by
  cases r with
  | cons h t =>
    cases t
    exact ⟨_, rfl, h⟩
theorem reps2 {H : Hp} {d e : DV} {vs : List V} (r : Reps S H [d, e] vs) : ∃ v w, vs = [v, w] ∧ Rep S H d v ∧ Rep S H e w := by
  cases r with
  | cons h t =>
    obtain ⟨w, rfl, h2⟩ := reps1 t
    exact ⟨_, w, rfl, h, h2⟩

theorem cr_len (ok : XOk S Sm T k arI X) : CallR X (.builtin "len") (rBi S .len) := by
  intro pins s σ H vs us Q I r h
  obtain ⟨ds, Hk, QD, i, rd, hb, g⟩ := h
  rcases ds with _ | ⟨d, _ | ⟨e, t⟩⟩
  · exact (show False from hb).elim
  · obtain ⟨v, rfl, rv⟩ := reps1 rd
    cases d <;> first | exact (show False from hb).elim | skip
    · rename_i z
      have e1 := rv.str_inv
      subst e1
      refine call_len pins s σ H _ us Q I r ⟨_, z.length, rfl, ⟨by rw [str_len]; exact hb.1, (str_len z).symm⟩, g.here i .int hb.2⟩
    · cases rv with
      | lst h1 s1 =>
        refine call_len_seq pins s σ H _ us Q I r ⟨_, _, rfl, .inl (.inl (same_rd i h1)), ?_⟩
        rw [← s1.length]
        exact g.here i .int hb
    · cases rv with
      | tup h1 s1 =>
        refine call_len_seq pins s σ H _ us Q I r ⟨_, _, rfl, .inr (ok.K ▸ same_t i h1), ?_⟩
        rw [← s1.length]
        exact g.here i .int hb
    · cases rv with
      | scr h1 =>
        refine call_len_seq pins s σ H _ us Q I r ⟨_, _, rfl, .inl (ok.K ▸ same_l i h1), ?_⟩
        rw [List.length_map]
        exact g.here i .int hb
  · cases d <;> exact (show False from hb).elim

theorem cr_int : CallR X (.type "int") (rBi S .int) := by
  intro pins s σ H vs us Q I r h
  obtain ⟨ds, Hk, QD, i, rd, hb, g⟩ := h
  rcases ds with _ | ⟨d, _ | ⟨e, t⟩⟩
  · exact (show False from hb).elim
  · obtain ⟨v, rfl, rv⟩ := reps1 rd
    cases d <;> first | exact (show False from hb).elim | skip
    · have e1 := rv.bl_inv
      subst e1
      exact call_int1 pins s σ H _ us Q I r (.inr ⟨_, rfl, g.here i .int hb⟩)
    · have e1 := rv.int_inv
      subst e1
      exact call_int1 pins s σ H _ us Q I r (.inl ⟨_, rfl, g.here i .int hb⟩)
    · have e1 := rv.str_inv
      subst e1
      obtain ⟨n, q1, q2, q3⟩ := hb
      exact call_int_str pins s σ H _ us Q I r ⟨_, n, rfl, q1, by rw [str_len]; exact q2, g.here i .int q3⟩
  · cases d <;> exact (show False from hb).elim

theorem cr_abs : CallR X (.builtin "abs") (rBi S .abs) := by
  intro pins s σ H vs us Q I r h
  obtain ⟨ds, Hk, QD, i, rd, hb, g⟩ := h
  rcases ds with _ | ⟨d, _ | ⟨e, t⟩⟩
  · exact (show False from hb).elim
  · obtain ⟨v, rfl, rv⟩ := reps1 rd
    cases d <;> first | exact (show False from hb).elim | skip
    have e1 := rv.int_inv
    subst e1
    exact call_abs pins s σ H _ us Q I r ⟨_, rfl, g.here i .int hb⟩
  · cases d <;> exact (show False from hb).elim

theorem nuMax3_int (i j l : Int) : nuMax3 (.int i) (.int j) (.int l) = some (.int (if l > (if j > i then j else i) then l else (if j > i then j else i))) := by
  have two : ∀ a b : Int, nuMax2 (.int a) (.int b) = some (.int (if b > a then b else a)) := fun a b => by
    show ((some (decide (a < b)) : Option Bool).map fun c => if c = true then V.int b else V.int a) = _
    by_cases h : a < b
    · simp [h]
    · simp [h]
  unfold nuMax3
  rw [two]
  exact two _ _
theorem cr_maxB (ok : XOk S Sm T k arI X) : CallR X (.builtin "max") (rBi S .max) := by
  intro pins s σ H vs us Q I r h
  obtain ⟨ds, Hk, QD, i, rd, hb, g⟩ := h
  rcases ds with _ | ⟨d, _ | ⟨e, _ | ⟨f, _ | ⟨f2, t⟩⟩⟩⟩
  · exact (show False from hb).elim
  · obtain ⟨v, rfl, rv⟩ := reps1 rd
    cases d <;> first | exact (show False from hb).elim | skip
    obtain ⟨ns, q1, q2, q3⟩ := hb
    cases rv with
    | lst h1 s1 =>
      have e1 := ints_spec s1 q1
      subst e1
      exact cr_max ok.calm pins s σ H _ us Q I r ⟨_, ns, rfl, .inl (same_rd i h1), q2, fun m hm hle => g.here i .int (q3 m hm hle)⟩
  · obtain ⟨v, w, rfl, rv, rw'⟩ := reps2 rd
    cases d <;> cases e <;> first | exact (show False from hb).elim | skip
    have e1 := rv.int_inv
    have e2 := rw'.int_inv
    subst e1
    subst e2
    exact call_max2 ok.calm pins s σ H _ us Q I r ⟨_, _, rfl, g.here i .int hb⟩
  · cases d <;> cases e <;> cases f <;> first | exact (show False from hb).elim | skip
    cases rd with
    | cons r1 rd =>
      cases rd with
      | cons r2 rd =>
        cases rd with
        | cons r3 rd =>
          cases rd
          have e1 := r1.int_inv
          have e2 := r2.int_inv
          have e3 := r3.int_inv
          subst e1 e2 e3
          exact call_max3Nu ok.calm pins s σ H _ us Q I r ⟨_, _, _, _, rfl, nuMax3_int _ _ _, g.here i .int hb⟩
  · cases d <;> cases e <;> cases f <;> exact (show False from hb).elim
theorem cr_minB (ok : XOk S Sm T k arI X) : CallR X (.builtin "min") (rBi S .min) := by
  intro pins s σ H vs us Q I r h
  obtain ⟨ds, Hk, QD, i, rd, hb, g⟩ := h
  rcases ds with _ | ⟨d, _ | ⟨e, _ | ⟨f, t⟩⟩⟩
  · exact (show False from hb).elim
  · obtain ⟨v, rfl, rv⟩ := reps1 rd
    cases d <;> first | exact (show False from hb).elim | skip
    obtain ⟨ns, q1, q2, q3⟩ := hb
    cases rv with
    | lst h1 s1 =>
      have e1 := ints_spec s1 q1
      subst e1
      exact cr_min ok.calm pins s σ H _ us Q I r ⟨_, ns, rfl, .inl (same_rd i h1), q2, fun m hm hle => g.here i .int (q3 m hm hle)⟩
  · obtain ⟨v, w, rfl, rv, rw'⟩ := reps2 rd
    cases d <;> cases e <;> first | exact (show False from hb).elim | skip
    have e1 := rv.int_inv
    have e2 := rw'.int_inv
    subst e1
    subst e2
    exact call_min2 ok.calm pins s σ H _ us Q I r ⟨_, _, rfl, g.here i .int hb⟩
  · cases d <;> cases e <;> exact (show False from hb).elim

theorem cr_sumB (ok : XOk S Sm T k arI X) : CallR X (.builtin "sum") (rBi S .sum) := by
  intro pins s σ H vs us Q I r h
  obtain ⟨ds, Hk, QD, i, rd, hb, g⟩ := h
  rcases ds with _ | ⟨d, _ | ⟨e, t⟩⟩
  · exact (show False from hb).elim
  · obtain ⟨v, rfl, rv⟩ := reps1 rd
    cases d <;> first | exact (show False from hb).elim | skip
    obtain ⟨ns, q1, q2⟩ := hb
    cases rv with
    | lst h1 s1 =>
      have e1 := ints_spec s1 q1
      subst e1
      exact cr_sum ok.calm pins s σ H _ us Q I r ⟨_, ns, rfl, .inl (same_rd i h1), g.here i .int q2⟩
  · cases d <;> exact (show False from hb).elim
theorem cr_allB (ok : XOk S Sm T k arI X) : CallR X (.builtin "all") (rBi S .all) := by
  intro pins s σ H vs us Q I r h
  obtain ⟨ds, Hk, QD, i, rd, hb, g⟩ := h
  rcases ds with _ | ⟨d, _ | ⟨e, t⟩⟩
  · exact (show False from hb).elim
  · obtain ⟨v, rfl, rv⟩ := reps1 rd
    cases d <;> first | exact (show False from hb).elim | skip
    obtain ⟨ns, q1, q2⟩ := hb
    cases rv with
    | lst h1 s1 =>
      have e1 := bls_spec s1 q1
      subst e1
      exact cr_all ok.calm pins s σ H _ us Q I r ⟨_, ns, rfl, .inl (same_rd i h1), g.here i .bl q2⟩
  · cases d <;> exact (show False from hb).elim
theorem cr_anyB (ok : XOk S Sm T k arI X) : CallR X (.builtin "any") (rBi S .any) := by
  intro pins s σ H vs us Q I r h
  obtain ⟨ds, Hk, QD, i, rd, hb, g⟩ := h
  rcases ds with _ | ⟨d, _ | ⟨e, t⟩⟩
  · exact (show False from hb).elim
  · obtain ⟨v, rfl, rv⟩ := reps1 rd
    cases d <;> first | exact (show False from hb).elim | skip
    obtain ⟨ns, q1, q2⟩ := hb
    cases rv with
    | lst h1 s1 =>
      have e1 := bls_spec s1 q1
      subst e1
      exact cr_any ok.calm pins s σ H _ us Q I r ⟨_, ns, rfl, .inl (same_rd i h1), g.here i .bl q2⟩
  · cases d <;> exact (show False from hb).elim
theorem cr_sortedB (ok : XOk S Sm T k arI X) : CallR X (.builtin "sorted") (rBiL S .sorted) := by
  intro pins s σ H vs us Q I r h
  obtain ⟨ds, Hk, QD, i, rd, hb, g⟩ := h
  rcases ds with _ | ⟨d, _ | ⟨e, t⟩⟩
  · exact (show False from hb).elim
  · obtain ⟨v, rfl, rv⟩ := reps1 rd
    cases d <;> first | exact (show False from hb).elim | skip
    obtain ⟨ns, q1, q2⟩ := hb
    cases rv with
    | lst h1 s1 =>
      have e1 := ints_spec s1 q1
      subst e1
      exact cr_sortedI pins s σ H _ us Q I r ⟨_, ns, rfl, .inl (same_rd i h1), fun ms p pm pw hp => g.new i hp (.ints ms) (q2 ms pm pw)⟩
  · cases d <;> exact (show False from hb).elim
theorem cr_listB (ok : XOk S Sm T k arI X) : CallR X (.type "list") (rBiL S .list) := by
  intro pins s σ H vs us Q I r h
  obtain ⟨ds, Hk, QD, i, rd, hb, g⟩ := h
  rcases ds with _ | ⟨d, _ | ⟨e, t⟩⟩
  · exact (show False from hb).elim
  · obtain ⟨v, rfl, rv⟩ := reps1 rd
    cases d <;> first | exact (show False from hb).elim | skip
    · cases rv with
      | lst h1 s1 => exact call_list_of pins s σ H _ us Q I r ⟨_, _, rfl, .inl (.inl (same_rd i h1)), fun p hp => g.new i hp s1 hb⟩
    · cases rv with
      | tup h1 s1 => exact call_list_of pins s σ H _ us Q I r ⟨_, _, rfl, .inr (ok.K ▸ same_t i h1), fun p hp => g.new i hp s1 hb⟩
    · cases rv with
      | scr h1 => exact call_list_of pins s σ H _ us Q I r ⟨_, _, rfl, .inl (ok.K ▸ same_l i h1), fun p hp => g.new i hp (.ints _) hb⟩
  · cases d <;> exact (show False from hb).elim
theorem cr_tupleB (ok : XOk S Sm T k arI X) : CallR X (.type "tuple") (rBi S .tuple) := by
  intro pins s σ H vs us Q I r h
  obtain ⟨ds, Hk, QD, i, rd, hb, g⟩ := h
  rcases ds with _ | ⟨d, _ | ⟨e, t⟩⟩
  · exact (show False from hb).elim
  · obtain ⟨v, rfl, rv⟩ := reps1 rd
    cases d <;> first | exact (show False from hb).elim | skip
    · cases rv with
      | lst h1 s1 => exact call_tuple_of pins s σ H _ us Q I r ⟨_, _, rfl, .inl ⟨.inl (same_rd i h1), fun p hp => g.newT i hp s1 hb⟩⟩
    · have r2 := rv
      cases rv with
      | tup h1 s1 => exact call_tuple_of pins s σ H _ us Q I r ⟨_, _, rfl, .inr ⟨ok.K ▸ same_t i h1, g.here i r2 hb⟩⟩
  · cases d <;> exact (show False from hb).elim
theorem cr_gcdB : CallR X (.builtin "math.gcd") (rBi S .gcd) := by
  intro pins s σ H vs us Q I r h
  obtain ⟨ds, Hk, QD, i, rd, hb, g⟩ := h
  rcases ds with _ | ⟨d, _ | ⟨e, _ | ⟨f, t⟩⟩⟩
  · exact (show False from hb).elim
  · cases d <;> exact (show False from hb).elim
  · obtain ⟨v, w, rfl, rv, rw'⟩ := reps2 rd
    cases d <;> cases e <;> first | exact (show False from hb).elim | skip
    have e1 := rv.int_inv
    have e2 := rw'.int_inv
    subst e1
    subst e2
    exact cr_gcd pins s σ H _ us Q I r ⟨_, _, rfl, g.here i .int hb⟩
  · cases d <;> cases e <;> exact (show False from hb).elim
theorem cr_lcmB : CallR X (.builtin "math.lcm") (rBi S .lcm) := by
  intro pins s σ H vs us Q I r h
  obtain ⟨ds, Hk, QD, i, rd, hb, g⟩ := h
  rcases ds with _ | ⟨d, _ | ⟨e, _ | ⟨f, t⟩⟩⟩
  · exact (show False from hb).elim
  · cases d <;> exact (show False from hb).elim
  · obtain ⟨v, w, rfl, rv, rw'⟩ := reps2 rd
    cases d <;> cases e <;> first | exact (show False from hb).elim | skip
    have e1 := rv.int_inv
    have e2 := rw'.int_inv
    subst e1
    subst e2
    obtain ⟨t, u, rfl⟩ := Vals.int2 r
    exact PySem.W.mc_lcm hb.1 hb.2.1 fun _ => ⟨.int _, H, I.tok _, ⟨_, rfl⟩, g.here i .int hb.2.2⟩
  · cases d <;> cases e <;> exact (show False from hb).elim
theorem cr_divmodB : CallR X (.builtin "divmod") (rBi S .divmod) := by
  intro pins s σ H vs us Q I r h
  obtain ⟨ds, Hk, QD, i, rd, hb, g⟩ := h
  rcases ds with _ | ⟨d, _ | ⟨e, _ | ⟨f, t⟩⟩⟩
  · exact (show False from hb).elim
  · cases d <;> exact (show False from hb).elim
  · obtain ⟨v, w, rfl, rv, rw'⟩ := reps2 rd
    cases d <;> cases e <;> first | exact (show False from hb).elim | skip
    have e1 := rv.int_inv
    have e2 := rw'.int_inv
    subst e1
    subst e2
    exact call_divmod pins s σ H _ us Q I r ⟨_, _, rfl, hb.1, fun p hp => g.newT (ds := [.int _, .int _]) i hp (.cons .int (.cons .int .nil)) hb.2⟩
  · cases d <;> cases e <;> exact (show False from hb).elim

/-- isinstance(x, T) -/
def tyVal (S : Sg) : Ty → V
  | .str => .ty "str"
  | .int => .ty "int"
  | .bool => .ty "bool"
  | .list => .ty "list"
  | .tuple => .ty "tuple"
  | .cls c => .ref (S.cls c)
def tyU (S : Sg) : Ty → Value
  | .str => .type "str"
  | .int => .type "int"
  | .bool => .type "bool"
  | .list => .type "list"
  | .tuple => .type "tuple"
  | .cls c => .ref (S.cls c)
theorem ty_cls (t : Ty) : ClsV (tyVal S t) (tyU S t) := by
  cases t <;> first | exact .ty _ | exact .own _
def rIsiD (S : Sg) (Sm : Sem) (t : Ty) : List V → Hp → VK → Prop := fun vs H Q => ∃ d Hk QD v, vs = [v, tyVal S t] ∧ Same Hk H ∧ Rep S Hk d v ∧ (∃ b, tyOk Sm.nc t = true ∧ tyS Sm.nc t d = some b ∧ QD (.bl b)) ∧ Gives S Hk H QD Q
theorem kit_b {a b : String} {r : Bool} (h : kitB a b = some r) : PySem.W.kitOne X.K (.type a) (.type b) = some r := h
theorem cr_isiB (ok : XOk S Sm T k arI X) (t : Ty) : CallR X (.builtin "isinstance") (rIsiD S Sm t) := by
  intro pins s σ H vs us Q I r h
  obtain ⟨d, Hk, QD, v, rfl, i, rv, ⟨b, ht, hb, hq⟩, g⟩ := h
  have fin : ∀ tt, TyX X.K H v tt → PySem.W.kitOne X.K tt (tyU S t) = some b → wpAny (model X.prog X.w) X.A (PySem.call (.builtin "isinstance") us) (EP X pins σ Q) X.xe s := fun tt h1 h2 =>
    call_isi pins s σ H _ us Q I r ⟨_, _, tt, _, b, rfl, ty_cls t, h1, h2, g.here i .bl hq⟩
  have own : ∀ n, n ∈ (["str", "int", "bool", "list", "tuple", "NoneType"] : List String) → ∀ c, t = .cls c → PySem.W.kitOne X.K (.type n) (tyU S t) = some false := fun n hn c e => by
    subst e
    exact ok.isi3 c (by simpa [tyOk] using ht) n hn
  cases d with
  | non =>
    cases rv
    cases Option.some.inj hb
    refine fin _ (.base .non) ?_
    cases t <;> first | exact own _ (by simp) _ rfl | exact kit_b (by decide +kernel)
  | bl a =>
    cases rv
    cases Option.some.inj hb
    refine fin _ (.base (.bl a)) ?_
    cases t <;> first | exact own _ (by simp) _ rfl | exact kit_b (by decide +kernel)
  | int a =>
    cases rv
    cases Option.some.inj hb
    refine fin _ (.base (.int a)) ?_
    cases t <;> first | exact own _ (by simp) _ rfl | exact kit_b (by decide +kernel)
  | str a =>
    cases rv
    cases Option.some.inj hb
    refine fin _ (.base (.str _)) ?_
    cases t <;> first | exact own _ (by simp) _ rfl | exact kit_b (by decide +kernel)
  | lst a =>
    cases rv with
    | @lst p _ ws h1 s1 =>
      cases Option.some.inj hb
      have q : TyX X.K H (.ref p) (.type "list") := by
        rcases same_rd i h1 with z | ⟨o, z⟩
        · exact .base (.lst z)
        · exact .base (.frz z)
      refine fin _ q ?_
      cases t <;> first | exact own _ (by simp) _ rfl | exact kit_b (by decide +kernel)
  | tup a =>
    cases rv with
    | @tup p _ ws h1 s1 =>
      cases Option.some.inj hb
      have q : TyX X.K H (.ref p) (.type "tuple") := by
        rcases same_t i h1 with (z | ⟨o, z⟩) | ⟨o, its, n, hk, hc, _⟩
        · exact .base (.tup z)
        · exact .fTuple z
        · exact .kTuple (ok.K ▸ hk) hc
      refine fin _ q ?_
      cases t <;> first | exact own _ (by simp) _ rfl | exact kit_b (by decide +kernel)
  | ins c us' =>
    have hc : c < Sm.nc := by
      by_cases z : c < Sm.nc
      · exact z
      · have hb' : (if c < Sm.nc then some (decide (t = .cls c)) else none) = some b := hb
        rw [if_neg z] at hb'
        cases hb'
    have hb' : some (decide (t = .cls c)) = some b := by
      have q : (if c < Sm.nc then some (decide (t = .cls c)) else none) = some b := hb
      rwa [if_pos hc] at q
    cases Option.some.inj hb'
    cases rv with
    | ins e1 _ _ =>
      refine fin _ (.base (ok.tyI c hc H _ _ _ (i _ _ e1))) ?_
      have hne : ∀ n ∈ (["str", "int", "bool", "list", "tuple"] : List String), PySem.W.kitOne X.K (.ref (S.cls c)) (.type n) = some false := ok.isi2 c hc
      cases t with
      | cls e =>
        have he : e < Sm.nc := by simpa [tyOk] using ht
        rw [show decide (Ty.cls e = Ty.cls c) = decide (e = c) from decide_eq_decide.mpr ⟨fun z => Ty.cls.inj z, fun z => congrArg Ty.cls z⟩]
        exact ok.isi1 c e hc he
      | str => exact hne "str" (by simp)
      | int => exact hne "int" (by simp)
      | bool => exact hne "bool" (by simp)
      | list => exact hne "list" (by simp)
      | tuple => exact hne "tuple" (by simp)
  | scr a => cases hb
/-- isinstance(x, (list, tuple)) -/
def rIsLT (S : Sg) (Sm : Sem) : List V → Hp → VK → Prop := fun vs H Q => ∃ d Hk QD v tp, vs = [v, .ref tp] ∧ H tp = some (.tup [.ty "list", .ty "tuple"]) ∧ Same Hk H ∧ Rep S Hk d v ∧ (∃ b, isLT Sm.nc d = some b ∧ QD (.bl b)) ∧ Gives S Hk H QD Q
theorem kit_lt {n : String} {b1 b2 : Bool} (h1 : kitB n "list" = some b1) (h2 : kitB n "tuple" = some b2) : PySem.W.kitAny X.K (.type n) [.type "list", .type "tuple"] = some (b1 || b2) := by
  have e1 : PySem.W.kitOne X.K (.type n) (.type "list") = some b1 := h1
  have e2 : PySem.W.kitOne X.K (.type n) (.type "tuple") = some b2 := h2
  simp only [PySem.W.kitAny, e1, e2]
  cases b1 <;> cases b2 <;> rfl
theorem cr_isLT (ok : XOk S Sm T k arI X) : CallR X (.builtin "isinstance") (rIsLT S Sm) := by
  intro pins s σ H vs us Q I r h
  obtain ⟨d, Hk, QD, v, tp, rfl, htp, i, rv, ⟨b, hb, hq⟩, g⟩ := h
  have fin : ∀ tt, TyX X.K H v tt → PySem.W.kitAny X.K tt [.type "list", .type "tuple"] = some b → wpAny (model X.prog X.w) X.A (PySem.call (.builtin "isinstance") us) (EP X pins σ Q) X.xe s := fun tt h1 h2 =>
    call_isiT pins s σ H _ us Q I r ⟨_, tp, [.ty "list", .ty "tuple"], tt, [.type "list", .type "tuple"], b, rfl, htp, .cons (.ty "list") (.cons (.ty "tuple") .nil), h1, h2, g.here i .bl hq⟩
  cases d with
  | non => cases rv; cases Option.some.inj hb; exact fin _ (.base .non) (kit_lt (n := "NoneType") (b1 := false) (b2 := false) (by decide +kernel) (by decide +kernel))
  | bl a => cases rv; cases Option.some.inj hb; exact fin _ (.base (.bl a)) (kit_lt (n := "bool") (b1 := false) (b2 := false) (by decide +kernel) (by decide +kernel))
  | int a => cases rv; cases Option.some.inj hb; exact fin _ (.base (.int a)) (kit_lt (n := "int") (b1 := false) (b2 := false) (by decide +kernel) (by decide +kernel))
  | str a => cases rv; cases Option.some.inj hb; exact fin _ (.base (.str _)) (kit_lt (n := "str") (b1 := false) (b2 := false) (by decide +kernel) (by decide +kernel))
  | lst a =>
    cases rv with
    | @lst p _ ws h1 s1 =>
      cases Option.some.inj hb
      refine fin (.type "list") ?_ (kit_lt (b1 := true) (b2 := false) (by decide +kernel) (by decide +kernel))
      rcases same_rd i h1 with z | ⟨o, z⟩
      · exact .base (.lst z)
      · exact .base (.frz z)
  | tup a =>
    cases rv with
    | @tup p _ ws h1 s1 =>
      cases Option.some.inj hb
      refine fin (.type "tuple") ?_ (kit_lt (b1 := false) (b2 := true) (by decide +kernel) (by decide +kernel))
      rcases same_t i h1 with (z | ⟨o, z⟩) | ⟨o, its, n, hk, hc, _⟩
      · exact .base (.tup z)
      · exact .fTuple z
      · exact .kTuple (ok.K ▸ hk) hc
  | ins c us' =>
    have hb' : (if c < Sm.nc then some false else none) = some b := hb
    have hc : c < Sm.nc := by
      by_cases z : c < Sm.nc
      · exact z
      · rw [if_neg z] at hb'; cases hb'
    rw [if_pos hc] at hb'
    cases Option.some.inj hb'
    cases rv with
    | ins e1 _ _ =>
      refine fin _ (.base (ok.tyI c hc H _ _ _ (i _ _ e1))) ?_
      have e1 := ok.isi2 c hc "list" (by simp)
      have e2 := ok.isi2 c hc "tuple" (by simp)
      simp only [PySem.W.kitAny, e1, e2]
  | scr a => cases hb
end
end Vg


set_option Elab.async false
set_option linter.all false
set_option maxRecDepth 100000
set_option maxHeartbeats 4000000
/-! Vg: subscripts, slices, methods by values -/
namespace Vg
open PySem L2
section
variable {S : Sg} {Sm : Sem} {T : Nm} {k : Nat} {arI : Nat → Nat} {X : Cx}

theorem atI_rep {H : Hp} {ds : List DV} {vs : List V} {i : Int} {d : DV} (r : Reps S H ds vs) (h : atI ds i = some d) : ∃ v, atI vs i = some v ∧ Rep S H d v := by
  unfold atI at h ⊢
  rw [← r.length]
  cases e : ixN ds.length i with
  | none =>
    rw [e] at h
    cases h
  | some j =>
    rw [e] at h
    exact r.get h

def rIdx (S : Sg) : R2 := fun x y H Q => ∃ d e Hk QD, Same Hk H ∧ Rep S Hk d x ∧ Rep S Hk e y ∧ idxS d e QD ∧ Gives S Hk H QD Q
theorem ix_all (ok : XOk S Sm T k arI X) : IxR X (rIdx S) := by
  intro value slice pins s σ H x y v u Q I rx ry h hs
  obtain ⟨d, e, Hk, QD, i, r1, r2, hb, g⟩ := h
  cases d <;> cases e <;> first | exact (show False from hb).elim | skip
  · have e1 := r1.str_inv
    have e2 := r2.int_inv
    subst e1
    subst e2
    obtain ⟨hz, c, hc, q⟩ := hb
    refine ix_str value slice pins s σ H _ _ v u Q I rx ry ⟨_, _, c, rfl, rfl, by rw [str_len]; exact hz, ?_, g.here i (.str (s := [c])) q⟩ hs
    simpa using hc
  · have e2 := r2.int_inv
    subst e2
    obtain ⟨z, hz, q⟩ := hb
    cases r1 with
    | lst h1 s1 =>
      obtain ⟨w, hw, rw'⟩ := atI_rep s1 hz
      exact ix_list value slice pins s σ H _ _ v u Q I rx ry ⟨_, _, _, w, rfl, rfl, .inl (same_rd i h1), hw, g.here i rw' q⟩ hs
  · have e2 := r2.int_inv
    subst e2
    obtain ⟨z, hz, q⟩ := hb
    cases r1 with
    | tup h1 s1 =>
      obtain ⟨w, hw, rw'⟩ := atI_rep s1 hz
      exact ix_tup value slice pins s σ H _ _ v u Q I rx ry ⟨_, _, _, w, rfl, rfl, ok.K ▸ same_t i h1, hw, g.here i rw' q⟩ hs
  · have e2 := r2.int_inv
    subst e2
    obtain ⟨z, hz, q⟩ := hb
    cases r1 with
    | scr h1 =>
      obtain ⟨w, hw, rw'⟩ := atI_rep (Reps.ints (S := S) (H := Hk) _) hz
      exact ix_list value slice pins s σ H _ _ v u Q I rx ry ⟨_, _, _, w, rfl, rfl, ok.K ▸ same_l i h1, hw, g.here i rw' q⟩ hs

theorem cut_rep {H : Hp} {ds : List DV} {vs : List V} {lo hi : Option Int} (r : Reps S H ds vs) : Reps S H (cut ds lo hi) (cutV vs lo hi) := by
  unfold cut cutV
  rw [← r.length]
  exact (r.drop _).take _
theorem cut_str (s : List Nat) (lo hi : Option Int) : cutS ⟨s.toArray⟩ lo hi = ⟨(cut s lo hi).toArray⟩ := by
  unfold cutS cut
  rw [str_len]
theorem cut_all {α : Type} (xs : List α) (lo hi : Option Int) (h : HT.sIx xs.length 0 lo = 0 ∧ HT.sIx xs.length xs.length hi = xs.length) : cut xs lo hi = xs := by
  unfold cut
  rw [h.1, h.2]
  simp

def rSlc (S : Sg) : V → Option Int → Option Int → Hp → VK → Prop := fun x lo hi H Q => ∃ d Hk QD, Same Hk H ∧ Rep S Hk d x ∧ slcS d lo hi QD ∧ Gives S Hk H QD Q
theorem sl_all (ok : XOk S Sm T k arI X) : SlR X (rSlc S) := by
  intro pins s σ H x v vl vu lo hi sl Q I rx hs pl pu h
  obtain ⟨d, Hk, QD, i, r1, hb, g⟩ := h
  cases d <;> first | exact (show False from hb).elim | skip
  · have e1 := r1.str_inv
    subst e1
    refine sl_str pins s σ H _ v vl vu lo hi sl Q I rx hs pl pu ⟨_, rfl, by rw [str_len]; exact hb.1, ?_⟩
    rw [cut_str]
    exact g.here i .str hb.2
  · cases r1 with
    | lst h1 s1 => exact sl_list pins s σ H _ v vl vu lo hi sl Q I rx hs pl pu ⟨_, _, rfl, .inl (same_rd i h1), fun p hp => g.toL.new i hp (cut_rep s1) hb⟩
  · have r2 := r1
    cases r1 with
    | tup h1 s1 =>
      refine sl_tupA pins s σ H _ v vl vu lo hi sl Q I rx hs pl pu ⟨_, _, rfl, ok.K ▸ same_t i h1, fun z => ?_, fun _ p hp => g.newT i hp (cut_rep s1) hb⟩
      have z' := z
      rw [← s1.length] at z'
      have hb' : QD (.tup (cut _ lo hi)) := hb
      rw [cut_all _ lo hi z'] at hb'
      exact g.here i r2 hb'
  · cases r1 with
    | scr h1 => exact sl_list pins s σ H _ v vl vu lo hi sl Q I rx hs pl pu ⟨_, _, rfl, ok.K ▸ same_l i h1, fun p hp => g.toL.new i hp (cut_rep (.ints _)) hb⟩
def rSlcL (S : Sg) : V → Option Int → Option Int → Hp → VK → Prop := fun x lo hi H Q => ∃ xs Hk QD, Same Hk H ∧ Rep S Hk (.lst xs) x ∧ QD (.lst (cut xs lo hi)) ∧ GivesL S Hk H QD Q
theorem sl_lst : SlR X (rSlcL S) := by
  intro pins s σ H x v vl vu lo hi sl Q I rx hs pl pu h
  obtain ⟨xs, Hk, QD, i, r1, hb, g⟩ := h
  cases r1 with
  | lst h1 s1 => exact sl_list pins s σ H _ v vl vu lo hi sl Q I rx hs pl pu ⟨_, _, rfl, .inl (same_rd i h1), fun p hp => g.new i hp (cut_rep s1) hb⟩

/-- a + b, a * n of lists -/
def rCatD (S : Sg) : R2 := fun x y H Q => ∃ xs ys Hk QD, Same Hk H ∧ Rep S Hk (.lst xs) x ∧ Rep S Hk (.lst ys) y ∧ xs.length + ys.length ≤ sizeLine ∧ QD (.lst (xs ++ ys)) ∧ GivesL S Hk H QD Q
theorem op_catD : OpR X (binaryOp .Add) (rCatD S) := by
  intro pins s σ H x y v u Q I rx ry h
  obtain ⟨xs, ys, Hk, QD, i, r1, r2, hz, q, g⟩ := h
  cases r1 with
  | lst h1 s1 =>
    cases r2 with
    | lst h2 s2 => exact add_lists pins s σ H _ _ v u Q I rx ry ⟨_, _, _, _, rfl, rfl, same_rd i h1, same_rd i h2, by rw [← s1.length, ← s2.length]; exact hz, fun p hp => g.new i hp (s1.append s2) q⟩
def rRepD (S : Sg) : R2 := fun x y H Q => ∃ xs Hk QD, ∃ n : Int, Same Hk H ∧ Rep S Hk (.lst xs) x ∧ y = .int n ∧ -(2 ^ 63) ≤ n ∧ n < 2 ^ 63 ∧ xs.length * n.toNat ≤ sizeLine ∧ QD (.lst (rep xs n.toNat)) ∧ GivesL S Hk H QD Q
theorem op_repD : OpR X (binaryOp .Mult) (rRepD S) := by
  intro pins s σ H x y v u Q I rx ry h
  obtain ⟨xs, Hk, QD, n, i, r1, rfl, h1, h2, hz, q, g⟩ := h
  cases r1 with
  | lst h3 s1 => exact mul_lists pins s σ H _ _ v u Q I rx ry ⟨_, _, n, rfl, rfl, same_rd i h3, h1, h2, by rw [← s1.length]; exact hz, fun p hp => g.new i hp (s1.rep n.toNat) q⟩

/-! ### methods of texts and lists, one argument -/
theorem join_spec (s : List Nat) (ss : List (List Nat)) : Txt.join ⟨s.toArray⟩ (ss.map fun s => (⟨s.toArray⟩ : Str)) = ⟨(TL.joinL s ss).toArray⟩ := by
  rw [TL.join_eq]
  have h := TL.tl_join ⟨s.toArray⟩ (ss.map fun s => (⟨s.toArray⟩ : Str))
  have e : (ss.map fun s => (⟨s.toArray⟩ : Str)).map TL.tl = ss := by
    rw [List.map_map]
    have : (TL.tl ∘ fun s : List Nat => (⟨s.toArray⟩ : Str)) = id := by
      funext z
      simp [TL.tl]
    rw [this, List.map_id]
  rw [e] at h
  have h2 : TL.tl (Str.join ⟨s.toArray⟩ (ss.map fun s => (⟨s.toArray⟩ : Str))) = TL.joinL s ss := by
    rw [h]
  have h3 : ∀ z : Str, ⟨(TL.tl z).toArray⟩ = z := fun z => by
    cases z
    simp [TL.tl]
  rw [← h3 (Str.join _ _), h2]
theorem cnt_spec (c : Nat) : ∀ s : List Nat, PyProof.Rows.cnt c s = ((countOne c s : Nat) : Int)
  | [] => rfl
  | n :: r => by
    rw [PyProof.Rows.cnt_cons, cnt_spec c r]
    unfold countOne
    rw [List.filter_cons]
    by_cases h : n = c
    · rw [if_pos h, if_pos (by simp [h])]
      simp only [List.length_cons]
      omega
    · rw [if_neg h, if_neg (by simpa using h)]
      omega
def rBm (S : Sg) (m : Bm) : V → List V → Hp → VK → Prop := fun x vs H Q => ∃ d e Hk QD v, vs = [v] ∧ Same Hk H ∧ Rep S Hk d x ∧ Rep S Hk e v ∧ bmS m d e QD ∧ Gives S Hk H QD Q
theorem mt_joinB (ok : XOk S Sm T k arI X) : MtR X "str.join" (rBm S .join) := by
  intro pins s σ H x vs v us Q I rx rs h
  obtain ⟨d, e, Hk, QD, w, rfl, i, r1, r2, hb, g⟩ := h
  cases d <;> first | exact (show False from hb).elim | skip
  have e1 := r1.str_inv
  subst e1
  obtain ⟨xs, ss, q1, q2, q3, q4⟩ := hb
  obtain ⟨a, ws, rfl, hq, rr⟩ := seq_spec r2 q1
  have e2 := strs_spec rr q2
  subst e2
  refine mt_join pins s σ H _ _ v us Q I rx rs ⟨_, a, ss.map fun s => (⟨s.toArray⟩ : Str), rfl, rfl, ?_, ?_, ?_⟩
  · rcases hq with hq | hq
    · exact .inl (ok.K ▸ i.seq hq)
    · exact .inr (ok.K ▸ same_t i hq)
  · rw [str_len, List.map_map, List.length_map]
    have : ((fun x : Str => x.length) ∘ fun s : List Nat => (⟨s.toArray⟩ : Str)) = fun s => s.length := by
      funext z
      exact str_len z
    rw [this]
    exact q3
  · rw [join_spec]
    exact g.here i .str q4
theorem mt_countB : MtR X "str.count" (rBm S .count) := by
  intro pins s σ H x vs v us Q I rx rs h
  obtain ⟨d, e, Hk, QD, w, rfl, i, r1, r2, hb, g⟩ := h
  cases d <;> first | exact (show False from hb).elim | skip
  cases e <;> first | exact (show False from hb).elim | skip
  rename_i z y
  rcases y with _ | ⟨c, _ | ⟨c', y⟩⟩ <;> first | exact (show False from hb).elim | skip
  have e1 := r1.str_inv
  have e2 := r2.str_inv
  subst e1
  subst e2
  refine mt_count pins s σ H _ _ v us Q I rx rs ⟨_, _, rfl, rfl, ?_⟩
  have hc : Txt.count ⟨z.toArray⟩ ⟨#[c]⟩ = ((countOne c z : Nat) : Int) := by
    have q := PyProof.Rows.count_is ⟨z.toArray⟩ c
    rw [q]
    exact cnt_spec c z
  show Q (.int (Txt.count ⟨z.toArray⟩ ⟨#[c]⟩)) H
  rw [hc]
  exact g.here i .int hb
theorem mt_sindexB : MtR X "str.index" (rBm S .sindex) := by
  intro pins s σ H x vs v us Q I rx rs h
  obtain ⟨d, e, Hk, QD, w, rfl, i, r1, r2, hb, g⟩ := h
  cases d <;> first | exact (show False from hb).elim | skip
  cases e <;> first | exact (show False from hb).elim | skip
  rename_i z y
  rcases y with _ | ⟨c, _ | ⟨c', y⟩⟩ <;> first | exact (show False from hb).elim | skip
  have e1 := r1.str_inv
  have e2 := r2.str_inv
  subst e1
  subst e2
  obtain ⟨hc, q⟩ := hb
  have ne : (!(Builtin.Str.occurrences (⟨z.toArray⟩ : Str) ⟨#[c]⟩ 0 (⟨z.toArray⟩ : Str).length 1).isEmpty) = decide (c ∈ z) := StrLaws.found_one ⟨z.toArray⟩ c
  rw [decide_eq_true hc] at ne
  cases ho : Builtin.Str.occurrences (⟨z.toArray⟩ : Str) ⟨#[c]⟩ 0 (⟨z.toArray⟩ : Str).length 1 with
  | nil =>
    exfalso
    have ne : (!(Builtin.Str.occurrences (⟨z.toArray⟩ : Str) ⟨#[c]⟩ 0 (⟨z.toArray⟩ : Str).length 1).isEmpty) = true := ne
    rw [ho] at ne
    cases ne
  | cons j rest => exact mt_sindex pins s σ H _ _ v us Q I rx rs ⟨_, _, j, rest, rfl, rfl, ho, g.here i .int (q j)⟩
theorem mt_indexB (ok : XOk S Sm T k arI X) : MtR X "list.index" (rBm S .index) := by
  intro pins s σ H x vs v us Q I rx rs h
  obtain ⟨d, e, Hk, QD, w, rfl, i, r1, r2, hb, g⟩ := h
  cases d <;> first | exact (show False from hb).elim | skip
  rcases hb with ⟨ns, y, j, rfl, q1, q2, q3, q4⟩ | ⟨a, ds, j, z, e1, e2, s1, s2, hz, hzj, hno, q⟩
  rotate_left
  · have hu' : X.A.units + 65 < cLine := by have := ok.room.un; omega
    have d2 := Rep.dp (r2.mono i) e1
    rw [← ok.K] at d2
    cases r1 with
    | lst h1 s3 =>
      have d1 : Dp X.K H (.ref _) (.list ds) := .lst (.inl (same_rd i h1)) (by rw [ok.K]; exact Reps.dp (s3.mono i) e2)
      exact mt_indexD hu' pins s σ H _ _ v us Q I rx rs ⟨_, _, a, ds, j, z, rfl, rfl, d1, d2, s2, s1, hz, hzj, hno, g.here i .int q⟩
  have e2 := r2.int_inv
  subst e2
  cases r1 with
  | lst h1 s1 =>
    have e1 := ints_spec s1 q1
    subst e1
    refine mt_index pins s σ H _ _ v us Q I rx rs ⟨_, _, _, j, _, rfl, rfl, .inl (same_rd i h1), rfl, ?_, by rw [List.getElem?_map, q2]; rfl, ?_, ?_, g.here i .int q4⟩
    · rw [List.all_map]
      exact List.all_eq_true.mpr fun _ _ => rfl
    · show (_ == _) = true
      simp
    · intro m z hm hz
      rw [List.getElem?_map] at hz
      cases e : ns[m]? with
      | none =>
        rw [e] at hz
        cases hz
      | some a =>
        rw [e] at hz
        cases Option.some.inj hz
        have hn := q3 m hm
        rw [e] at hn
        show (_ == _) = false
        exact beq_eq_false_iff_ne.mpr fun z => hn (by rw [z])
end
end Vg


set_option Elab.async false
set_option linter.all false
set_option maxRecDepth 100000
set_option maxHeartbeats 4000000
/-! Vg: forms of the text, readings of the terms -/
namespace Vg
open PySem L2
def plainE : Expr → Bool
  | .Name _ _ | .Constant _ _ _ | .BinOp _ _ _ _ | .UnaryOp _ _ _ | .Compare _ _ _ _ | .BoolOp _ _ _ | .IfExp _ _ _ _ | .Call _ _ _ _ | .Attribute _ _ _ | .Subscript _ _ _ | .List _ _ | .Tuple _ _ _ | .ListComp _ _ _ _ => true
  | _ => false
theorem star_plain {e : Expr} {es : List Expr} {env : PySem.Env} (h : plainE e = true) : starEach (e :: es) env = (false, eval e env) :: starEach es env := by
  cases e <;> first | rfl | cases h
theorem back_plain {env : PySem.Env} {pos : Pos} : ∀ {es : List Expr}, es.all plainE = true → (backTo pos (starEach es env)).any (·.1) = false
  | [], _ => rfl
  | e :: es, h => by
    rw [List.all_cons, Bool.and_eq_true] at h
    rw [star_plain h.1]
    show (false || (backTo pos (starEach es env)).any (·.1)) = false
    rw [back_plain h.2]
    rfl
def attrOk : Expr → Bool
  | .Name _ _ | .Constant _ _ _ | .BinOp _ _ _ _ | .UnaryOp _ _ _ | .Attribute _ _ _ | .Subscript _ _ _ | .List _ _ | .Tuple _ _ _ => true
  | .Call (.Name _ _) (_ :: _) _ _ => true
  | .Call (.Name x _) [] [] _ => !(x == "super")
  | .Call (.Attribute _ _ _) _ _ _ => true
  | _ => false
theorem attr_base {o : Expr} {name : Str} {env : PySem.Env} {w : PySem.Sem Value} (h : attrOk o = true) : attributeBase o name env w = w := by
  cases o <;> first | rfl | (cases h; done) | skip
  rename_i f as kw pos
  cases f <;> first | rfl | (cases h; done) | skip
  cases as with
  | cons a r => rfl
  | nil =>
    cases kw with
    | cons a r => rfl
    | nil =>
      rename_i x p
      have h : (!(x == ("super" : Str))) = true := h
      show (do if (x != ("super" : Str) || _ || _ || _) = true then return ← w else _) = w
      have e : (x != ("super" : Str)) = true := h
      rw [e]
      simp
theorem form_plain {es : List Expr} {env : PySem.Env} {pos : Pos} {n : Nat} (h : es.all plainE = true) (hn : n < 30) : methodCallForm n (backTo pos (starEach es env)) (backToKw pos (keywordEach [] env)) = true := by
  have h1 : ∀ {es : List Expr}, es.all plainE = true → (backTo pos (starEach es env)).all (fun x => !x.1) = true := by
    intro es
    induction es with
    | nil => intro _; rfl
    | cons e es ih =>
      intro h
      rw [List.all_cons, Bool.and_eq_true] at h
      rw [star_plain h.1]
      show (true && (backTo pos (starEach es env)).all (fun x => !x.1)) = true
      rw [ih h.2]
      rfl
  unfold methodCallForm
  rw [h1 h]
  show (true && true && decide (n + 0 < 30)) = true
  simp
  omega
theorem meth_eval {o : Expr} {m : Str} {apos pos : Pos} {es : List Expr} {env : PySem.Env} (h : attrOk o = true) (hl : (apos.endLine == pos.line) = true) (hp : es.all plainE = true) (hn : es.length < 30) :
    eval (.Call (.Attribute o m apos) es [] pos) env = (do
      let ov ← eval o env
      standAt apos.atName
      let (f, first) ← holding [ov] (getMethod ov m (do return (← importBound o env).getD true))
      callWith pos f first (backTo pos (starEach es env)) (backToKw pos (keywordEach [] env))) := by
  have e1 : eval (.Call (.Attribute o m apos) es [] pos) env = (do
      let ov ← attributeBase o m env (eval o env)
      standAt apos.atName
      methodCall o m apos pos env ov (es.length + 0) (backTo pos (starEach es env)) (backToKw pos (keywordEach [] env))) := by rfl
  rw [e1, attr_base h]
  have e2 : ∀ ov, methodCall o m apos pos env ov (es.length + 0) (backTo pos (starEach es env)) (backToKw pos (keywordEach [] env)) = (do
      let (f, first) ← holding [ov] (getMethod ov m (do return (← importBound o env).getD true))
      callWith pos f first (backTo pos (starEach es env)) (backToKw pos (keywordEach [] env))) := fun ov => by
    unfold methodCall calleeOf methodCallPos
    rw [form_plain (n := es.length + 0) hp hn, hl]
    rfl
  simp only [e2]
theorem pos_plain {e : Expr} {env : PySem.Env} (h : plainE e = true) : PlainIx e := by
  intro o i
  cases e <;> first | rfl | cases h
theorem fold_plain {e : Expr} {env : PySem.Env} (h : plainE e = true) (x : Value) : foldedSetIterable e env x = pure x := by
  cases e <;> first | rfl | cases h
theorem mark_plain {e : Expr} {op : CmpOp} (h : plainE e = true) : behindInMarks op e = false := by
  cases e <;> first | rfl | cases h
theorem marks_plain {e f : Expr} {op op' : CmpOp} (h : plainE f = true) : lastMarks [op, op'] [e, f] = false := by
  cases f <;> first | rfl | cases h
def testE : Expr → Bool
  | .UnaryOp .Not _ _ => false
  | .BoolOp _ _ _ => false
  | .IfExp _ _ _ _ => false
  | .Compare _ _ _ _ => false
  | _ => true
theorem true_plain {e : Expr} {env : PySem.Env} (h : testE e = true) (w : PySem.Sem Value) : isTrue e env w = (do let v ← w; standAt e.pos; holding [v] (truthy v)) := by
  cases e <;> first | rfl | (cases h; done) | skip
  rename_i op x p
  cases op <;> first | rfl | cases h

/-! ### the readings -/
section
variable (S : Sg) (Sm : Sem)
def rdE (e : E) : TE := fun σ H Q => ∃ fr Γ Hk QD, StOk S fr Γ Hk σ H ∧ ev Sm e Γ QD ∧ Gives S Hk H QD Q
def rdL (e : E) : TE := fun σ H Q => ∃ fr Γ Hk QD, StOk S fr Γ Hk σ H ∧ ev Sm e Γ QD ∧ GivesL S Hk H QD Q
def rdA (e : E) : TA := fun σ H Q => ∃ fr Γ Hk QD, StOk S fr Γ Hk σ H ∧ ev Sm e Γ QD ∧ ∀ ds vs Hk' H', Step Hk H Hk' H' → Reps S Hk' ds vs → QD (.tup ds) → Q vs H'
def rdT (e : E) : TT := fun σ H Q => ∃ fr Γ Hk, ∃ QB : Bool → Prop, StOk S fr Γ Hk σ H ∧ ev Sm e Γ (fun d => ∃ b, d = .bl b ∧ QB b) ∧ ∀ b Hk' H', Step Hk H Hk' H' → QB b → Q b H'
def partD : Option Int → DV
  | none => .non
  | some i => .int i
def rdO (e : E) : TO := fun σ H Q => ∃ fr Γ Hk QD, StOk S fr Γ Hk σ H ∧ ev Sm e Γ QD ∧ ∀ o Hk' H', Step Hk H Hk' H' → QD (partD o) → Q o H'
/-- J walks over the xs while what is known stays -/
def WalkD (J : It) (xs : List DV) (Hk B : Hp) : Prop := ∃ G Y, Walk J xs.length G Y ∧ (∀ H, Same Hk H → Same B H → G H) ∧
  ∀ i Hk2 H2 v H3, i < xs.length → Same Hk Hk2 → Same Hk2 H2 → Y i H2 v H3 → ∃ d Hk3, xs[i]? = some d ∧ Step Hk2 H2 Hk3 H3 ∧ Rep S Hk3 d v
def isOwnI : E → Bool
  | .ownI _ => true
  | _ => false
def rdI (e : E) : TI := fun σ H R => ∃ fr Γ Hk, ∃ QI : List DV → Prop, StOk S fr Γ Hk σ H ∧ ev Sm e Γ (fun d => ∃ xs, itemsOf d = some xs ∧ QI xs) ∧ ∀ xs J Hk' H', Step Hk H Hk' H' → WalkD S J xs Hk' (if isOwnI e = true then H' else Hk') → QI xs → R J H'
end

section
variable {S : Sg} {Sm : Sem} {T : Nm} {k : Nat} {arI : Nat → Nat} {X : Cx} {σ : St} {H : Hp} {Q : VK}
theorem rd_var {i : Nat} (h : rdE S Sm (.var i) σ H Q) : tVar i σ H Q := by
  obtain ⟨fr, Γ, Hk, QD, ok, ⟨d, e, q⟩, g⟩ := h
  obtain ⟨v, sv, r⟩ := ok.var e
  exact ⟨v, sv, g.here ok.st.i r q⟩
mutual
theorem noL_drop {Hk H2 : Hp} {p : Addr} {vs : List V} (hp : H2 p = some (.lst vs)) (h0 : Hk p = none) : ∀ {d : DV} {v : V}, noL d = true → Rep S H2 d v → Rep S (fun a => if a = p then Hk a else H2 a) d v
  | _, _, _, .non => .non
  | _, _, _, .bl => .bl
  | _, _, _, .int => .int
  | _, _, _, .str => .str
  | _, _, z, .lst _ _ => by simp [noL] at z
  | _, _, z, .scr _ => by simp [noL] at z
  | .tup ds, .ref a, z, .tup (vs := us) h r => by
    refine .tup ?_ (noLs_drop hp h0 (by simpa [noL] using z) r)
    rcases h with (h | ⟨o, h⟩) | h
    · refine .inl (.inl ?_)
      show (if a = p then Hk a else H2 a) = _
      rw [if_neg (fun e => by rw [e, hp] at h; cases h)]
      exact h
    · refine .inl (.inr ⟨o, ?_⟩)
      show (if a = p then Hk a else H2 a) = _
      rw [if_neg (fun e => by rw [e, hp] at h; cases h)]
      exact h
    · exact .inr h
  | .ins c ds, .ref a, z, .ins (dx := dx) (fs := fs) h n r => by
    refine .ins (dx := dx) (fs := fs) ?_ n (noLs_drop hp h0 (by simpa [noL] using z) r)
    · show (if a = p then Hk a else H2 a) = _
      rw [if_neg (fun e => by rw [e, hp] at h; cases h)]
      exact h
theorem noLs_drop {Hk H2 : Hp} {p : Addr} {vs : List V} (hp : H2 p = some (.lst vs)) (h0 : Hk p = none) : ∀ {ds : List DV} {us : List V}, noLs ds = true → Reps S H2 ds us → Reps S (fun a => if a = p then Hk a else H2 a) ds us
  | _, _, _, .nil => .nil
  | _, _, z, .cons h r => by
    simp only [noLs, Bool.and_eq_true] at z
    exact .cons (noL_drop hp h0 z.1 h) (noLs_drop hp h0 z.2 r)
end
/-- what was lent is taken back -/
theorem Step.back {Hk H Hk2 H2 : Hp} {p : Addr} {vs : List V} (h0 : Hk p = none) (s : Step (upd Hk p (.lst vs)) H Hk2 H2) : Step Hk H (fun a => if a = p then Hk a else Hk2 a) H2 :=
  ⟨fun a u e => by
    show (if a = p then Hk a else Hk2 a) = _
    by_cases q : a = p
    · rw [if_pos q]
      exact e
    · rw [if_neg q]
      exact s.k _ _ (by rw [upd_ne q]; exact e), s.h, fun a u e => by
    have e : (if a = p then Hk a else Hk2 a) = some u := e
    by_cases q : a = p
    · rw [if_pos q, q, h0] at e
      cases e
    · rw [if_neg q] at e
      exact s.i _ _ e, fun a h1 h2 => by
    have h2 : (if a = p then Hk a else Hk2 a) ≠ none := h2
    by_cases q : a = p
    · rw [if_pos q] at h2
      exact h2
    · rw [if_neg q] at h2
      have := s.s a h1 h2
      rw [upd_ne q] at this
      exact this⟩
theorem rd_lend {i : Nat} {e : E} (h : rdE S Sm (.lend i e) σ H Q) : rdE S Sm e σ H Q := by
  obtain ⟨fr, Γ, Hk, QD, ok, ⟨xs, hx, hev⟩, g⟩ := h
  obtain ⟨p, vs, h0, ok'⟩ := ok.frzL' hx
  refine ⟨fr, _, _, _, ok', hev, fun d v Hk2 H2 s r q => ?_⟩
  have hp : Hk2 p = some (.lst vs) := s.k _ _ upd_same
  exact g d v _ H2 (Step.back h0 s) (noL_drop hp h0 q.1 r) q.2
theorem rdT_lend {i : Nat} {e : E} {Q : Bool → Hp → Prop} (h : rdT S Sm (.lend i e) σ H Q) : rdT S Sm e σ H Q := by
  obtain ⟨fr, Γ, Hk, QB, ok, ⟨xs, hx, hev⟩, g⟩ := h
  obtain ⟨p, vs, h0, ok'⟩ := ok.frzL' hx
  have e2 : (fun d => noL d = true ∧ ∃ b, d = DV.bl b ∧ QB b) = fun d => ∃ b, d = DV.bl b ∧ QB b := by
    funext d
    refine propext ⟨fun z => z.2, fun z => ?_⟩
    obtain ⟨b, rfl, z⟩ := z
    exact ⟨rfl, b, rfl, z⟩
  rw [e2] at hev
  exact ⟨fr, _, _, QB, ok', hev, fun b Hk2 H2 s q => g b _ H2 (Step.back h0 s) q⟩
theorem rd_k {d : DV} {v : V} (hr : ∀ H, Rep S H d v) (h : rdE S Sm (.k d) σ H Q) : tC v σ H Q := by
  obtain ⟨fr, Γ, Hk, QD, ok, q, g⟩ := h
  exact g.here ok.st.i (hr _) q
theorem rd_bin {o : Operator} {a b : E} (h : rdE S Sm (.bin o a b) σ H Q) : tOp (rBin S Sm o) (rdE S Sm a) (rdE S Sm b) σ H Q := by
  obtain ⟨fr, Γ, Hk, QD, ok, hev, g⟩ := h
  exact ⟨fr, Γ, Hk, _, ok, hev, fun d v Hk1 H1 s1 r1 q1 => ⟨fr, Γ, Hk1, _, ok.step s1, q1, fun e w Hk2 H2 s2 r2 q2 => ⟨d, e, Hk2, QD, s2.i, r1.mono s2.k, r2, q2, g.step (s1.trans s2)⟩⟩⟩
theorem rd_un {o : UnaryOp} {a : E} (h : rdE S Sm (.un o a) σ H Q) : tUn (rUn S Sm o) (rdE S Sm a) σ H Q := by
  obtain ⟨fr, Γ, Hk, QD, ok, hev, g⟩ := h
  exact ⟨fr, Γ, Hk, _, ok, hev, fun d v Hk1 H1 s1 r1 q1 => ⟨d, Hk1, QD, s1.i, r1, q1, g.step s1⟩⟩
theorem rd_cmp {o : CmpOp} {a b : E} (h : rdE S Sm (.cmp o a b) σ H Q) : tOp (rCmp S Sm o) (rdE S Sm a) (rdE S Sm b) σ H Q := by
  obtain ⟨fr, Γ, Hk, QD, ok, hev, g⟩ := h
  exact ⟨fr, Γ, Hk, _, ok, hev, fun d v Hk1 H1 s1 r1 q1 => ⟨fr, Γ, Hk1, _, ok.step s1, q1, fun e w Hk2 H2 s2 r2 q2 => ⟨d, e, Hk2, QD, s2.i, r1.mono s2.k, r2, q2, g.step (s1.trans s2)⟩⟩⟩
theorem rdT_E {e : E} {Q : Bool → Hp → Prop} (h : rdT S Sm e σ H Q) : rdE S Sm e σ H fun x H1 => ∃ k, x = .bl k ∧ Q k H1 := by
  obtain ⟨fr, Γ, Hk, QB, ok, hev, g⟩ := h
  refine ⟨fr, Γ, Hk, _, ok, hev, fun d v Hk1 H1 s1 r1 q1 => ?_⟩
  obtain ⟨b, rfl, q⟩ := q1
  exact ⟨b, r1.bl_inv, g b Hk1 H1 s1 q⟩
theorem rdT_and {a b : E} {Q : Bool → Hp → Prop} (h : rdT S Sm (.band a b) σ H Q) : tAnd (rdT S Sm a) (rdT S Sm b) σ H Q := by
  obtain ⟨fr, Γ, Hk, QB, ok, hev, g⟩ := h
  refine ⟨fr, Γ, Hk, _, ok, hev, fun c Hk1 H1 s1 q1 => ?_⟩
  cases c with
  | true =>
    refine ⟨fr, Γ, Hk1, QB, ok.step s1, ?_, fun b Hk2 H2 s2 q2 => g b Hk2 H2 (s1.trans s2) q2⟩
    have q : ev Sm b Γ (fun y => ∃ d, y = .bl d ∧ ∃ b, DV.bl d = .bl b ∧ QB b) := q1
    have e : (fun y => ∃ d, y = DV.bl d ∧ ∃ b, DV.bl d = .bl b ∧ QB b) = fun y => ∃ d, y = DV.bl d ∧ QB d := by
      funext y
      apply propext
      constructor
      · rintro ⟨d, rfl, b, e, q⟩
        cases e
        exact ⟨_, rfl, q⟩
      · rintro ⟨d, rfl, q⟩
        exact ⟨d, rfl, d, rfl, q⟩
    rwa [e] at q
  | false =>
    have q : ∃ b, DV.bl false = .bl b ∧ QB b := q1
    obtain ⟨b, e, q⟩ := q
    cases e
    exact g false Hk1 H1 s1 q
theorem rdT_or {a b : E} {Q : Bool → Hp → Prop} (h : rdT S Sm (.bor a b) σ H Q) : tOr (rdT S Sm a) (rdT S Sm b) σ H Q := by
  obtain ⟨fr, Γ, Hk, QB, ok, hev, g⟩ := h
  refine ⟨fr, Γ, Hk, _, ok, hev, fun c Hk1 H1 s1 q1 => ?_⟩
  cases c with
  | true =>
    have q : ∃ b, DV.bl true = .bl b ∧ QB b := q1
    obtain ⟨b, e, q⟩ := q
    cases e
    exact g true Hk1 H1 s1 q
  | false =>
    refine ⟨fr, Γ, Hk1, QB, ok.step s1, ?_, fun b Hk2 H2 s2 q2 => g b Hk2 H2 (s1.trans s2) q2⟩
    have q : ev Sm b Γ (fun y => ∃ d, y = .bl d ∧ ∃ b, DV.bl d = .bl b ∧ QB b) := q1
    have e : (fun y => ∃ d, y = DV.bl d ∧ ∃ b, DV.bl d = .bl b ∧ QB b) = fun y => ∃ d, y = DV.bl d ∧ QB d := by
      funext y
      apply propext
      constructor
      · rintro ⟨d, rfl, b, e, q⟩
        cases e
        exact ⟨_, rfl, q⟩
      · rintro ⟨d, rfl, q⟩
        exact ⟨d, rfl, d, rfl, q⟩
    rwa [e] at q
theorem rdT_not {a : E} {Q : Bool → Hp → Prop} (h : rdT S Sm (.bnot a) σ H Q) : tNot (rdT S Sm a) σ H Q := by
  obtain ⟨fr, Γ, Hk, QB, ok, hev, g⟩ := h
  refine ⟨fr, Γ, Hk, _, ok, hev, fun c Hk1 H1 s1 q1 => ?_⟩
  obtain ⟨b, e, q⟩ := q1
  cases e
  exact g (!c) Hk1 H1 s1 q
theorem rd_and {a b : E} (h : rdE S Sm (.band a b) σ H Q) : tAndV (rdE S Sm a) (rdE S Sm b) σ H Q := by
  obtain ⟨fr, Γ, Hk, QD, ok, hev, g⟩ := h
  refine ⟨fr, Γ, Hk, _, ok, hev, fun d v Hk1 H1 s1 r1 q1 => ?_⟩
  obtain ⟨c, rfl, q⟩ := q1
  refine ⟨c, r1.bl_inv, ?_⟩
  cases c with
  | true =>
    refine ⟨fr, Γ, Hk1, _, ok.step s1, q, fun d v Hk2 H2 s2 r2 q2 => ?_⟩
    obtain ⟨d, rfl, q2⟩ := q2
    exact g _ v Hk2 H2 (s1.trans s2) r2 q2
  | false => exact (g.step s1).here s1.i .bl q
theorem rd_or {a b : E} (h : rdE S Sm (.bor a b) σ H Q) : tOrV (rdE S Sm a) (rdE S Sm b) σ H Q := by
  obtain ⟨fr, Γ, Hk, QD, ok, hev, g⟩ := h
  refine ⟨fr, Γ, Hk, _, ok, hev, fun d v Hk1 H1 s1 r1 q1 => ?_⟩
  obtain ⟨c, rfl, q⟩ := q1
  refine ⟨c, r1.bl_inv, ?_⟩
  cases c with
  | true => exact (g.step s1).here s1.i .bl q
  | false =>
    refine ⟨fr, Γ, Hk1, _, ok.step s1, q, fun d v Hk2 H2 s2 r2 q2 => ?_⟩
    obtain ⟨d, rfl, q2⟩ := q2
    exact g _ v Hk2 H2 (s1.trans s2) r2 q2
theorem rd_not {a : E} (h : rdE S Sm (.bnot a) σ H Q) : tNotV (rdE S Sm a) σ H Q := by
  obtain ⟨fr, Γ, Hk, QD, ok, hev, g⟩ := h
  refine ⟨fr, Γ, Hk, _, ok, hev, fun d v Hk1 H1 s1 r1 q1 => ?_⟩
  obtain ⟨c, rfl, q⟩ := q1
  exact ⟨c, r1.bl_inv, (g.step s1).here s1.i .bl q⟩
theorem rd_ife {t a b : E} (h : rdE S Sm (.ife t a b) σ H Q) : tIf (rdT S Sm t) (rdE S Sm a) (rdE S Sm b) σ H Q := by
  obtain ⟨fr, Γ, Hk, QD, ok, hev, g⟩ := h
  refine ⟨fr, Γ, Hk, _, ok, hev, fun c Hk1 H1 s1 q1 => ?_⟩
  cases c with
  | true => exact ⟨fr, Γ, Hk1, QD, ok.step s1, q1, g.step s1⟩
  | false => exact ⟨fr, Γ, Hk1, QD, ok.step s1, q1, g.step s1⟩
theorem rd_chain {o p : CmpOp} {a b c : E} (h : rdE S Sm (.chain o p a b c) σ H Q) : tChain (rCmp S Sm o) (rCmp S Sm p) (rdE S Sm a) (rdE S Sm b) (rdE S Sm c) σ H Q := by
  obtain ⟨fr, Γ, Hk, QD, ok, hev, g⟩ := h
  refine ⟨fr, Γ, Hk, _, ok, hev, fun d v Hk1 H1 s1 r1 q1 => ⟨fr, Γ, Hk1, _, ok.step s1, q1, fun e w Hk2 H2 s2 r2 q2 => ?_⟩⟩
  refine ⟨d, e, Hk2, _, s2.i, r1.mono s2.k, r2, q2, fun r u Hk3 H3 s3 r3 q3 => ?_⟩
  obtain ⟨bb, rfl, q⟩ := q3
  have st := (s1.trans s2).trans s3
  refine ⟨bb, r3.bl_inv, ?_⟩
  cases bb with
  | true => exact ⟨fr, Γ, Hk3, _, ok.step st, q, fun z x Hk4 H4 s4 r4 q4 => ⟨e, z, Hk4, QD, s4.i, (r2.mono s3.k).mono s4.k, r4, q4, g.step (st.trans s4)⟩⟩
  | false => exact (g.step st).here s3.i .bl q
theorem rdA_nil {Q : List V → Hp → Prop} (h : rdA S Sm .nil σ H Q) : tNil σ H Q := by
  obtain ⟨fr, Γ, Hk, QD, ok, q, g⟩ := h
  exact g [] [] Hk H (Step.refl ok.st.i) .nil q
theorem rdA_cons {a r : E} {Q : List V → Hp → Prop} (h : rdA S Sm (.cons a r) σ H Q) : tCons (rdE S Sm a) (rdA S Sm r) σ H Q := by
  obtain ⟨fr, Γ, Hk, QD, ok, hev, g⟩ := h
  exact ⟨fr, Γ, Hk, _, ok, hev, fun d v Hk1 H1 s1 r1 q1 => ⟨fr, Γ, Hk1, _, ok.step s1, q1, fun ds vs Hk2 H2 s2 r2 q2 => g (d :: ds) (v :: vs) Hk2 H2 (s1.trans s2) (.cons (r1.mono s2.k) r2) q2⟩⟩
theorem rd_args {as : E} {P : List DV → (DV → Prop) → Prop} {R : List V → Hp → Prop} {fr : Fr} {Γ : Env} {Hk : Hp} {QD : DV → Prop} (ok : StOk S fr Γ Hk σ H) (hev : ev Sm as Γ fun x => argsOf x fun ds => P ds QD)
    (h : ∀ ds vs Hk1 H1, Step Hk H Hk1 H1 → Reps S Hk1 ds vs → P ds QD → R vs H1) : rdA S Sm as σ H R :=
  ⟨fr, Γ, Hk, _, ok, hev, fun ds vs Hk1 H1 s1 r1 q1 => h ds vs Hk1 H1 s1 r1 q1⟩
theorem rd_call (xo : XOk S Sm T k arI X) {f : Nat} {as : E} (h : rdE S Sm (.call f as) σ H Q) : tCall (spF S Sm T f) [] E0 (rdA S Sm as) σ H Q := by
  obtain ⟨fr, Γ, Hk, QD, ok, hev, g⟩ := h
  refine rd_args (P := fun ds QD => Sm.F f ds QD) ok hev fun ds vs Hk1 H1 s1 r1 q1 => ?_
  show spF S Sm T f (vs ++ []) H1 Q E0
  rw [List.append_nil]
  refine ⟨ds, QD, Hk1, s1.i, r1, xo.arF f ds QD q1, q1, ?_⟩
  split
  · exact (g.step s1).toL
  · exact g.step s1
theorem rdL_call (xo : XOk S Sm T k arI X) {f : Nat} {as : E} (hf : T.fresh f = true) (h : rdL S Sm (.call f as) σ H Q) : tCall (spF S Sm T f) [] E0 (rdA S Sm as) σ H Q := by
  obtain ⟨fr, Γ, Hk, QD, ok, hev, g⟩ := h
  refine rd_args (P := fun ds QD => Sm.F f ds QD) ok hev fun ds vs Hk1 H1 s1 r1 q1 => ?_
  show spF S Sm T f (vs ++ []) H1 Q E0
  rw [List.append_nil]
  refine ⟨ds, QD, Hk1, s1.i, r1, xo.arF f ds QD q1, q1, ?_⟩
  rw [if_pos hf]
  exact g.step s1
theorem rd_mk (xo : XOk S Sm T k arI X) {c : Nat} {as : E} (h : rdE S Sm (.mk c as) σ H Q) : tMake (S.cls c) (spI S Sm arI c) [] E0 (rdA S Sm as) σ H Q := by
  obtain ⟨fr, Γ, Hk, QD, ok, hev, g⟩ := h
  refine rd_args (P := fun ds QD => Sm.I c ds QD) ok hev fun ds vs Hk1 H1 s1 r1 q1 => ?_
  intro x dx hx hdx hne
  rw [List.append_nil]
  have hkx : Hk1 x = none := s1.i.free hx
  refine ⟨x, dx, vs, ds, QD, Hk1, rfl, upd_same, hkx, fun a o e => ?_, r1, xo.arI c ds QD q1, q1, fun d us H' Hk' fs ed hp hk hn rr st qd => ⟨rfl, ?_⟩⟩
  · have e1 := s1.i _ _ e
    rw [upd_ne (ne_of_none e1 hx), upd_ne (ne_of_none e1 hdx)]
    exact e1
  · subst ed
    have hne' : ∀ a, H1 a ≠ none → a ≠ x := fun a ha z => ha (by rw [z]; exact hx)
    refine (g.step s1) (.ins c us) (.ref x) (upd Hk' x (.ins (S.cls c) dx fs)) H' ⟨st.k.trans (same_new hk), fun a o e => ?_, fun a o e => ?_, fun a h1 h2 => ?_⟩ (.ins upd_same hn (rr.mono (same_new hk))) qd
    · refine st.h a o ?_
      show (if a = x then none else _) = some o
      rw [if_neg (ne_of_none e hx), upd_ne (ne_of_none e hx), upd_ne (ne_of_none e hdx)]
      exact e
    · by_cases z : a = x
      · subst z
        rw [upd_same] at e
        cases e
        exact hp
      · rw [upd_ne z] at e
        exact st.i _ _ e
    · have z : a ≠ x := hne' a h1
      have zd : a ≠ dx := fun z => h1 (by rw [z]; exact hdx)
      rw [upd_ne z] at h2
      refine st.s a ?_ h2
      show (if a = x then none else _) ≠ none
      rw [if_neg z, upd_ne z, upd_ne zd]
      exact h1
theorem lookup_at {f : Str} {v : V} : ∀ {fs : List (Str × V)} {j : Nat}, (fs.map (·.1)).Nodup → (fs.map (·.1))[j]? = some f → (fs.map (·.2))[j]? = some v → fs.lookup f = some v
  | [], _, _, h, _ => by simp at h
  | (g, w) :: fs, 0, _, h1, h2 => by
    have e1 : g = f := by simpa using h1
    have e2 : w = v := by simpa using h2
    rw [e1, e2, List.lookup_cons]
    simp
  | (g, w) :: fs, j + 1, nd, h1, h2 => by
    have nd' := List.nodup_cons.mp nd
    have h1' : (fs.map (·.1))[j]? = some f := h1
    have h2' : (fs.map (·.2))[j]? = some v := h2
    have hm : f ∈ fs.map (·.1) := List.mem_of_getElem? h1'
    have hne : ¬ f = g := fun z => nd'.1 (by rw [← z]; exact hm)
    rw [List.lookup_cons]
    simp only [beq_eq_false_iff_ne.mpr hne]
    exact lookup_at (j := j) nd'.2 h1' h2'
theorem lookup_none {f : Str} : ∀ {fs : List (Str × V)}, f ∉ fs.map (·.1) → fs.lookup f = none
  | [], _ => rfl
  | (g, w) :: fs, h => by
    have hne : ¬ f = g := fun z => h (by rw [z]; exact List.mem_cons_self)
    rw [List.lookup_cons]
    simp only [beq_eq_false_iff_ne.mpr hne]
    exact lookup_none fun m => h (List.mem_cons_of_mem _ m)
theorem rd_fld (xo : XOk S Sm T k arI X) {f : Nat} {o : E} (h : rdE S Sm (.fld o f) σ H Q) : tFld X.K (rdE S Sm o) (T.fid f) σ H Q := by
  obtain ⟨fr, Γ, Hk, QD, ok, hev, g⟩ := h
  refine ⟨fr, Γ, Hk, _, ok, hev, fun d v Hk1 H1 s1 r1 q1 => ?_⟩
  obtain ⟨c, vs, j, z, rfl, h1, h2, q⟩ := q1
  obtain ⟨na, hj, nd, cl, _⟩ := xo.fld c f j h1
  cases r1 with
  | @ins a _ dx _ fs e1 e2 r2 =>
    obtain ⟨w, hw, rw'⟩ := r2.get h2
    exact ⟨a, S.cls c, dx, fs, w, rfl, s1.i _ _ e1, cl, na, lookup_at (j := j) (by rw [e2]; exact nd) (by rw [e2]; exact hj) hw, (g.step s1).here s1.i rw' q⟩
theorem rd_idx {o i : E} (h : rdE S Sm (.idx o i) σ H Q) : tOp (rIdx S) (rdE S Sm o) (rdE S Sm i) σ H Q := by
  obtain ⟨fr, Γ, Hk, QD, ok, hev, g⟩ := h
  exact ⟨fr, Γ, Hk, _, ok, hev, fun d v Hk1 H1 s1 r1 q1 => ⟨fr, Γ, Hk1, _, ok.step s1, q1, fun e w Hk2 H2 s2 r2 q2 => ⟨d, e, Hk2, QD, s2.i, r1.mono s2.k, r2, q2, g.step (s1.trans s2)⟩⟩⟩
theorem rdO_no {Q : Option Int → Hp → Prop} (h : rdO S Sm .nopart σ H Q) : tNoPart σ H Q := by
  obtain ⟨fr, Γ, Hk, QD, ok, q, g⟩ := h
  exact g none Hk H (Step.refl ok.st.i) q
theorem rdO_part {a : E} {Q : Option Int → Hp → Prop} (h : rdO S Sm (.part a) σ H Q) : tPart (rdE S Sm a) σ H Q := by
  obtain ⟨fr, Γ, Hk, QD, ok, hev, g⟩ := h
  refine ⟨fr, Γ, Hk, _, ok, hev, fun d v Hk1 H1 s1 r1 q1 => ?_⟩
  obtain ⟨i, rfl, q⟩ := q1
  exact ⟨i, r1.int_inv, g (some i) Hk1 H1 s1 q⟩
theorem rd_slc {o lo hi : E} (h : rdE S Sm (.slc o lo hi) σ H Q) : tSl (rSlc S) (rdE S Sm o) (rdO S Sm lo) (rdO S Sm hi) σ H Q := by
  obtain ⟨fr, Γ, Hk, QD, ok, hev, g⟩ := h
  refine ⟨fr, Γ, Hk, _, ok, hev, fun d v Hk1 H1 s1 r1 q1 => ⟨fr, Γ, Hk1, _, ok.step s1, q1, fun l Hk2 H2 s2 q2 => ⟨fr, Γ, Hk2, _, (ok.step s1).step s2, q2, fun u Hk3 H3 s3 q3 => ?_⟩⟩⟩
  refine ⟨d, Hk3, QD, s3.i, (r1.mono s2.k).mono s3.k, ?_, g.step ((s1.trans s2).trans s3)⟩
  cases l <;> cases u <;> exact q3
theorem rd_slcL {o lo hi : E} (h : rdL S Sm (.slcL o lo hi) σ H Q) : tSl (rSlcL S) (rdE S Sm o) (rdO S Sm lo) (rdO S Sm hi) σ H Q := by
  obtain ⟨fr, Γ, Hk, QD, ok, hev, g⟩ := h
  refine ⟨fr, Γ, Hk, _, ok, hev, fun d v Hk1 H1 s1 r1 q1 => ⟨fr, Γ, Hk1, _, ok.step s1, q1, fun l Hk2 H2 s2 q2 => ⟨fr, Γ, Hk2, _, (ok.step s1).step s2, q2, fun u Hk3 H3 s3 q3 => ?_⟩⟩⟩
  have st := (s1.trans s2).trans s3
  have r3 := (r1.mono s2.k).mono s3.k
  cases l <;> cases u <;> (obtain ⟨xs, rfl, q⟩ := q3; exact ⟨xs, Hk3, QD, s3.i, r3, q, g.step st⟩)
theorem rdL_cat {a b : E} (h : rdL S Sm (.catL a b) σ H Q) : tOp (rCatD S) (rdE S Sm a) (rdE S Sm b) σ H Q := by
  obtain ⟨fr, Γ, Hk, QD, ok, hev, g⟩ := h
  refine ⟨fr, Γ, Hk, _, ok, hev, fun d v Hk1 H1 s1 r1 q1 => ⟨fr, Γ, Hk1, _, ok.step s1, q1, fun e w Hk2 H2 s2 r2 q2 => ?_⟩⟩
  obtain ⟨xs, ys, rfl, rfl, hz, q⟩ := q2
  exact ⟨xs, ys, Hk2, QD, s2.i, r1.mono s2.k, r2, hz, q, g.step (s1.trans s2)⟩
theorem rdL_rep {a b : E} (h : rdL S Sm (.repL a b) σ H Q) : tOp (rRepD S) (rdE S Sm a) (rdE S Sm b) σ H Q := by
  obtain ⟨fr, Γ, Hk, QD, ok, hev, g⟩ := h
  refine ⟨fr, Γ, Hk, _, ok, hev, fun d v Hk1 H1 s1 r1 q1 => ⟨fr, Γ, Hk1, _, ok.step s1, q1, fun e w Hk2 H2 s2 r2 q2 => ?_⟩⟩
  obtain ⟨xs, n, rfl, rfl, h1, h2, hz, q⟩ := q2
  exact ⟨xs, Hk2, QD, n, s2.i, r1.mono s2.k, r2.int_inv, h1, h2, hz, q, g.step (s1.trans s2)⟩
theorem rd_bi {b : Bi} {as : E} (h : rdE S Sm (.bi b as) σ H Q) : tCB (rBi S b) (rdA S Sm as) σ H Q := by
  obtain ⟨fr, Γ, Hk, QD, ok, hev, g⟩ := h
  exact rd_args (P := fun ds QD => biS b ds QD) ok hev fun ds vs Hk1 H1 s1 r1 q1 => ⟨ds, Hk1, QD, s1.i, r1, q1, g.step s1⟩
theorem rdL_bi {b : Bi} {as : E} (h : rdL S Sm (.bi b as) σ H Q) : tCB (rBiL S b) (rdA S Sm as) σ H Q := by
  obtain ⟨fr, Γ, Hk, QD, ok, hev, g⟩ := h
  exact rd_args (P := fun ds QD => biS b ds QD) ok hev fun ds vs Hk1 H1 s1 r1 q1 => ⟨ds, Hk1, QD, s1.i, r1, q1, g.step s1⟩
theorem rdE_L {e : E} (h : rdE S Sm e σ H Q) : rdL S Sm e σ H Q := by
  obtain ⟨fr, Γ, Hk, QD, ok, hev, g⟩ := h
  exact ⟨fr, Γ, Hk, QD, ok, hev, g.toL⟩
theorem rd_isi {a : E} {t : Ty} (h : rdE S Sm (.isi a t) σ H Q) : tCB (rIsiD S Sm t) (tCons (rdE S Sm a) (tCons (tC (tyVal S t)) tNil)) σ H Q := by
  obtain ⟨fr, Γ, Hk, QD, ok, hev, g⟩ := h
  exact ⟨fr, Γ, Hk, _, ok, hev, fun d v Hk1 H1 s1 r1 q1 => ⟨d, Hk1, QD, v, rfl, s1.i, r1, q1, g.step s1⟩⟩
theorem rdL_lst {as : E} (h : rdL S Sm (.lst as) σ H Q) : tLst (rdA S Sm as) σ H Q := by
  obtain ⟨fr, Γ, Hk, QD, ok, hev, g⟩ := h
  refine rd_args (P := fun ds QD => ds.length ≤ sizeLine ∧ QD (.lst ds)) ok hev fun ds vs Hk1 H1 s1 r1 q1 => ⟨by rw [← r1.length]; exact q1.1, fun p hp => ?_⟩
  exact (g.step s1).new s1.i hp r1 q1.2
theorem rd_tup {as : E} (h : rdE S Sm (.tup as) σ H Q) : tTup (rdA S Sm as) σ H Q := by
  obtain ⟨fr, Γ, Hk, QD, ok, hev, g⟩ := h
  refine rd_args (P := fun ds QD => ds.length ≤ sizeLine ∧ QD (.tup ds)) ok hev fun ds vs Hk1 H1 s1 r1 q1 => ⟨by rw [← r1.length]; exact q1.1, fun p hp => ?_⟩
  exact (g.step s1).newT s1.i hp r1 q1.2
theorem rdL_rev {o : E} (h : rdL S Sm (.rev o) σ H Q) : tRevL X.K (rdE S Sm o) σ H Q := by
  obtain ⟨fr, Γ, Hk, QD, ok, hev, g⟩ := h
  refine ⟨fr, Γ, Hk, _, ok, hev, fun d v Hk1 H1 s1 r1 q1 => ?_⟩
  obtain ⟨xs, rfl, q⟩ := q1
  cases r1 with
  | lst h1 r2 => exact ⟨_, _, rfl, .inl (same_rd s1.i h1), fun p hp => (g.step s1).new s1.i hp r2.reverse q⟩
/-- an own list's item, its length, x in it -/
theorem StOk.ownL {fr : Fr} {Γ : Env} {Hk : Hp} {i : Nat} {xs : List DV} (h : StOk S fr Γ Hk σ H) (e : Γ[i]? = some (some (.own xs))) : ∃ p vs, σ[i]? = some (some (.ref p)) ∧ H p = some (.lst vs) ∧ Hk p = none ∧ fr.H0 p = none ∧ Reps S Hk xs vs := by
  obtain ⟨v, sv, p, vs, rfl, h1, h2, h3, h4⟩ := h.sl i _ e
  exact ⟨p, vs, sv, h1, h2, h3, h4⟩
theorem rd_idxO {i : Nat} {ix : E} (h : rdE S Sm (.idxO i ix) σ H Q) : tOp (rIxL X.K) (tVar i) (rdE S Sm ix) σ H Q := by
  obtain ⟨fr, Γ, Hk, QD, ok, ⟨xs, e, hev⟩, g⟩ := h
  obtain ⟨p, vs, sv, hp, _, _, r⟩ := ok.ownL e
  refine ⟨.ref p, sv, fr, Γ, Hk, _, ok, hev, fun d v Hk1 H1 s1 r1 q1 => ?_⟩
  obtain ⟨j, d', rfl, ha, q⟩ := q1
  obtain ⟨w, hw, rw'⟩ := atI_rep (r.mono s1.k) ha
  exact ⟨p, vs, j, w, rfl, r1.int_inv, .inl (.inl (s1.h _ _ hp)), hw, (g.step s1).here s1.i rw' q⟩
theorem rd_lenO {i : Nat} (h : rdE S Sm (.lenO i) σ H Q) : tCB (fun xs H Q => ∃ p ys, xs = [.ref p] ∧ (SqL X.K H p ys ∨ SqT X.K H p ys) ∧ Q (.int ys.length) H) (tCons (tVar i) tNil) σ H Q := by
  obtain ⟨fr, Γ, Hk, QD, ok, ⟨xs, e, q⟩, g⟩ := h
  obtain ⟨p, vs, sv, hp, _, _, r⟩ := ok.ownL e
  refine ⟨.ref p, sv, p, vs, rfl, .inl (.inl (.inl hp)), ?_⟩
  rw [← r.length]
  exact g.here ok.st.i .int q
theorem rd_inO {neg : Bool} {a : E} {i : Nat} (h : rdE S Sm (.inO neg a i) σ H Q) : tOp (rIn X.K neg) (rdE S Sm a) (tVar i) σ H Q := by
  obtain ⟨fr, Γ, Hk, QD, ok, hev, g⟩ := h
  refine ⟨fr, Γ, Hk, _, ok, hev, fun d v Hk1 H1 s1 r1 q1 => ?_⟩
  obtain ⟨ys, e, hf, ha, q⟩ := q1
  obtain ⟨p, vs, sv, hp, _, _, r⟩ := (ok.step s1).ownL e
  obtain ⟨z1, z2⟩ := inD_spec r1 r ha
  refine ⟨.ref p, sv, p, vs, rfl, .inl (.inl (.inl hp)), flat_spec hf r1, z1, ?_⟩
  have q2 := (g.step s1).here s1.i .bl q
  cases neg with
  | false =>
    show Q (.bl (inV v vs)) H1
    rw [z2]
    exact q2
  | true =>
    show Q (.bl (!inV v vs)) H1
    rw [z2]
    exact q2
theorem rd_fldO (xo : XOk S Sm T k arI X) {i f : Nat} (h : rdE S Sm (.fldO i f) σ H Q) : tFld X.K (tVar i) (T.fid f) σ H Q := by
  obtain ⟨fr, Γ, Hk, QD, ok, ⟨c, vs, j, d, e, hf, hd, q⟩, g⟩ := h
  obtain ⟨v, sv, p, dx, fs, rfl, hp, _, _, hn, rr, _⟩ := ok.sl i _ e
  obtain ⟨na, hj, nd, cl, _⟩ := xo.fld c f j hf
  obtain ⟨w, hw, rw'⟩ := rr.get hd
  have hlt : j < vs.length := by
    rcases Nat.lt_or_ge j vs.length with z | z
    · exact z
    · rw [List.getElem?_eq_none z] at hd
      cases hd
  refine ⟨.ref p, sv, p, S.cls c, dx, fs, w, rfl, hp, cl, na, lookup_at (j := j) (by rw [hn]; exact nd.sublist (List.take_sublist _ _)) (by rw [hn, List.getElem?_take_of_lt hlt]; exact hj) hw, g.here ok.st.i rw' q⟩
end
end Vg


set_option Elab.async false
set_option linter.all false
set_option maxRecDepth 100000
set_option maxHeartbeats 4000000
/-! Vg: what is walked -/
namespace Vg
open PySem L2
section
variable {S : Sg} {Sm : Sem} {T : Nm} {k : Nat} {arI : Nat → Nat} {X : Cx} {σ : St} {H : Hp}

theorem walkD_list {a : Addr} {vs : List V} {ds : List DV} {Hk B : Hp} (h : Rd Hk a (.lst vs)) (r : Reps S Hk ds vs) : WalkD S (Itl S.K a) ds Hk B := by
  refine ⟨fun H => SqL S.K H a vs, YAt vs, by rw [r.length]; exact walk_list (xs := vs), fun H i _ => .inl (same_rd i h), fun i Hk2 H2 v H3 hi i1 i2 y => ?_⟩
  obtain ⟨rfl, hy⟩ := y
  obtain ⟨d, hd, rd⟩ := r.getV hy
  exact ⟨d, Hk2, hd, Step.refl i2, rd.mono i1⟩
theorem walkD_scr {a : Addr} {ns : List Int} {Hk B : Hp} (h : SqL S.K Hk a (ns.map V.int)) : WalkD S (Itl S.K a) (ns.map DV.int) Hk B := by
  refine ⟨fun H => SqL S.K H a (ns.map V.int), YAt (ns.map V.int), by rw [(Reps.ints (S := S) (H := Hk) ns).length]; exact walk_list (xs := ns.map V.int), fun H i _ => same_l i h, fun i Hk2 H2 v H3 hi i1 i2 y => ?_⟩
  obtain ⟨rfl, hy⟩ := y
  obtain ⟨d, hd, rd⟩ := (Reps.ints (S := S) (H := Hk) ns).getV hy
  exact ⟨d, Hk2, hd, Step.refl i2, rd.mono i1⟩
theorem walkD_own {a : Addr} {vs : List V} {ds : List DV} {Hk B : Hp} (h : B a = some (.lst vs)) (r : Reps S Hk ds vs) : WalkD S (Itl S.K a) ds Hk B := by
  refine ⟨fun H => SqL S.K H a vs, YAt vs, by rw [r.length]; exact walk_list (xs := vs), fun H _ i => .inl (.inl (i _ _ h)), fun i Hk2 H2 v H3 hi i1 i2 y => ?_⟩
  obtain ⟨rfl, hy⟩ := y
  obtain ⟨d, hd, rd⟩ := r.getV hy
  exact ⟨d, Hk2, hd, Step.refl i2, rd.mono i1⟩
theorem walkD_tup {a : Addr} {vs : List V} {ds : List DV} {Hk B : Hp} (h : SqT S.K Hk a vs) (r : Reps S Hk ds vs) : WalkD S (Itt S.K a) ds Hk B := by
  refine ⟨fun H => SqT S.K H a vs, YAt vs, by rw [r.length]; exact walk_tup (xs := vs), fun H i _ => same_t i h, fun i Hk2 H2 v H3 hi i1 i2 y => ?_⟩
  obtain ⟨rfl, hy⟩ := y
  obtain ⟨d, hd, rd⟩ := r.getV hy
  exact ⟨d, Hk2, hd, Step.refl i2, rd.mono i1⟩
theorem walkD_str {s : List Nat} {Hk B : Hp} : WalkD S (Its ⟨s.toArray⟩) (s.map fun c => DV.str [c]) Hk B := by
  have e : (s.map fun c => DV.str [c]).length = (⟨s.toArray⟩ : Str).cps.size := by simp
  refine ⟨_, _, by rw [e]; exact walk_str, fun _ _ _ => trivial, fun i Hk2 H2 v H3 hi i1 i2 y => ?_⟩
  obtain ⟨rfl, c, hc, rfl⟩ := y
  have hc' : s[i]? = some c := by simpa using hc
  exact ⟨.str [c], Hk2, by rw [List.getElem?_map, hc']; rfl, Step.refl i2, .str (s := [c])⟩
theorem walkD_range {lo : Int} {n : Nat} {Hk B : Hp} : WalkD S (Itr lo n) ((List.range n).map fun i => DV.int (lo + (i : Nat))) Hk B := by
  have e : ((List.range n).map fun i => DV.int (lo + (i : Nat))).length = n := by simp
  refine ⟨_, _, by rw [e]; exact walk_range (lo := lo) (n := n), fun _ _ _ => trivial, fun i Hk2 H2 v H3 hi i1 i2 y => ?_⟩
  obtain ⟨rfl, rfl⟩ := y
  rw [e] at hi
  exact ⟨.int (lo + (i : Nat)), Hk2, by rw [List.getElem?_map, List.getElem?_range hi]; rfl, Step.refl i2, .int⟩

theorem pi_val (xo : XOk S Sm T k arI X) {tg l : Expr} {e : E} (h : PE X l (rdE S Sm e)) : PI X tg l (rdI S Sm e) := by
  refine ⟨fun pins s σ H R I q => ?_⟩
  obtain ⟨fr, Γ, Hk, QI, ok, hev, g⟩ := q
  refine thn (h.run pins s σ H (fun v H1 => ∃ d xs Hk1, Step Hk H Hk1 H1 ∧ Rep S Hk1 d v ∧ itemsOf d = some xs ∧ QI xs) I ⟨fr, Γ, Hk, _, ok, hev, fun d v Hk1 H1 s1 r1 q1 => ?_⟩) fun v s1 z => ?_
  · obtain ⟨xs, e1, q⟩ := q1
    exact ⟨d, xs, Hk1, s1, r1, e1, q⟩
  · obtain ⟨x, H1, I1, rx, d, xs, Hk1, st, r1, e1, q⟩ := z
    cases d <;> first | (cases e1; done) | skip
    · have e2 := r1.str_inv
      subst e2
      obtain ⟨t, rfl⟩ := rx
      rename_i z
      cases Option.some.inj e1
      have fin := g _ _ Hk1 H1 st (walkD_str (S := S) (s := z)) q
      cases ha : (⟨z.toArray⟩ : Str).cps.all (· < 128)
      · exact wpAny_pyIter_wide ha (pi_one (tk := s1.toks) I1 _ (turn_str _ _ t "str_iterator" (.inr rfl)) ⟨_, Heap.get?_push_size _ rfl, rfl, rfl⟩ fin)
      · exact wpAny_pyIter_ascii ha (pi_one (tk := s1.toks) I1 _ (turn_str _ _ t "str_ascii_iterator" (.inl rfl)) ⟨_, Heap.get?_push_size _ rfl, rfl, rfl⟩ fin)
    · cases Option.some.inj e1
      cases r1 with
      | @lst a _ vs h1 r2 =>
        cases rx
        have fin := g _ _ Hk1 H1 st (walkD_list h1 r2) q
        rw [← xo.K] at fin
        obtain ⟨its, rv, p, hz⟩ := I1.list (.inl (same_rd st.i h1))
        exact wpAny_pyIter_list p.isList (pi_one (tk := s1.toks) I1 _ (turn_list a _) ⟨_, Heap.get?_push_size _ rfl, rfl, rfl⟩ fin)
    · cases Option.some.inj e1
      cases r1 with
      | @tup a _ vs h1 r2 =>
        cases rx
        have fin := g _ _ Hk1 H1 st (walkD_tup h1 r2) q
        rw [← xo.K] at fin
        obtain ⟨its, rv, p, hz⟩ := I1.tuple (xo.K ▸ same_t st.i h1)
        exact wpAny_pyIter_tuple p (pi_one (tk := s1.toks) I1 _ (turn_tuple a _) ⟨_, Heap.get?_push_size _ rfl, rfl, rfl⟩ fin)
    · cases Option.some.inj e1
      cases r1 with
      | @scr a _ h1 =>
        cases rx
        have fin := g _ _ Hk1 H1 st (walkD_scr h1) q
        rw [← xo.K] at fin
        obtain ⟨its, rv, p, hz⟩ := I1.list (xo.K ▸ same_l st.i h1)
        exact wpAny_pyIter_list p.isList (pi_one (tk := s1.toks) I1 _ (turn_list a _) ⟨_, Heap.get?_push_size _ rfl, rfl, rfl⟩ fin)

theorem rdI_rng1 {a : E} {R : It → Hp → Prop} (h : rdI S Sm (.rng1 a) σ H R) : iRng1 (tCons (rdE S Sm a) tNil) σ H R := by
  obtain ⟨fr, Γ, Hk, QI, ok, hev, g⟩ := h
  refine ⟨fr, Γ, Hk, _, ok, hev, fun d v Hk1 H1 s1 r1 q1 => ?_⟩
  obtain ⟨n, rfl, b1, b2, xs, e, q⟩ := q1
  have e2 := r1.int_inv
  subst e2
  cases Option.some.inj e
  refine ⟨n, rfl, b1, b2, g _ _ Hk1 H1 s1 ?_ q⟩
  have w := walkD_range (S := S) (lo := 0) (n := n.toNat) (Hk := Hk1) (B := Hk1)
  have e3 : (fun i : Nat => DV.int (0 + (i : Nat))) = fun i : Nat => DV.int (i : Nat) := by
    funext i
    rw [Int.zero_add]
  rw [e3] at w
  exact w
theorem rdI_rng2 {a b : E} {R : It → Hp → Prop} (h : rdI S Sm (.rng2 a b) σ H R) : iRng2 (tCons (rdE S Sm a) (tCons (rdE S Sm b) tNil)) σ H R := by
  obtain ⟨fr, Γ, Hk, QI, ok, hev, g⟩ := h
  refine ⟨fr, Γ, Hk, _, ok, hev, fun d v Hk1 H1 s1 r1 q1 => ⟨fr, Γ, Hk1, _, ok.step s1, q1, fun e w Hk2 H2 s2 r2 q2 => ?_⟩⟩
  obtain ⟨lo, n, rfl, rfl, bs, xs, e, q⟩ := q2
  have e1 := r1.int_inv
  have e2 := r2.int_inv
  subst e1
  subst e2
  cases Option.some.inj e
  exact ⟨lo, n, rfl, bs, g _ _ Hk2 H2 (s1.trans s2) walkD_range q⟩

/-! ### zip of two texts -/
def Itzs (x y : Str) : It := ⟨fun i _ => i < min x.cps.size y.cps.size,
  fun i H v H' => ∃ T c d, v = .ref T ∧ H T = none ∧ H' = upd H T (.tup [.str ⟨#[c]⟩, .str ⟨#[d]⟩]) ∧ x.cps[i]? = some c ∧ y.cps[i]? = some d, fun i _ => i = min x.cps.size y.cps.size⟩
abbrev ZipSt (x y : Str) (t u : Tok) (z TI TO i1 i2 : Addr) (i : Nat) (h : Heap) : Prop :=
  IsZip h z TI TO .none ∧ IsTupOf2 h TI (.ref i1) (.ref i2) ∧ (∃ a1 a2, IsTupOf2 h TO a1 a2) ∧ h.IsStrIter i1 (strIterType x) x t i ∧ h.IsStrIter i2 (strIterType y) y u i
theorem zip_at {x y : Str} {t u : Tok} {z TI TO i1 i2 : Addr} {i : Nat} {h : Heap} (st : ZipSt x y t u z TI TO i1 i2 i h) : ∀ b ∈ (z :: TI :: TO :: ([i1] ++ [i2])), ∃ o, h.get? b = some o := fun c hc => by
  obtain ⟨hz, e0, ⟨a1, a2, e3⟩, ⟨o1, e1, _⟩, ⟨o2, e2, _⟩⟩ := st
  have e' : c = z ∨ c = TI ∨ c = TO ∨ c = i1 ∨ c = i2 := by simpa using hc
  rcases e' with rfl | rfl | rfl | rfl | rfl
  · exact ⟨_, hz⟩
  · exact ⟨_, e0⟩
  · exact ⟨_, e3⟩
  · exact ⟨o1, e1⟩
  · exact ⟨o2, e2⟩
theorem turn_zips {P : Program} {w : World} {K : PySem.W.Frag} {elts : List Expr} {kk : Nat} {tpos : Pos} {x y : Str} {t u : Tok} {z TI TO i1 i2 : Addr} (D : ZipSep2 z TI TO i1 i2 [i1] [i2]) :
    Turn P w K (.Tuple elts kk tpos) (Itzs x y) (z :: TI :: TO :: ([i1] ++ [i2])) z (ZipSt x y t u z TI TO i1 i2) where
  mem := by simp
  obj := fun i h st c hc => by
    obtain ⟨hz, e0, ⟨a1, a2, e3⟩, ⟨o1, e1, _, d1⟩, ⟨o2, e2, _, d2⟩⟩ := st
    have e' : c = z ∨ c = TI ∨ c = TO ∨ c = i1 ∨ c = i2 := by simpa using hc
    rcases e' with rfl | rfl | rfl | rfl | rfl
    · exact ⟨_, hz, fun v q => nomatch q⟩
    · exact ⟨_, e0, fun v q => nomatch q⟩
    · exact ⟨_, e3, fun v q => nomatch q⟩
    · exact ⟨o1, e1, fun v q => by rw [d1] at q; cases q⟩
    · exact ⟨o2, e2, fun v q => by rw [d2] at q; cases q⟩
  keep := fun i h h' st kp => by
    obtain ⟨hz, e0, ⟨a1, a2, e3⟩, ⟨o1, e1, r1⟩, ⟨o2, e2, r2⟩⟩ := st
    exact ⟨kp z (by simp) _ hz, kp TI (by simp) _ e0, ⟨a1, a2, kp TO (by simp) _ e3⟩, ⟨o1, kp i1 (by simp) _ e1, r1⟩, ⟨o2, kp i2 (by simp) _ e2, r2⟩⟩
  item := by
    intro X hP hw hK hc i pins s σ H E I hf st hg
    subst hP hw hK
    have hh : X.A.in1.handled = none := I.ok.hd hc
    have G := GoesN.zip2 (prog := X.prog) (w := X.w) (A := X.A) (elts := elts) (x1 := kk) (pos := tpos) D (Draws.text hh i1 x t) (Draws.text hh i2 y u)
    refine G.goes i s _ E hg st fun v h' tk hY st' hk htk => ?_
    obtain ⟨T', v1, v2, rfl, hT, ⟨c, t1, hc1, rfl⟩, ⟨d, t2, hd1, rfl⟩, hT2⟩ := hY
    have hfr : H T' = none := I.hok.fresh hT
    have new : ObjOk X.prog X.w (upd H T' (.tup [.str ⟨#[c]⟩, .str ⟨#[d]⟩])) h' T' (.tup [.str ⟨#[c]⟩, .str ⟨#[d]⟩]) :=
      ⟨by show 2 ≤ sizeLine; decide, [.str ⟨#[c]⟩ t1, .str ⟨#[d]⟩ t2], .cons ⟨_, rfl⟩ (.cons ⟨_, rfl⟩ .nil), hT2⟩
    have hsub : ∀ b ∈ ([z, TO, i1, i2] : List Addr), b ∈ (z :: TI :: TO :: ([i1] ++ [i2])) := fun b hb => by
      simp at hb ⊢
      rcases hb with r | r | r | r <;> simp [r]
    have I1 : Inv X pins σ (upd H T' (.tup [.str ⟨#[c]⟩, .str ⟨#[d]⟩])) { s with heap := h', toks := tk } :=
      I.turnedNew (ch := [z, TO, i1, i2]) (fun b o hb q => hk b o hb q) (fun b hb => hf b (hsub b hb)) hT new
    refine ⟨.ref T', _, I1, rfl, ⟨T', c, d, rfl, hfr, rfl, hc1, hd1⟩, st', fun b hb => ?_⟩
    have hb0 := (hf b hb).1
    have hne : b ≠ T' := fun q => by
      subst q
      obtain ⟨o, ho⟩ := zip_at st b hb
      exact absurd (Heap.lt_size ho) (Nat.not_lt.mpr hT)
    rw [upd_ne hne]
    exact hb0
  done := by
    intro X hP hw hK hc i pins s σ H E I hf st hg
    subst hP hw hK
    have hh : X.A.in1.handled = none := I.ok.hd hc
    have G := GoesN.zip2 (prog := X.prog) (w := X.w) (A := X.A) (elts := elts) (x1 := kk) (pos := tpos) D (Draws.text hh i1 x t) (Draws.text hh i2 y u)
    have hg' : i = min x.cps.size y.cps.size := hg
    subst hg'
    refine G.stops s _ E st fun h' tk hk htk => ?_
    exact I.turnedL (ch := [z, TO, i1, i2]) (fun b o hb q => hk b o hb q) (fun b hb => hf b (by simp at hb ⊢; rcases hb with r | r | r | r <;> simp [r]))
  self := fun A i s Q E st h => wpAny_pyIter_zip st.1 h
theorem walkD_zips {s t : List Nat} {Hk B : Hp} : WalkD S (Itzs ⟨s.toArray⟩ ⟨t.toArray⟩) ((s.zip t).map fun p => DV.tup [.str [p.1], .str [p.2]]) Hk B := by
  have e : ((s.zip t).map fun p => DV.tup [.str [p.1], .str [p.2]]).length = min s.length t.length := by simp
  have e2 : min (⟨s.toArray⟩ : Str).cps.size (⟨t.toArray⟩ : Str).cps.size = min s.length t.length := by simp
  refine ⟨fun _ => True, fun i H v H' => ∃ T c d, v = .ref T ∧ H T = none ∧ H' = upd H T (.tup [.str ⟨#[c]⟩, .str ⟨#[d]⟩]) ∧ s[i]? = some c ∧ t[i]? = some d, ⟨fun i H hi _ => ?_, fun H _ => ?_, fun i H v H' hi _ y => ?_⟩, fun _ _ _ => trivial, fun i Hk2 H2 v H3 hi i1 i2 y => ?_⟩
  · rw [e] at hi
    show i < min _ _
    rw [e2]
    exact hi
  · show _ = min _ _
    rw [e2]
    exact e
  · obtain ⟨T, c, d, h1, h2, h3, h4, h5⟩ := y
    exact ⟨T, c, d, h1, h2, h3, by simpa using h4, by simpa using h5⟩
  · obtain ⟨T, c, d, rfl, h2, rfl, h4, h5⟩ := y
    refine ⟨.tup [.str [c], .str [d]], upd Hk2 T (.tup [.str ⟨#[c]⟩, .str ⟨#[d]⟩]), ?_, Step.new i2 h2, .tup (.inl (.inl upd_same)) (.cons (.str (s := [c])) (.cons (.str (s := [d])) .nil))⟩
    have hz : (s.zip t)[i]? = some (c, d) := by
      rw [List.getElem?_zip_eq_some]
      exact ⟨h4, h5⟩
    rw [List.getElem?_map, hz]
    rfl
theorem pi_zips {a b : Expr} {ea eb : E} {p pos tpos : Pos} {elts : List Expr} {kk : Nat} (hg : Gl X "zip") (hm : X.mg "zip" = none) (ha : PE X a (rdE S Sm ea)) (hb : PE X b (rdE S Sm eb)) (pa : plainE a = true) (pb : plainE b = true) :
    PI X (.Tuple elts kk tpos) (.Call (.Name "zip" p) [a, b] [] pos) (rdI S Sm (.zip ea eb)) := by
  have A := pa_cons ha (pa_cons hb pa_nil (star_plain pb)) (star_plain pa)
  refine ⟨fun pins s σ H R I q => ?_⟩
  obtain ⟨fr, Γ, Hk, QI, ok, hev, g⟩ := q
  have hA : tCons (rdE S Sm ea) (tCons (rdE S Sm eb) tNil) σ H (fun vs H1 => ∃ (s t : List Nat) (Hk1 : Hp), vs = [.str ⟨s.toArray⟩, .str ⟨t.toArray⟩] ∧ Step Hk H Hk1 H1 ∧ QI ((s.zip t).map fun p => DV.tup [.str [p.1], .str [p.2]])) := by
    refine ⟨fr, Γ, Hk, _, ok, hev, fun d v Hk1 H1 s1 r1 q1 => ⟨fr, Γ, Hk1, _, ok.step s1, q1, fun e w Hk2 H2 s2 r2 q2 => ?_⟩⟩
    obtain ⟨x, y, rfl, rfl, xs, e, q⟩ := q2
    cases Option.some.inj e
    exact ⟨x, y, Hk2, by rw [r1.str_inv, r2.str_inv], s1.trans s2, q⟩
  refine PyProof.Rows.Call_ (ld_blt I hg hm PyProof.Rows.boot_zip (PyProof.Rows.callWith_type1 (thn (A.run pos pins s σ H _ I hA) fun us s1 ⟨vs, H1, I1, r1, q1⟩ => ?_) (star_plain pa) (by rw [star_plain pb]; rfl)))
  obtain ⟨x, y, Hk1, rfl, st, q⟩ := q1
  cases r1 with
  | cons r rr =>
    cases rr with
    | cons r' rr =>
      cases rr
      obtain ⟨t1, rfl⟩ := r
      obtain ⟨t2, rfl⟩ := r'
      refine zip_begins2 (begins_text _ _) (begins_text _ _) trivial trivial fun h' hz hTI hTO e1 e2 hsz hk => ?_
      have D : ZipSep2 (s1.heap.objs.size + 4) (s1.heap.objs.size + 2) (s1.heap.objs.size + 3) s1.heap.objs.size (s1.heap.objs.size + 1) [s1.heap.objs.size] [s1.heap.objs.size + 1] :=
        zip_sep2 (fp1 := []) (fp2 := []) (fun b hb => by cases hb) (fun b hb => by cases hb)
      refine wpAny_pyIter_zip hz ?_
      have I2 : Inv X pins σ H1 { s1 with heap := h' } := I1.kept (t' := s1.toks) hk
      have st0 : ZipSt ⟨x.toArray⟩ ⟨y.toArray⟩ t1 t2 (s1.heap.objs.size + 4) (s1.heap.objs.size + 2) (s1.heap.objs.size + 3) s1.heap.objs.size (s1.heap.objs.size + 1) 0 h' :=
        ⟨hz, hTI, ⟨_, _, hTO⟩, ⟨_, e1, rfl, rfl⟩, ⟨_, e2, rfl, rfl⟩⟩
      refine ⟨_, _, _, _, H1, rfl, I2, turn_zips (t := t1) (u := t2) D, st0, fun c hc => ?_, g _ _ Hk1 H1 st walkD_zips q⟩
      have e' : c = s1.heap.objs.size + 4 ∨ c = s1.heap.objs.size + 2 ∨ c = s1.heap.objs.size + 3 ∨ c = s1.heap.objs.size ∨ c = s1.heap.objs.size + 1 := by simpa using hc
      have hle : s1.heap.objs.size ≤ c := by
        rcases e' with z | z | z | z | z <;> rw [z] <;> first | exact Nat.le_add_right _ _ | exact Nat.le_refl _
      exact I1.fpOk hle (I1.hok.fresh hle)
end
end Vg


set_option Elab.async false
set_option linter.all false
set_option maxRecDepth 100000
set_option maxHeartbeats 4000000
/-! Vg: comprehensions -/
namespace Vg
open PySem L2
section
variable {S : Sg} {Sm : Sem} {T : Nm} {k : Nat} {arI : Nat → Nat} {X : Cx} {σ : St} {H : Hp} {Q : VK}

/-- the reading of a target -/
def gT (K : PySem.W.Frag) : Tg → TG
  | .one i => gName i
  | .two i j => gTup K 2 (gCons (gName i) (gCons (gName j) gNil))
def tT (S : Sg) (Sm : Sem) : E → TT
  | .tt => tYes
  | e => rdT S Sm e

theorem StOk.wipe {fr : Fr} {Γ : Env} {Hk : Hp} (h : StOk S fr Γ Hk σ H) : ∀ vs : List Nat, StOk S fr (wipeE Γ vs) Hk (L2.wipe σ vs) H
  | [] => h
  | v :: vs => (StOk.wipe h vs).forget

theorem wipe_set {tg : Tg} {σ2 : St} (h : ∃ o p : Option V, σ2 = match tg with | .one i => (L2.wipe σ [i]).set i o | .two i j => ((L2.wipe σ [i, j]).set i o).set j p) : L2.wipe σ2 tg.slots = L2.wipe σ tg.slots := by
  obtain ⟨o, p, rfl⟩ := h
  cases tg with
  | one i =>
    show (((σ.set i none).set i o).set i none : St) = σ.set i none
    simp
  | two i j =>
    show (((((σ.set j none).set i none).set i o).set j p).set j none).set i none = ((σ.set j none).set i none : St)
    simp only [List.set_set]
    by_cases e : i = j
    · subst e
      simp
    · rw [List.set_comm _ _ e]
      simp only [List.set_set]

/-- a target stores -/
theorem gT_run {fr : Fr} {Γ : Env} {Hk : Hp} {tg : Tg} {d : DV} {v : V} {KE : Env → Prop} {R : St → Hp → Prop} (hK : K' = S.K) (ok : StOk S fr Γ Hk σ H) (r : Rep S Hk d v) (h : stT tg Γ d KE)
    (q : ∀ Γ' σ', StOk S fr Γ' Hk σ' H → KE Γ' → (∃ o p : Option V, σ' = match tg with | .one i => σ.set i o | .two i j => (σ.set i o).set j p) → R σ' H) : gT K' tg v σ H R := by
  subst hK
  cases tg with
  | one i => exact q _ _ (ok.setV r) h ⟨some v, none, rfl⟩
  | two i j =>
    obtain ⟨a, b, rfl, h⟩ := h
    cases r with
    | tup h1 r2 =>
      obtain ⟨v1, v2, rfl, ra, rb⟩ := reps2 r2
      exact ⟨_, _, rfl, same_t ok.st.i h1, rfl, v1, [v2], rfl, v2, [], rfl, rfl, q _ _ ((ok.setV ra).setV rb) h ⟨some v1, some v2, rfl⟩⟩

theorem tT_run {fr : Fr} {Γ : Env} {Hk : Hp} {tst : E} {KB : Bool → Prop} {R : Bool → Hp → Prop} (ok : StOk S fr Γ Hk σ H) (hw : ev Sm tst Γ (fun b => ∃ bb, b = .bl bb ∧ KB bb)) (q : ∀ b Hk4 H4, Step Hk H Hk4 H4 → KB b → R b H4) : tT S Sm tst σ H R := by
  have gen : rdT S Sm tst σ H R := ⟨fr, Γ, Hk, KB, ok, hw, q⟩
  cases tst <;> first | exact gen | skip
  obtain ⟨bb, e, h⟩ := hw
  cases e
  exact q true Hk H (Step.refl ok.st.i) h
def lcK (Sm : Sem) (Γ : Env) (tg : Tg) (tst elt : E) (QD : DV → Prop) (r acc : List DV) : Prop := lcW (fun x K => stT tg (wipeE Γ tg.slots) x K) (fun Γ' Q' => ev Sm tst Γ' Q') (fun Γ' Q' => ev Sm elt Γ' Q') r acc fun ys => QD (.lst ys)
theorem lcK_cons {Γ : Env} {tg : Tg} {tst elt : E} {QD : DV → Prop} {r acc : List DV} {d : DV} : lcK Sm Γ tg tst elt QD (d :: r) acc = stT tg (wipeE Γ tg.slots) d fun Γ' => ev Sm tst Γ' fun b => ∃ bb, b = .bl bb ∧
    if bb = true then ev Sm elt Γ' (fun y => acc.length < sizeLine ∧ lcK Sm Γ tg tst elt QD r (acc ++ [y])) else lcK Sm Γ tg tst elt QD r acc := rfl
theorem rdL_lc (xo : XOk S Sm T k arI X) {tg : Tg} {it tst elt : E} (h : rdL S Sm (.lc tg it tst elt) σ H Q) : tLc (rdI S Sm it) (gT X.K tg) (tT S Sm tst) (rdE S Sm elt) tg.slots σ H Q := by
  obtain ⟨fr, Γ, Hk, QD, ok, hev, g⟩ := h
  refine ⟨fr, Γ, Hk, _, ok, hev, fun xs J Hk1 H1 s1 wd ql D hD => ?_⟩
  obtain ⟨G, Y, w, hG, hY⟩ := wd
  refine lc_it w (fun i Hc => ∃ (Hk2 : Hp) (acc : List DV) (vs : List V), Step Hk1 H1 Hk2 Hc ∧ Hc D = some (.lst vs) ∧ Hk2 D = none ∧ Reps S Hk2 acc vs ∧
    lcK Sm Γ tg tst elt QD (xs.drop i) acc) ?_ ?_ ?_ ?_
  · exact ⟨Hk1, [], [], Step.newO s1.i hD, upd_same, s1.i.free hD, .nil, ql⟩
  · rintro i Hc _ ⟨Hk2, acc, vs, st, _⟩
    refine hG Hc (st.k.trans st.i) ?_
    split
    · exact st.h
    · exact st.k.trans st.i
  · rintro i x Hc H' hi ⟨Hk2, acc, vs, st, hDc, hDk, ra, hw⟩ y
    obtain ⟨d, Hk3, hd, st3, rd⟩ := hY i Hk2 Hc x H' hi st.k st.i y
    have st' := st.trans st3
    have hdrop : xs.drop i = d :: xs.drop (i + 1) := by
      have hlt : i < xs.length := hi
      rw [List.drop_eq_getElem_cons hlt]
      rw [List.getElem?_eq_getElem hlt] at hd
      rw [Option.some.inj hd]
    rw [hdrop, lcK_cons] at hw
    have okw := ((ok.step s1).step st').wipe tg.slots
    have hD3 : Hk3 D = none := by
      cases q : Hk3 D with
      | none => rfl
      | some o => exact absurd hDk (st3.s D (by rw [hDc]; exact fun z => nomatch z) (by rw [q]; exact fun z => nomatch z))
    refine gT_run xo.K okw rd hw fun Γ' σ' ok' hw' hσ => ⟨wipe_set (by obtain ⟨o, p, e⟩ := hσ; refine ⟨o, p, ?_⟩; rw [e]; cases tg <;> rfl), ?_⟩
    refine tT_run ok' hw' fun b Hk4 H4 s4 hb => ?_
    have hD4 : Hk4 D = none := by
      cases q : Hk4 D with
      | none => rfl
      | some o => exact absurd hD3 (s4.s D (by rw [st3.h _ _ hDc]; exact fun z => nomatch z) (by rw [q]; exact fun z => nomatch z))
    have hH4 : H4 D = some (.lst vs) := s4.h _ _ (st3.h _ _ hDc)
    cases b with
    | true =>
      rw [if_pos rfl] at hb ⊢
      refine ⟨fr, Γ', Hk4, _, ok'.step s4, hb, fun dy y Hk5 H5 s5 r5 q5 => ?_⟩
      have hH5 := s5.h _ _ hH4
      have hD5 : Hk5 D = none := by
        cases q : Hk5 D with
        | none => rfl
        | some o => exact absurd hD4 (s5.s D (by rw [hH4]; exact fun z => nomatch z) (by rw [q]; exact fun z => nomatch z))
      have ra5 := ((ra.mono st3.k).mono s4.k).mono s5.k
      exact ⟨vs, hH5, by rw [← ra.length]; exact q5.1, Hk5, acc ++ [dy], vs ++ [y], ((st'.trans s4).trans s5).mut hD hD5, upd_same, hD5, ra5.append (.one r5), q5.2⟩
    | false =>
      rw [if_neg Bool.false_ne_true] at hb ⊢
      exact ⟨Hk4, acc, vs, st'.trans s4, hH4, hD4, (ra.mono st3.k).mono s4.k, hb⟩
  · rintro Hc ⟨Hk2, acc, vs, st, hDc, hDk, ra, hw⟩
    rw [List.drop_length] at hw
    exact (g.step s1) acc D vs Hk2 Hc st hD hDk hDc ra hw
def setTg (tg : Tg) (σ : St) (o p : Option V) : St := match tg with
  | .one i => σ.set i o
  | .two i j => (σ.set i o).set j p
/-- gT_run, and the new names stand at each later heap -/
theorem gT_run2 {fr : Fr} {Γ : Env} {Hk : Hp} {tg : Tg} {d : DV} {v : V} {KE : Env → Prop} {R : St → Hp → Prop} (hK : K' = S.K) (ok : StOk S fr Γ Hk σ H) (r : Rep S Hk d v) (h : stT tg Γ d KE)
    (q : ∀ Γ' σ', StOk S fr Γ' Hk σ' H → KE Γ' → (∃ o p : Option V, σ' = setTg tg σ o p) → (∀ Hk2 H2, Same Hk Hk2 → StOk S fr Γ Hk2 σ H2 → StOk S fr Γ' Hk2 σ' H2) → R σ' H) : gT K' tg v σ H R := by
  subst hK
  cases tg with
  | one i => exact q _ _ (ok.setV r) h ⟨some v, none, rfl⟩ fun Hk2 H2 s o => o.setV (r.mono s)
  | two i j =>
    obtain ⟨a, b, rfl, h⟩ := h
    cases r with
    | tup h1 r2 =>
      obtain ⟨v1, v2, rfl, ra, rb⟩ := reps2 r2
      exact ⟨_, _, rfl, same_t ok.st.i h1, rfl, v1, [v2], rfl, v2, [], rfl, rfl, q _ _ ((ok.setV ra).setV rb) h ⟨some v1, some v2, rfl⟩ fun Hk2 H2 s o => (o.setV (ra.mono s)).setV (rb.mono s)⟩
theorem lc_it1 {J : It} {n : Nat} {G : Hp → Prop} {Y : Nat → Hp → V → Hp → Prop} (w : Walk J n G Y) {g : TG} {tt : TT} {te : TE} {vs : List Nat} {σ : St} {H1 : Hp} {D : Addr} {Qd : Hp → Prop} (Pv : Nat → Hp → Prop) (h0 : Pv 0 H1) (hG : ∀ i H, i ≤ n → Pv i H → G H)
    (hs : ∀ i x H H', i < n → Pv i H → Y i H x H' → g x (L2.wipe σ vs) H' fun σ2 H2 => L2.wipe σ2 vs = L2.wipe σ vs ∧ tt σ2 H2 fun b H3 =>
      if b = true then te σ2 H3 fun y H4 => ∃ acc, H4 D = some (.lst acc) ∧ acc.length < sizeLine ∧ Pv (i + 1) (upd H4 D (.lst (acc ++ [y]))) else Pv (i + 1) H3) (hd : ∀ H, Pv n H → Qd H) :
    ∃ W : Nat → Nat → Hp → Prop, (∃ m, W 0 m H1) ∧ ∀ i m H, W i m H →
      (J.stop i H ∧ Qd H) ∨ (J.go i H ∧ ∃ Nx : Hp → Prop, (∀ H', Nx H' → ∃ m', m' < m ∧ W (i + 1) m' H') ∧ ∀ x H', J.yld i H x H' → g x (L2.wipe σ vs) H' fun σ2 H2 => L2.wipe σ2 vs = L2.wipe σ vs ∧ tt σ2 H2 fun b H3 =>
        if b = true then te σ2 H3 fun y H4 => ∃ acc, H4 D = some (.lst acc) ∧ acc.length < sizeLine ∧ Nx (upd H4 D (.lst (acc ++ [y]))) else Nx H3) := by
  refine ⟨fun i m H => m = n - i ∧ i ≤ n ∧ Pv i H, ⟨n, by simp, Nat.zero_le _, h0⟩, ?_⟩
  rintro i m H ⟨rfl, hi, p⟩
  have q := hG i H hi p
  by_cases hlt : i < n
  · refine .inr ⟨w.goes i H hlt q, Pv (i + 1), fun H' p' => ⟨n - (i + 1), by omega, rfl, hlt, p'⟩, fun x H' y => hs i x H H' hlt p (w.yields i H x H' hlt q y)⟩
  · have e : i = n := by omega
    subst e
    exact .inl ⟨w.stops H q, hd H p⟩
/-- as lc_it1, the outer of two -/
theorem lc_it2 {J : It} {n : Nat} {G : Hp → Prop} {Y : Nat → Hp → V → Hp → Prop} (w : Walk J n G Y) {g : TG} {tt : TT} {vs : List Nat} {σ : St} {H1 : Hp} {Qd : Hp → Prop} {body : St → Hp → (Hp → Prop) → Prop} (Pv : Nat → Hp → Prop) (h0 : Pv 0 H1) (hG : ∀ i H, i ≤ n → Pv i H → G H)
    (hs : ∀ i x H H', i < n → Pv i H → Y i H x H' → g x (L2.wipe σ vs) H' fun σ2 H2 => L2.wipe σ2 vs = L2.wipe σ vs ∧ tt σ2 H2 fun b H3 => if b = true then body σ2 H3 (Pv (i + 1)) else Pv (i + 1) H3) (hd : ∀ H, Pv n H → Qd H) :
    ∃ W : Nat → Nat → Hp → Prop, (∃ m, W 0 m H1) ∧ ∀ i m H, W i m H →
      (J.stop i H ∧ Qd H) ∨ (J.go i H ∧ ∃ Nx : Hp → Prop, (∀ H', Nx H' → ∃ m', m' < m ∧ W (i + 1) m' H') ∧ ∀ x H', J.yld i H x H' → g x (L2.wipe σ vs) H' fun σ2 H2 => L2.wipe σ2 vs = L2.wipe σ vs ∧ tt σ2 H2 fun b H3 =>
        if b = true then body σ2 H3 Nx else Nx H3) := by
  refine ⟨fun i m H => m = n - i ∧ i ≤ n ∧ Pv i H, ⟨n, by simp, Nat.zero_le _, h0⟩, ?_⟩
  rintro i m H ⟨rfl, hi, p⟩
  have q := hG i H hi p
  by_cases hlt : i < n
  · refine .inr ⟨w.goes i H hlt q, Pv (i + 1), fun H' p' => ⟨n - (i + 1), by omega, rfl, hlt, p'⟩, fun x H' y => hs i x H H' hlt p (w.yields i H x H' hlt q y)⟩
  · have e : i = n := by omega
    subst e
    exact .inl ⟨w.stops H q, hd H p⟩
def lc2K (Sm : Sem) (Γ : Env) (tg tg1 : Tg) (it1 elt : E) (QD : DV → Prop) (r acc : List DV) : Prop :=
  lc2W (fun x K => stT tg (wipeE Γ (tg.slots ++ tg1.slots)) x K) (fun Γ' K => ev Sm it1 Γ' fun d => ∃ ys, itemsOf d = some ys ∧ K ys) (fun Γ' x K => stT tg1 (wipeE Γ' tg1.slots) x K) (fun Γ' Q' => ev Sm elt Γ' Q') r acc fun ys => QD (.lst ys)
def lc1K (Sm : Sem) (Γ' : Env) (tg1 : Tg) (elt : E) (K : List DV → Prop) (r acc : List DV) : Prop := lcW (fun x K => stT tg1 (wipeE Γ' tg1.slots) x K) (fun _ K => K (.bl true)) (fun Γ' Q' => ev Sm elt Γ' Q') r acc K
theorem lc1K_cons {Γ' : Env} {tg1 : Tg} {elt : E} {K : List DV → Prop} {r acc : List DV} {d : DV} (h : lc1K Sm Γ' tg1 elt K (d :: r) acc) : stT tg1 (wipeE Γ' tg1.slots) d fun Γ2 => ev Sm elt Γ2 (fun y => acc.length < sizeLine ∧ lc1K Sm Γ' tg1 elt K r (acc ++ [y])) := by
  have h : stT tg1 (wipeE Γ' tg1.slots) d fun Γ2 => ∃ bb, DV.bl true = .bl bb ∧ if bb = true then ev Sm elt Γ2 (fun y => acc.length < sizeLine ∧ lc1K Sm Γ' tg1 elt K r (acc ++ [y])) else lc1K Sm Γ' tg1 elt K r acc := h
  have key : ∀ Γ2 : Env, (∃ bb, DV.bl true = .bl bb ∧ if bb = true then ev Sm elt Γ2 (fun y => acc.length < sizeLine ∧ lc1K Sm Γ' tg1 elt K r (acc ++ [y])) else lc1K Sm Γ' tg1 elt K r acc) → ev Sm elt Γ2 (fun y => acc.length < sizeLine ∧ lc1K Sm Γ' tg1 elt K r (acc ++ [y])) := by
    rintro Γ2 ⟨bb, e, q⟩
    cases e
    exact q
  cases tg1 with
  | one i => exact key _ h
  | two i j =>
    obtain ⟨a, b, e, h⟩ := h
    exact ⟨a, b, e, key _ h⟩
theorem wipe_app {σ : St} : ∀ {a b : List Nat}, L2.wipe σ (a ++ b) = L2.wipe (L2.wipe σ b) a
  | [], b => rfl
  | v :: vs, b => by
    show (L2.wipe σ (vs ++ b)).set v none = (L2.wipe (L2.wipe σ b) vs).set v none
    rw [wipe_app]
theorem wipe_set0 {σ : St} {i : Nat} {o : Option V} : ∀ {vs : List Nat}, i ∈ vs → L2.wipe (σ.set i o) vs = L2.wipe σ vs
  | v :: vs, h => by
    show (L2.wipe (σ.set i o) vs).set v none = (L2.wipe σ vs).set v none
    by_cases e : i ∈ vs
    · rw [wipe_set0 e]
    · have e1 : i = v := (List.mem_cons.1 h).resolve_right e
      subst e1
      have key : ∀ (ws : List Nat) (τ : St), i ∉ ws → L2.wipe (τ.set i o) ws = (L2.wipe τ ws).set i o := fun ws => by
        induction ws with
        | nil => intro τ _; rfl
        | cons w ws ih =>
          intro τ hn
          have hn1 : i ≠ w := fun z => hn (by rw [z]; exact List.mem_cons_self ..)
          have hn2 : i ∉ ws := fun z => hn (List.mem_cons_of_mem _ z)
          show (L2.wipe (τ.set i o) ws).set w none = ((L2.wipe τ ws).set w none : St).set i o
          rw [ih τ hn2, List.set_comm _ _ hn1]
      rw [key vs σ e]
      simp
theorem wipe_idem {σ : St} : ∀ {ws vs : List Nat}, (∀ w ∈ ws, w ∈ vs) → L2.wipe (L2.wipe σ ws) vs = L2.wipe σ vs
  | [], _, _ => rfl
  | w :: ws, vs, h => by
    show L2.wipe ((L2.wipe σ ws).set w none) vs = L2.wipe σ vs
    rw [wipe_set0 (h w (List.mem_cons_self ..))]
    exact wipe_idem fun x hx => h x (List.mem_cons_of_mem _ hx)
/-- what a target stored is wiped again -/
theorem wipe_tg {σ σ' : St} {tg : Tg} {vs : List Nat} (hv : ∀ i ∈ tg.slots, i ∈ vs) (h : ∃ o p : Option V, σ' = setTg tg (L2.wipe σ vs) o p) : L2.wipe σ' vs = L2.wipe σ vs := by
  obtain ⟨o, p, rfl⟩ := h
  cases tg with
  | one i =>
    show L2.wipe ((L2.wipe σ vs).set i o) vs = L2.wipe σ vs
    rw [wipe_set0 (hv i (by simp [Tg.slots])), wipe_idem fun _ h => h]
  | two i j =>
    show L2.wipe (((L2.wipe σ vs).set i o).set j p) vs = L2.wipe σ vs
    rw [wipe_set0 (hv j (by simp [Tg.slots])), wipe_set0 (hv i (by simp [Tg.slots])), wipe_idem fun _ h => h]
theorem rdL_lc2 (xo : XOk S Sm T k arI X) {tg tg1 : Tg} {it it1 elt : E} (ho : isOwnI it1 = false) (h : rdL S Sm (.lc2 tg it tg1 it1 elt) σ H Q) : tLc2 (rdI S Sm it) (gT X.K tg) tYes (rdI S Sm it1) (gT X.K tg1) tYes (rdE S Sm elt) (tg.slots ++ tg1.slots) tg1.slots σ H Q := by
  obtain ⟨fr, Γ, Hk, QD, ok, hev, g⟩ := h
  refine ⟨fr, Γ, Hk, _, ok, hev, fun xs J Hk1 H1 s1 wd ql D hD => ?_⟩
  obtain ⟨G, Y, w, hG, hY⟩ := wd
  have keepD : ∀ {Ha Hb Hc Hd : Hp}, Step Ha Hb Hc Hd → Ha D = none → Hb D ≠ none → Hc D = none := fun {Ha Hb Hc Hd} st h1 h2 => by
    cases q : Hc D with
    | none => rfl
    | some o => exact absurd h1 (st.s D h2 (by rw [q]; exact fun z => nomatch z))
  have some_ne : ∀ {Hc : Hp} {o : HO}, Hc D = some o → Hc D ≠ none := fun e => by rw [e]; exact fun z => nomatch z
  refine lc_it2 w (vs := tg.slots ++ tg1.slots) (body := fun σ2 H3 Nx => rdI S Sm it1 σ2 H3 fun J1 H4 => ∃ W1 : Nat → Nat → Hp → Prop, (∃ m, W1 0 m H4) ∧ ∀ j k H, W1 j k H →
      (J1.stop j H ∧ Nx H) ∨ (J1.go j H ∧ ∃ Nx1 : Hp → Prop, (∀ H', Nx1 H' → ∃ k', k' < k ∧ W1 (j + 1) k' H') ∧ ∀ x H', J1.yld j H x H' → gT X.K tg1 x (L2.wipe σ2 tg1.slots) H' fun σ3 H5 => L2.wipe σ3 tg1.slots = L2.wipe σ2 tg1.slots ∧ tYes σ3 H5 fun b H6 =>
        if b = true then rdE S Sm elt σ3 H6 fun y H7 => ∃ acc, H7 D = some (.lst acc) ∧ acc.length < sizeLine ∧ Nx1 (upd H7 D (.lst (acc ++ [y]))) else Nx1 H6))
    (fun i Hc => ∃ (Hk2 : Hp) (acc : List DV) (vs : List V), Step Hk1 H1 Hk2 Hc ∧ Hc D = some (.lst vs) ∧ Hk2 D = none ∧ Reps S Hk2 acc vs ∧
    lc2K Sm Γ tg tg1 it1 elt QD (xs.drop i) acc) ?_ ?_ ?_ ?_
  · exact ⟨Hk1, [], [], Step.newO s1.i hD, upd_same, s1.i.free hD, .nil, ql⟩
  · rintro i Hc _ ⟨Hk2, acc, vs, st, _⟩
    refine hG Hc (st.k.trans st.i) ?_
    split
    · exact st.h
    · exact st.k.trans st.i
  · rintro i x Hc H' hi ⟨Hk2, acc, vs, st, hDc, hDk, ra, hw⟩ y
    obtain ⟨d, Hk3, hd, st3, rd⟩ := hY i Hk2 Hc x H' hi st.k st.i y
    have st' := st.trans st3
    have hdrop : xs.drop i = d :: xs.drop (i + 1) := by
      have hlt : i < xs.length := hi
      rw [List.drop_eq_getElem_cons hlt]
      rw [List.getElem?_eq_getElem hlt] at hd
      rw [Option.some.inj hd]
    rw [hdrop] at hw
    have hw : stT tg (wipeE Γ (tg.slots ++ tg1.slots)) d fun Γ' => ev Sm it1 Γ' fun d => ∃ ys, itemsOf d = some ys ∧ lc1K Sm Γ' tg1 elt (fun acc' => lc2K Sm Γ tg tg1 it1 elt QD (xs.drop (i + 1)) acc') ys acc := hw
    have okw := ((ok.step s1).step st').wipe (tg.slots ++ tg1.slots)
    have hD3 : Hk3 D = none := keepD st3 hDk (some_ne hDc)
    have hDH : H' D = some (.lst vs) := st3.h _ _ hDc
    refine gT_run2 xo.K okw rd hw fun Γ' σ' ok' hw' hσ stab => ⟨wipe_tg (fun i hi => List.mem_append_left _ hi) hσ, ?_⟩
    show rdI S Sm it1 σ' H' _
    refine ⟨fr, Γ', Hk3, _, ok', hw', fun ys J1 Hk4 H4 s4 wd1 q1 => ?_⟩
    rw [ho, if_neg Bool.false_ne_true] at wd1
    obtain ⟨G1, Y1, w1, hG1, hY1⟩ := wd1
    have hD4 : Hk4 D = none := keepD s4 hD3 (some_ne hDH)
    refine lc_it1 w1 (fun j Hc => ∃ (Hk5 : Hp) (acc : List DV) (vs : List V), Step Hk1 H1 Hk5 Hc ∧ Same Hk4 Hk5 ∧ Hc D = some (.lst vs) ∧ Hk5 D = none ∧ Reps S Hk5 acc vs ∧
      lc1K Sm Γ' tg1 elt (fun acc' => lc2K Sm Γ tg tg1 it1 elt QD (xs.drop (i + 1)) acc') (ys.drop j) acc) ?_ ?_ ?_ ?_
    · exact ⟨Hk4, acc, vs, st'.trans s4, Same.refl _, s4.h _ _ hDH, hD4, (ra.mono st3.k).mono s4.k, q1⟩
    · rintro j Hc _ ⟨Hk5, acc, vs, st5, sm, _⟩
      exact hG1 Hc (sm.trans st5.i) (sm.trans st5.i)
    · rintro j x1 Hc1 H5 hj ⟨Hk5, acc1, vs1, st5, sm5, hDc5, hDk5, ra5, hw5⟩ y1
      obtain ⟨d1, Hk6, hd1, st6, rd1⟩ := hY1 j Hk5 Hc1 x1 H5 hj sm5 st5.i y1
      have st56 := st5.trans st6
      have hdrop1 : ys.drop j = d1 :: ys.drop (j + 1) := by
        have hlt : j < ys.length := hj
        rw [List.drop_eq_getElem_cons hlt]
        rw [List.getElem?_eq_getElem hlt] at hd1
        rw [Option.some.inj hd1]
      rw [hdrop1] at hw5
      have hw6 := lc1K_cons hw5
      have ok6 := (stab Hk6 H5 ((s4.k.trans sm5).trans st6.k) (((ok.step s1).step st56).wipe (tg.slots ++ tg1.slots))).wipe tg1.slots
      have hD6 : Hk6 D = none := keepD st6 hDk5 (some_ne hDc5)
      refine gT_run2 xo.K ok6 rd1 hw6 fun Γ2 σ2 ok7 hw7 hσ1 _ => ⟨wipe_tg (fun i hi => hi) hσ1, ?_⟩
      dsimp only [tYes]
      rw [if_pos rfl]
      refine ⟨fr, Γ2, Hk6, _, ok7, hw7, fun dy y Hk7 H7 s7 r7 q7 => ?_⟩
      have hH7 : H7 D = some (.lst vs1) := s7.h _ _ (st6.h _ _ hDc5)
      have hD7 : Hk7 D = none := keepD s7 hD6 (some_ne (st6.h _ _ hDc5))
      have ra7 := (ra5.mono st6.k).mono s7.k
      exact ⟨vs1, hH7, by rw [← ra5.length]; exact q7.1, Hk7, acc1 ++ [dy], vs1 ++ [y], (st56.trans s7).mut hD hD7, (sm5.trans st6.k).trans s7.k, upd_same, hD7, ra7.append (.one r7), q7.2⟩
    · rintro Hc1 ⟨Hk5, acc1, vs1, st5, sm5, hDc5, hDk5, ra5, hw5⟩
      rw [List.drop_length] at hw5
      exact ⟨Hk5, acc1, vs1, st5, hDc5, hDk5, ra5, hw5⟩
  · rintro Hc ⟨Hk2, acc, vs, st, hDc, hDk, ra, hw⟩
    rw [List.drop_length] at hw
    exact (g.step s1) acc D vs Hk2 Hc st hD hDk hDc ra hw
end
end Vg


set_option Elab.async false
set_option linter.all false
set_option maxRecDepth 100000
set_option maxHeartbeats 4000000
/-! Vg: the text and the terms compared; expressions are sound -/
namespace Vg
open PySem L2

inductive Kd where
  | ex | args | it | part
  deriving DecidableEq
def Kd.isE : Kd → Bool
  | .ex => true
  | .it => true
  | _ => false
def visB (sc : Scope) (x : Str) : Bool := match sc.names.lookup x with
  | some .local => true
  | some .cell => true
  | some .free => true
  | _ => false
def locB (sc : Scope) (x : Str) : Bool := match sc.names.lookup x with
  | some .local => true
  | some .cell => true
  | _ => false
def glB (sc : Scope) (x : Str) : Bool := match sc.names.lookup x with
  | some .globalImplicit => true
  | _ => false
def nmB (x : Str) : Bool := !(x == ("__debug__" : Str)) && !(x == ("__classdict__" : Str))
def mK : Const → DV → Bool
  | .none, .non => true
  | .bool a, .bl b => a == b
  | .int a, .int b => a == b
  | .str x, .str s => x.cps.toList == s
  | _, _ => false
def biN : Bi → Str
  | .len => "len"
  | .int => "int"
  | .str => "str"
  | .bool => "bool"
  | .abs => "abs"
  | .max => "max"
  | .min => "min"
  | .sum => "sum"
  | .all => "all"
  | .any => "any"
  | .sorted => "sorted"
  | .list => "list"
  | .tuple => "tuple"
  | .lcm => "lcm"
  | .gcd => "gcd"
  | .divmod => "divmod"
  | .sset => "sorted"
def biOk (T : Nm) : Bi → Bool
  | .str => false
  | .bool => false
  | .sset => false
  | .lcm => T.hasM .lcm
  | .gcd => T.hasM .gcd
  | _ => true
def bmN : Bm → Str
  | .join => "join"
  | .count => "count"
  | .index => "index"
  | .sindex => "index"
def tyB (T : Nm) (sc : Scope) : Ty → Expr → Bool
  | .str, .Name x _ => x == "str" && glB sc x
  | .int, .Name x _ => x == "int" && glB sc x
  | .bool, .Name x _ => x == "bool" && glB sc x
  | .list, .Name x _ => x == "list" && glB sc x
  | .tuple, .Name x _ => x == "tuple" && glB sc x
  | .cls c, .Name x _ => T.cn c == some x && glB sc x && nmB x
  | _, _ => false
/-- a comprehension's target: names of its own -/
def tgB (N : List Str) (sc : Scope) : Tg → Expr → Bool
  | .one i, .Name x _ => N[i]? == some x && locB sc x
  | .two i j, .Tuple [.Name x _, .Name y _] _ _ => N[i]? == some x && locB sc x && N[j]? == some y && locB sc y
  | _, _ => false
def ownOf (N : List Str) (tg : Tg) : List (Str × Nat) := tg.slots.map fun i => (N.getD i Str.empty, i)
def isZip : E → Bool
  | .zip _ _ => true
  | _ => false
def isTwo : Tg → Bool
  | .two _ _ => true
  | _ => false

def tstOk : E → Bool
  | .lend _ e => tstOk e
  | .ife _ _ _ => false
  | _ => true

def mE (T : Nm) (N : List Str) : E → Kd → Scope → List Expr → Bool
  | .nil, kd, _, es => kd == .args && es.isEmpty
  | .cons a r, kd, sc, es => kd == .args && match es with
    | e :: t => plainE e && mE T N a .ex sc [e] && mE T N r .args sc t
    | _ => false
  | .nopart, kd, _, es => kd == .part && es.isEmpty
  | .part a, kd, sc, es => kd == .part && mE T N a .ex sc es
  | .k d, kd, _, es => kd.isE && match es with
    | [.Constant c _ _] => mK c d
    | _ => false
  | .var i, kd, sc, es => kd.isE && match es with
    | [.Name x _] => N[i]? == some x && visB sc x && nmB x
    | _ => false
  | .bin o a b, kd, sc, es => kd.isE && match es with
    | [.BinOp x op y _] => op == o && mE T N a .ex sc [x] && mE T N b .ex sc [y]
    | _ => false
  | .catL a b, kd, sc, es => kd.isE && match es with
    | [.BinOp x op y _] => op == .Add && mE T N a .ex sc [x] && mE T N b .ex sc [y]
    | _ => false
  | .repL a b, kd, sc, es => kd.isE && match es with
    | [.BinOp x op y _] => op == .Mult && mE T N a .ex sc [x] && mE T N b .ex sc [y]
    | _ => false
  | .un o a, kd, sc, es => kd.isE && match es with
    | [.UnaryOp op x _] => op == o && o != .Not && mE T N a .ex sc [x]
    | _ => false
  | .cmp o a b, kd, sc, es => kd.isE && match es with
    | [.Compare x [op] [y] _] => op == o && plainE y && mE T N a .ex sc [x] && mE T N b .ex sc [y]
    | _ => false
  | .chain o p a b c, kd, sc, es => kd.isE && match es with
    | [.Compare x [op, op'] [y, z] _] => op == o && op' == p && plainE z && mE T N a .ex sc [x] && mE T N b .ex sc [y] && mE T N c .ex sc [z]
    | _ => false
  | .band a b, kd, sc, es => kd.isE && match es with
    | [.BoolOp .And [x, y] _] => tstOk a && tstOk b && mE T N a .ex sc [x] && mE T N b .ex sc [y]
    | [.BoolOp .And (x :: y :: z :: r) p] => tstOk a && tstOk b && mE T N a .ex sc [x] && mE T N b .ex sc [.BoolOp .And (y :: z :: r) p]
    | _ => false
  | .bor a b, kd, sc, es => kd.isE && match es with
    | [.BoolOp .Or [x, y] _] => tstOk a && tstOk b && mE T N a .ex sc [x] && mE T N b .ex sc [y]
    | [.BoolOp .Or (x :: y :: z :: r) p] => tstOk a && tstOk b && mE T N a .ex sc [x] && mE T N b .ex sc [.BoolOp .Or (y :: z :: r) p]
    | _ => false
  | .bnot a, kd, sc, es => kd.isE && match es with
    | [.UnaryOp .Not x _] => tstOk a && mE T N a .ex sc [x]
    | _ => false
  | .ife t a b, kd, sc, es => kd.isE && match es with
    | [.IfExp c x y _] => tstOk t && mE T N t .ex sc [c] && mE T N a .ex sc [x] && mE T N b .ex sc [y]
    | _ => false
  | .call f as, kd, sc, es => kd.isE && match es with
    | [.Call (.Name x _) args [] _] => T.fn f == some x && glB sc x && nmB x && mE T N as .args sc args
    | _ => false
  | .mk c as, kd, sc, es => kd.isE && match es with
    | [.Call (.Name x _) args [] _] => T.cn c == some x && glB sc x && nmB x && mE T N as .args sc args
    | _ => false
  | .bi b as, kd, sc, es => kd.isE && match es with
    | [.Call (.Name x _) (e :: args) [] _] => x == biN b && biOk T b && glB sc x && mE T N as .args sc (e :: args)
    | _ => false
  | .isi a t, kd, sc, es => kd.isE && match es with
    | [.Call (.Name x _) [e, c] [] _] => x == "isinstance" && glB sc x && plainE e && mE T N a .ex sc [e] && tyB T sc t c
    | _ => false
  | .bm m o a, kd, sc, es => kd.isE && match es with
    | [.Call (.Attribute x name ap) [e] [] p] => name == bmN m && attrOk x && (ap.endLine == p.line) && plainE e && mE T N o .ex sc [x] && mE T N a .ex sc [e]
    | _ => false
  | .om m o as, kd, sc, es => kd.isE && match es with
    | [.Call (.Attribute x name ap) args [] p] => name == T.mid m && attrOk x && (ap.endLine == p.line) && decide (args.length < 30) && mE T N o .ex sc [x] && mE T N as .args sc args
    | _ => false
  | .fld o f, kd, sc, es => kd.isE && match es with
    | [.Attribute x name _] => name == T.fid f && attrOk x && mE T N o .ex sc [x]
    | _ => false
  | .idx o i, kd, sc, es => kd.isE && match es with
    | [.Subscript x y _] => plainE y && mE T N o .ex sc [x] && mE T N i .ex sc [y]
    | _ => false
  | .slc o lo hi, kd, sc, es => kd.isE && match es with
    | [.Subscript x (.Slice l h none _) _] => mE T N o .ex sc [x] && mE T N lo .part sc l.toList && mE T N hi .part sc h.toList
    | _ => false
  | .slcL o lo hi, kd, sc, es => kd.isE && match es with
    | [.Subscript x (.Slice l h none _) _] => mE T N o .ex sc [x] && mE T N lo .part sc l.toList && mE T N hi .part sc h.toList
    | _ => false
  | .rev o, kd, sc, es => kd.isE && match es with
    | [.Subscript x (.Slice none none (some (.UnaryOp .USub (.Constant (.int 1) _ _) _)) _) _] => mE T N o .ex sc [x]
    | _ => false
  | .lst as, kd, sc, es => kd.isE && match es with
    | [.List args _] => mE T N as .args sc args
    | _ => false
  | .tup as, kd, sc, es => kd.isE && match es with
    | [.Tuple args _ _] => mE T N as .args sc args
    | _ => false
  | .lc tg it tst elt, kd, sc, es => kd.isE && match es with
    | [.ListComp e [⟨g, i, ifs, 0⟩] scope _] => plainE i && mE T N it .it sc [i] && (!isZip it || isTwo tg) && blkC N sc scope (ownOf N tg) && tgB N scope tg g && mE T N elt .ex (relS scope sc) [e] &&
        (match ifs, tst with
          | [], .tt => true
          | [_], .tt => false
          | [c], _ => tstOk tst && mE T N tst .ex (relS scope sc) [c]
          | _, _ => false)
    | _ => false
  | .lc2 tg it tg1 it1 elt, kd, sc, es => kd.isE && match es with
    | [.ListComp e [⟨g, i, [], 0⟩, ⟨g1, i1, [], 0⟩] scope _] => plainE i && plainE i1 && mE T N it .it sc [i] && !isZip it && !isZip it1 && !isOwnI it1 && blkC N sc scope (ownOf N tg ++ ownOf N tg1) && tgB N scope tg g && tgB N scope tg1 g1 && mE T N it1 .it (relS scope sc) [i1] && mE T N elt .ex (relS scope sc) [e]
    | _ => false
  | .rng1 a, kd, sc, es => kd == .it && match es with
    | [.Call (.Name x _) [e] [] _] => x == "range" && glB sc x && plainE e && mE T N a .ex sc [e]
    | _ => false
  | .rng2 a b, kd, sc, es => kd == .it && match es with
    | [.Call (.Name x _) [e, f] [] _] => x == "range" && glB sc x && plainE e && plainE f && mE T N a .ex sc [e] && mE T N b .ex sc [f]
    | _ => false
  | .zip a b, kd, sc, es => kd == .it && match es with
    | [.Call (.Name x _) [e, f] [] _] => x == "zip" && glB sc x && plainE e && plainE f && mE T N a .ex sc [e] && mE T N b .ex sc [f]
    | _ => false
  | .idxO i ix, kd, sc, es => kd.isE && match es with
    | [.Subscript (.Name x _) y _] => N[i]? == some x && visB sc x && nmB x && plainE y && mE T N ix .ex sc [y]
    | _ => false
  | .fldO i f, kd, sc, es => kd.isE && match es with
    | [.Attribute (.Name x _) name _] => N[i]? == some x && visB sc x && nmB x && name == T.fid f
    | _ => false
  | .ownI i, kd, sc, es => kd == .it && match es with
    | [.Name x _] => N[i]? == some x && visB sc x && nmB x
    | _ => false
  | .lenO i, kd, sc, es => kd.isE && match es with
    | [.Call (.Name f _) [.Name x _] [] _] => f == "len" && glB sc f && N[i]? == some x && visB sc x && nmB x
    | _ => false
  | .lend _ e, kd, sc, es => kd.isE && (match es with | [.ListComp _ _ _ _] => false | _ => true) && mE T N e .ex sc es
  | .isLT a, kd, sc, es => kd.isE && match es with
    | [.Call (.Name x _) [e, .Tuple [.Name y _, .Name z _] _ _] [] _] => x == "isinstance" && glB sc x && y == "list" && glB sc y && z == "tuple" && glB sc z && plainE e && mE T N a .ex sc [e]
    | _ => false
  | .cpyO i, kd, sc, es => kd.isE && match es with
    | [.Call (.Name f _) [.Name x _] [] _] => f == "list" && glB sc f && N[i]? == some x && visB sc x && nmB x
    | _ => false
  | .sset a, kd, sc, es => kd.isE && match es with
    | [.Call (.Name y _) [.Call (.Name x _) [e] [] _] [] _] => y == "sorted" && glB sc y && x == "set" && glB sc x && plainE e && mE T N a .ex sc [e]
    | _ => false
  | .lrg1 tp a, kd, sc, es => kd.isE && match es with
    | [.Call (.Name y _) [.Call (.Name x _) [e] [] _] [] _] => y == (if tp then "tuple" else "list") && glB sc y && x == "range" && glB sc x && plainE e && mE T N a .ex sc [e]
    | _ => false
  | .lrg2 tp a b, kd, sc, es => kd.isE && match es with
    | [.Call (.Name y _) [.Call (.Name x _) [e, f] [] _] [] _] => y == (if tp then "tuple" else "list") && glB sc y && x == "range" && glB sc x && plainE e && plainE f && mE T N a .ex sc [e] && mE T N b .ex sc [f]
    | _ => false
  | .glb j n, kd, sc, es => kd.isE && match es with
    | [.Name x _] => T.gn j == some (x, n) && glB sc x && nmB x
    | _ => false
  | .inO neg a i, kd, sc, es => kd.isE && match es with
    | [.Compare y [op] [.Name x _] _] => op == (if neg then .NotIn else .In) && N[i]? == some x && visB sc x && nmB x && mE T N a .ex sc [y]
    | _ => false
  | .rng3 _ _ _, _, _, _ => false
  | .tt, _, _, _ => false

def newE (T : Nm) : E → Bool
  | .call f _ => T.fresh f
  | e => e.isNew
def isBoolOp : Expr → Bool
  | .BoolOp _ _ _ => true
  | _ => false

structure SndE (S : Sg) (Sm : Sem) (T : Nm) (X : Cx) (x : Expr) (e : E) : Prop where
  pe : PE X x (rdE S Sm e)
  pt : tstOk e = true → PT X x (rdT S Sm e)
  pw : isBoolOp x = true → PW X x (rdT S Sm e)
  pl : newE T e = true → PE X x (rdL S Sm e)
  plain : plainE x = true

section
variable {S : Sg} {Sm : Sem} {T : Nm} {k : Nat} {arI : Nat → Nat} {X : Cx}
theorem SndE.val {x : Expr} {e : E} (h : PE X x (rdE S Sm e)) (p : plainE x = true) (t : testE x = true) (l : newE T e = true → PE X x (rdL S Sm e)) : SndE S Sm T X x e :=
  ⟨h, fun _ => PT_imp (pt_val h (fun w => true_plain t w)) fun _ _ _ q => rdT_E q, (fun z => by cases x <;> first | (cases z; done) | (cases t; done)), l, p⟩
theorem SndE.new {x : Expr} {e : E} (h : PE X x (rdL S Sm e)) (p : plainE x = true) (t : testE x = true) : SndE S Sm T X x e :=
  SndE.val (PE_imp h fun _ _ _ q => rdE_L q) p t fun _ => h
theorem vis_of {sc : Scope} {x : Str} (h : visB sc x = true) : Vis sc x := by
  unfold visB at h
  unfold Vis
  split at h <;> first | exact .inl (by assumption) | exact .inr (.inl (by assumption)) | exact .inr (.inr (by assumption)) | cases h
theorem loc_of {sc : Scope} {x : Str} (h : locB sc x = true) : L2.Loc sc x := by
  unfold locB at h
  unfold L2.Loc
  split at h <;> first | exact .inl (by assumption) | exact .inr (by assumption) | cases h
theorem gl_of {sc : Scope} {x : Str} (hs : X.env.scope = sc) (h : glB sc x = true) : Gl X x := by
  unfold glB at h
  unfold Gl
  show X.env.scope.names.lookup x = _
  rw [hs]
  split at h <;> first | assumption | cases h
theorem nm1 {x : Str} (h : nmB x = true) : (x == ("__debug__" : Str)) = false := by
  unfold nmB at h
  simp only [Bool.and_eq_true, Bool.not_eq_true'] at h
  exact h.1
theorem nm2 {x : Str} (h : nmB x = true) : (x == ("__classdict__" : Str)) = false := by
  unfold nmB at h
  simp only [Bool.and_eq_true, Bool.not_eq_true'] at h
  exact h.2
end
end Vg


set_option Elab.async false
set_option linter.all false
set_option maxRecDepth 100000
set_option maxHeartbeats 4000000
/-! Vg: expressions are sound -/
namespace Vg
open PySem L2
section
variable {S : Sg} {Sm : Sem} {T : Nm} {k : Nat} {arI : Nat → Nat} {X : Cx}

def Snd (S : Sg) (Sm : Sem) (T : Nm) (X : Cx) (e : E) : Kd → List Expr → Prop
  | .ex, es => ∃ x, es = [x] ∧ SndE S Sm T X x e
  | .it, es => ∃ x, es = [x] ∧ plainE x = true ∧ ∀ tg, (isZip e = true → ∃ l kk p, tg = Expr.Tuple l kk p) → PI X tg x (rdI S Sm e)
  | .args, es => es.all plainE = true ∧ PA X es (rdA S Sm e)
  | .part, es => (es = [] ∧ PO X none (rdO S Sm e)) ∨ ∃ x, es = [x] ∧ PO X (some x) (rdO S Sm e)
theorem Snd.ofE (xo : XOk S Sm T k arI X) {kd : Kd} {x : Expr} {e : E} (hk : kd.isE = true) (h : SndE S Sm T X x e) : Snd S Sm T X e kd [x] := by
  cases kd with
  | ex => exact ⟨x, rfl, h⟩
  | it => exact ⟨x, rfl, h.plain, fun tg _ => pi_val xo h.pe⟩
  | args => cases hk
  | part => cases hk
theorem Snd.e {x : Expr} {e : E} (h : Snd S Sm T X e .ex [x]) : SndE S Sm T X x e := by
  obtain ⟨y, e1, h⟩ := h
  cases e1
  exact h

theorem pe_lenO {x f : Str} {p q pos : Pos} {i : Nat} (xo : XOk S Sm T k arI X) (hf : f = "len") (hg : Gl X f) (hi : PE X (.Name x p) (tVar i)) : PE X (.Call (.Name f q) [.Name x p] [] pos) (rdE S Sm (.lenO i)) := by
  subst hf
  exact PE_imp (pe_callB call_len_seq hg (xo.blt _ (by decide)) PySem.boot_len (pa_cons hi pa_nil)) fun _ _ _ q => rd_lenO q

theorem args_nil {N : List Str} {as : E} {sc : Scope} (h : mE T N as .args sc [] = true) : as = .nil := by
  cases as <;> first | rfl | (exfalso; simp [mE, Kd.isE] at h)
theorem pe_call_any {x : Str} {p pos : Pos} {es : List Expr} {f : Nat} {as : E} (xo : XOk S Sm T k arI X) (hf : T.fn f = some x) (hg : Gl X x) (hn : nmB x = true) (pl : es.all plainE = true) (ha : PA X es (rdA S Sm as)) (hnil : es = [] → as = .nil) :
    PE X (.Call (.Name x p) es [] pos) (tCall (spF S Sm T f) [] E0 (rdA S Sm as)) := by
  obtain ⟨a, hm, hk, fa⟩ := xo.fns f x hf
  obtain ⟨fd, ps, j, hj, b, F⟩ := fa.ex
  have F := F.mono (Nat.le_of_succ_le hj)
  cases es with
  | nil =>
    have e := hnil rfl
    subst e
    exact PE_imp (pe_call0 F xo.room hg hm hk b .nil pass0 (nm1 hn)) fun σ H Q q => rdA_nil q
  | cons e es =>
    rw [List.all_cons, Bool.and_eq_true] at pl
    exact pe_call F xo.room hg hm hk b .nil pass0 ha (nm1 hn) (star_plain pl.1) (back_plain pl.2)
theorem pe_mk_any {x : Str} {p pos : Pos} {es : List Expr} {c : Nat} {as : E} (xo : XOk S Sm T k arI X) (hf : T.cn c = some x) (hg : Gl X x) (hn : nmB x = true) (pl : es.all plainE = true) (ha : PA X es (rdA S Sm as)) (hnil : es = [] → as = .nil) :
    PE X (.Call (.Name x p) es [] pos) (tMake (S.cls c) (spI S Sm arI c) [] E0 (rdA S Sm as)) := by
  obtain ⟨hm, a, fd, ps, j, M, b, F, hj⟩ := xo.mks c x hf
  cases es with
  | nil =>
    have e := hnil rfl
    subst e
    exact PE_imp (pe_make0 M F (xo.room.mono hj) hg hm b .nil pass0 (nm1 hn)) fun σ H Q q => rdA_nil q
  | cons e es =>
    rw [List.all_cons, Bool.and_eq_true] at pl
    exact pe_make M F (xo.room.mono hj) hg hm b .nil pass0 ha (nm1 hn) (star_plain pl.1) (back_plain pl.2)

/-- o.m(..) of an own instance, the class told by the value -/
theorem pe_om_any {o : Expr} {m : Nat} {apos pos : Pos} {es : List Expr} {eo as : E} (xo : XOk S Sm T k arI X) (ho : PE X o (rdE S Sm eo)) (ao : attrOk o = true) (hl : (apos.endLine == pos.line) = true) (hn : es.length < 30) (pl : es.all plainE = true) (ha : PA X es (rdA S Sm as)) (hnil : es = [] → as = .nil) :
    PE X (.Call (.Attribute o (T.mid m) apos) es [] pos) (rdE S Sm (.om m eo as)) := by
  refine ⟨fun pins s σ H Q I q => ?_⟩
  obtain ⟨fr, Γ, Hk, QD, ok, hev, g⟩ := q
  refine PySem.W.methodCall_KW (thn (ho.run pins s σ H (fun v H1 => ∃ c vs f Hk1, Step Hk H Hk1 H1 ∧ Rep S Hk1 (.ins c vs) v ∧ Sm.M c m = some f ∧ ev Sm as Γ fun y => argsOf y fun ds => Sm.F f (.ins c vs :: ds) QD) I ⟨fr, Γ, Hk, _, ok, hev, fun d v Hk1 H1 s1 r1 q1 => ?_⟩) fun u s1 z => ?_) (meth_eval ao hl pl hn)
  · obtain ⟨c, vs, f, rfl, hM, q⟩ := q1
    exact ⟨c, vs, f, Hk1, s1, r1, hM, q⟩
  · obtain ⟨v, H1, I1, rv, c, vs, f, Hk1, st, r1, hM, hq⟩ := z
    obtain ⟨_, ⟨a, me, fa⟩, hfn, cl⟩ := xo.mth c m f hM
    have r2 := r1
    cases r1 with
    | @ins p _ dx _ fs e1 e2 rr =>
      cases rv
      refine getmeth_ok I1 (st.i _ _ e1) cl me (lookup_none (by rw [e2]; exact hfn)) ?_
      have fin : ∀ {us : List Value} {s2 : Shared} {ws : List V} {H2 Hk2 : Hp} {ds : List DV}, Inv X pins σ H2 s2 → Vals ws us → Step Hk1 H1 Hk2 H2 → Reps S Hk2 ds ws → Sm.F f (.ins c vs :: ds) QD → wpAny (model X.prog X.w) X.A (PySem.call (.ref a) (.ref p :: us)) (EP X pins σ Q) X.xe s2 := fun {us s2 ws H2 Hk2 ds} I2 rw' s2' rd hF =>
        run_F (us := .ref p :: us) (vs := .ref p :: ws) (ds := .ins c vs :: ds) xo fa I2 (.cons rfl rw') s2'.i (.cons (r2.mono s2'.k) rd) hF (g.step (st.trans s2'))
      cases es with
      | nil =>
        have e := hnil rfl
        subst e
        exact PySem.W.callWith_K0 (first := [.ref p]) I1.kIn me.kp (fin I1 .nil (Step.refl st.i) .nil hq)
      | cons e es =>
        rw [List.all_cons, Bool.and_eq_true] at pl
        refine PySem.W.callWith_K (first := [.ref p]) (h₀ := X.base) I1.ok.mod.kin me.kp (thn (ha.run pos pins s1 σ H1 (fun ws H2 => ∃ ds Hk2, Step Hk1 H1 Hk2 H2 ∧ Reps S Hk2 ds ws ∧ Sm.F f (.ins c vs :: ds) QD) I1 ⟨fr, Γ, Hk1, _, ok.step st, hq, fun ds ws Hk2 H2 s2 r2 q2 => ⟨ds, Hk2, s2, r2, q2⟩⟩) fun us s2 z => ?_) (star_plain pl.1) (back_plain pl.2)
        obtain ⟨ws, H2, I2, rw', ds, Hk2, s2', rd, hF⟩ := z
        exact ⟨I2.kIn, fin I2 rw' s2' rd hF⟩

theorem pe_bi_any {x : Str} {p pos : Pos} {e : Expr} {es : List Expr} {b : Bi} {as : E} (xo : XOk S Sm T k arI X) (hx : x = biN b) (hb : biOk T b = true) (hg : Gl X x) (pl : (e :: es).all plainE = true) (ha : PA X (e :: es) (rdA S Sm as)) :
    PE X (.Call (.Name x p) (e :: es) [] pos) (rdE S Sm (.bi b as)) ∧ ((E.bi b as).isNew = true → PE X (.Call (.Name x p) (e :: es) [] pos) (rdL S Sm (.bi b as))) := by
  rw [List.all_cons, Bool.and_eq_true] at pl
  have s1 := star_plain (es := es) (env := X.env) pl.1
  have s2 := back_plain (env := X.env) (pos := pos) pl.2
  subst hx
  have fB : ∀ {id : String}, CallR X (.builtin id) (rBi S b) → X.mg (biN b) = none → bootBuiltins (biN b) = some (.builtin id) → biN b ≠ "__name__" → (biN b == ("__debug__" : Str)) = false → PE X (.Call (.Name (biN b) p) (e :: es) [] pos) (rdE S Sm (.bi b as)) := fun hc hm hv h1 h2 =>
    PE_imp (pe_callB hc hg hm hv ha h1 h2 s1 s2) fun _ _ _ q => rd_bi q
  have fT : ∀ {T : String}, CallR X (.type T) (rBi S b) → X.mg (biN b) = none → bootBuiltins (biN b) = some (.type T) → biN b ≠ "__name__" → (biN b == ("__debug__" : Str)) = false → PE X (.Call (.Name (biN b) p) (e :: es) [] pos) (rdE S Sm (.bi b as)) := fun hc hm hv h1 h2 =>
    PE_imp (pe_callTy hc hg hm hv ha h1 h2 s1 s2) fun _ _ _ q => rd_bi q
  cases b with
  | len => exact ⟨fB (cr_len xo) (xo.blt _ (by decide)) (by decide +kernel) (by decide) (by decide), fun z => by cases z⟩
  | int => exact ⟨fT cr_int (xo.blt _ (by decide)) (by decide +kernel) (by decide) (by decide), fun z => by cases z⟩
  | abs => exact ⟨fB cr_abs (xo.blt _ (by decide)) (by decide +kernel) (by decide) (by decide), fun z => by cases z⟩
  | max => exact ⟨fB (cr_maxB xo) (xo.blt _ (by decide)) (by decide +kernel) (by decide) (by decide), fun z => by cases z⟩
  | min => exact ⟨fB (cr_minB xo) (xo.blt _ (by decide)) (by decide +kernel) (by decide) (by decide), fun z => by cases z⟩
  | sum => exact ⟨fB (cr_sumB xo) (xo.blt _ (by decide)) (by decide +kernel) (by decide) (by decide), fun z => by cases z⟩
  | all => exact ⟨fB (cr_allB xo) (xo.blt _ (by decide)) (by decide +kernel) (by decide) (by decide), fun z => by cases z⟩
  | any => exact ⟨fB (cr_anyB xo) (xo.blt _ (by decide)) (by decide +kernel) (by decide) (by decide), fun z => by cases z⟩
  | tuple => exact ⟨fT (cr_tupleB xo) (xo.blt _ (by decide)) (by decide +kernel) (by decide) (by decide), fun z => by cases z⟩
  | divmod => exact ⟨fB cr_divmodB (xo.blt _ (by decide)) (by decide +kernel) (by decide) (by decide), fun z => by cases z⟩
  | sorted =>
    have h : PE X (.Call (.Name (biN .sorted) p) (e :: es) [] pos) (rdL S Sm (.bi .sorted as)) := PE_imp (pe_callB (cr_sortedB xo) hg (xo.blt _ (by decide)) (by decide +kernel) ha (by decide) (by decide) s1 s2) fun _ _ _ q => rdL_bi q
    exact ⟨PE_imp h fun _ _ _ q => rdE_L q, fun _ => h⟩
  | list =>
    have h : PE X (.Call (.Name (biN .list) p) (e :: es) [] pos) (rdL S Sm (.bi .list as)) := PE_imp (pe_callTy (cr_listB xo) hg (xo.blt _ (by decide)) (by decide +kernel) ha (by decide) (by decide) s1 s2) fun _ _ _ q => rdL_bi q
    exact ⟨PE_imp h fun _ _ _ q => rdE_L q, fun _ => h⟩
  | lcm => exact ⟨PE_imp (pe_callBfun cr_lcmB hg (xo.lcm hb) ha (by decide) s1 s2) fun _ _ _ q => rd_bi q, fun z => by cases z⟩
  | gcd => exact ⟨PE_imp (pe_callBfun cr_gcdB hg (xo.gcd hb) ha (by decide) s1 s2) fun _ _ _ q => rd_bi q, fun z => by cases z⟩
  | str => cases hb
  | bool => cases hb
  | sset => cases hb

theorem pe_ty {t : Ty} {c : Expr} {sc : Scope} (xo : XOk S Sm T k arI X) (hs : X.env.scope = sc) (h : tyB T sc t c = true) : PE X c (tC (tyVal S t)) ∧ plainE c = true := by
  cases c <;> first | (exfalso; cases t <;> simp [tyB] at h; done) | skip
  refine ⟨?_, rfl⟩
  cases t <;> simp only [tyB, Bool.and_eq_true, beq_iff_eq] at h
  · obtain ⟨rfl, h⟩ := h
    exact pe_bltn (gl_of hs h) (xo.blt _ (by decide)) (show bootBuiltins "str" = some (.type "str") by decide +kernel) rfl
  · obtain ⟨rfl, h⟩ := h
    exact pe_bltn (gl_of hs h) (xo.blt _ (by decide)) (show bootBuiltins "int" = some (.type "int") by decide +kernel) rfl
  · obtain ⟨rfl, h⟩ := h
    exact pe_bltn (gl_of hs h) (xo.blt _ (by decide)) (show bootBuiltins "bool" = some (.type "bool") by decide +kernel) rfl
  · obtain ⟨rfl, h⟩ := h
    exact pe_bltn (gl_of hs h) (xo.blt _ (by decide)) (show bootBuiltins "list" = some (.type "list") by decide +kernel) rfl
  · obtain ⟨rfl, h⟩ := h
    exact pe_bltn (gl_of hs h) (xo.blt _ (by decide)) (show bootBuiltins "tuple" = some (.type "tuple") by decide +kernel) rfl
  · obtain ⟨⟨h1, h2⟩, h3⟩ := h
    obtain ⟨hm, _⟩ := xo.mks _ _ h1
    exact pe_glob (gl_of hs h2) hm rfl (nm1 h3)
theorem pe_isi_any {x : Str} {p pos : Pos} {e c : Expr} {a : E} {t : Ty} {sc : Scope} (xo : XOk S Sm T k arI X) (hs : X.env.scope = sc) (hx : x = "isinstance") (hg : Gl X x) (he : PE X e (rdE S Sm a)) (pl : plainE e = true) (hc : tyB T sc t c = true) :
    PE X (.Call (.Name x p) [e, c] [] pos) (rdE S Sm (.isi a t)) := by
  subst hx
  obtain ⟨h1, h2⟩ := pe_ty xo hs hc
  exact PE_imp (pe_callB (cr_isiB xo t) hg (xo.blt _ (by decide)) (by decide +kernel) (pa_cons he (pa_cons h1 pa_nil (star_plain h2)) (star_plain pl)) (by decide) (by decide) (star_plain pl) (by rw [star_plain h2]; rfl)) fun _ _ _ q => rd_isi q

theorem rd_bmS {b : Bm} {o a : E} {σ : St} {H : Hp} {Q : VK} (hb : ∀ d, bmTy b d → ∃ s, d = .str s) (h : rdE S Sm (.bm b o a) σ H Q) : tM1 (rBm S b) (rdE S Sm o) (rdE S Sm a) σ H Q := by
  obtain ⟨fr, Γ, Hk, QD, ok, hev, g⟩ := h
  refine ⟨fr, Γ, Hk, _, ok, hev, fun d v Hk1 H1 s1 r1 q1 => ⟨?_, fr, Γ, Hk1, _, ok.step s1, q1.2, fun e w Hk2 H2 s2 r2 q2 => ⟨d, e, Hk2, QD, w, rfl, s2.i, r1.mono s2.k, r2, q2, g.step (s1.trans s2)⟩⟩⟩
  obtain ⟨s, rfl⟩ := hb d q1.1
  exact ⟨_, r1.str_inv⟩
theorem rd_bmL {b : Bm} {o a : E} {σ : St} {H : Hp} {Q : VK} (hb : ∀ d, bmTy b d → ∃ s, d = .lst s) (h : rdE S Sm (.bm b o a) σ H Q) : tBM X.K "list" (rBm S b) (rdE S Sm o) (tCons (rdE S Sm a) tNil) σ H Q := by
  obtain ⟨fr, Γ, Hk, QD, ok, hev, g⟩ := h
  refine ⟨fr, Γ, Hk, _, ok, hev, fun d v Hk1 H1 s1 r1 q1 => ⟨?_, fr, Γ, Hk1, _, ok.step s1, q1.2, fun e w Hk2 H2 s2 r2 q2 => ⟨d, e, Hk2, QD, w, rfl, s2.i, r1.mono s2.k, r2, q2, g.step (s1.trans s2)⟩⟩⟩
  obtain ⟨s, rfl⟩ := hb d q1.1
  cases r1 with
  | lst h1 r2 => exact .inl ⟨rfl, _, .inl (same_rd s1.i h1)⟩
theorem pe_bm_any {x : Expr} {name : Str} {ap p : Pos} {e : Expr} {b : Bm} {o a : E} (xo : XOk S Sm T k arI X) (hn : name = bmN b) (ao : attrOk x = true) (hl : (ap.endLine == p.line) = true) (pl : plainE e = true) (ho : PE X x (rdE S Sm o)) (ha : PE X e (rdE S Sm a)) :
    PE X (.Call (.Attribute x name ap) [e] [] p) (rdE S Sm (.bm b o a)) := by
  subst hn
  have s1 : starEach [e] X.env = [(false, eval e X.env)] := star_plain pl
  cases b with
  | join => exact PE_imp (pe_m1 F.slot_str_join F.type_str_join (mt_joinB xo) ho ha s1 (attr_base ao) hl) fun _ _ _ q => rd_bmS (fun d h => by cases d <;> first | exact ⟨_, rfl⟩ | exact (show False from h).elim) q
  | count => exact PE_imp (pe_m1 F.slot_str_count F.type_str_count mt_countB ho ha s1 (attr_base ao) hl) fun _ _ _ q => rd_bmS (fun d h => by cases d <;> first | exact ⟨_, rfl⟩ | exact (show False from h).elim) q
  | sindex => exact PE_imp (pe_m1 F.slot_str_index F.type_str_index mt_sindexB ho ha s1 (attr_base ao) hl) fun _ _ _ q => rd_bmS (fun d h => by cases d <;> first | exact ⟨_, rfl⟩ | exact (show False from h).elim) q
  | index =>
    refine PE_imp (pe_bm F.plainAttrs_list F.slot_list_index F.type_list_index (mt_indexB xo) ho (pa_cons ha pa_nil s1) (attr_base ao) ?_ hl s1 rfl) fun _ _ _ q => rd_bmL (fun d h => by cases d <;> first | exact ⟨_, rfl⟩ | exact (show False from h).elim) q
    rw [s1]
    rfl
end
end Vg


set_option Elab.async false
set_option linter.all false
set_option maxRecDepth 100000
set_option maxHeartbeats 8000000
/-! Vg: sorted(set(x)), ints, up to 4000 of them -/
namespace Vg
open PySem PySem.Spec PyProof.Rows L2
/-- the object that set() lays down -/
abbrev nS (w : World) : Obj := { cls := .type "set", dict := none, data := .set #[] 0 (.fresh 0 0 (!w.params.followText "set-order")) }
section
variable {P : Program} {w : World} {A : Around} {E : Value → Shared → Prop} {s : Shared}
/-- set(xs), a list of ints -/
theorem set_lst {q : Addr} {xs : Array Value} (ks : List Int) {Q : Value → Shared → Prop} (z : A.handled = none) (ol : s.heap.IsList q xs) (oi : IntsAre xs.toList ks) (room : ks.length + 1 < scanBound)
    (k : ∀ (g : Heap) (t n : Nat), SetR w g s.heap.objs.size (fun j => decide (j ∈ ks)) n → n ≤ ks.length → (∀ b o, s.heap.get? b = some o → g.get? b = some o) → Q (.ref s.heap.objs.size) { s with heap := g, toks := t }) :
    wpAny (model P w) A (call (.type "set") [.ref q]) Q E s := by
  have xl : xs.size = ks.length := by
    have := IntsAre.length oi; rwa [Array.length_toList] at this
  obtain ⟨c0, t0, m0⟩ := F.called_set.mro
  have f1 := F.called_set.made; have f2 := F.called_set.sub
  refine wpAny_call (codeAny_of_tree ?_); show wpAny _ _ (callAny (.type "set") _) _ _ _
  refine wpAny_pure ⟨Code.quiet_builtin _ (by decide +kernel), codeAny_builtin F.entry_type_call ?_⟩ |> id
  rw [Around.under_plain (weight_type_call_type "set" [.ref q] []) rfl]
  have f3 := F.called_set.notType; have f4 := F.called_set.canCreate; have f5 := F.typeCall_set_1 (.ref q)
  repeat any_goals first | assumption | wp_step
  refine codeAny_mono (code_set_led1 (.ref q) (E := E) (Q₁ := fun v u => v = .ref s.heap.objs.size ∧ u = { s with heap := s.heap.push (nS w) }) ⟨rfl, rfl⟩) fun r u hr => ?_
  cases r with
  | error _ => exact hr
  | ok fl =>
    cases fl with
    | ret v =>
      obtain ⟨rfl, rfl⟩ := hr
      have at0 : (s.heap.push (nS w)).get? s.heap.objs.size = some (nS w) := Heap.get?_push_size _ rfl
      have ty0 : Shared.TypeIs { s with heap := s.heap.push (nS w) } (.ref s.heap.objs.size) "set" := ⟨_, at0, rfl⟩
      have f6 := F.called_set.init.lookup; have f7 := F.called_set.init.bind (.ref s.heap.objs.size)
      repeat any_goals first | assumption | wp_step
      refine codeAny_mono (codeAny_call_builtin (R := wants (fun r u => r = .none ∧ ∃ g t n, u = { s with heap := g, toks := t } ∧ SetR w g s.heap.objs.size (fun j => decide (j ∈ ks)) n ∧ n ≤ ks.length ∧ (∀ b o, s.heap.get? b = some o → g.get? b = some o)) E) F.called_set.init.plain F.entry_set_init (check_set_init_1 ty0 ?_)) fun r₂ u₂ hr₂ => ?_
      · obtain ⟨o1, a1, b1, n1, d1⟩ := ol
        obtain ⟨oc, od, oa, os⟩ := o1
        simp only at b1 d1; subst b1; subst d1
        have a2 : (s.heap.push (nS w)).get? q = some { cls := .type "list", dict := od, data := .seq xs n1, slots := os } := Heap.get?_push_of_some _ a1
        have f8 := F.sub_list_set; have f9 := F.sub_list_frozenset
        have f0 : (Value.type "list" == Value.type "dict") = false := by decide
        have ol1 : (s.heap.push (nS w)).IsList q xs := ⟨_, a2, rfl, n1, rfl⟩
        unfold Builtin.«set.__init__» noKeywords Builtin.Frozenset.updateFrom
        generalize py : pyIter = PI; wp_walk; subst py
        refine wpAny_pyIter_list ol1 (wpAny_bind (wpAny_runValue ?_))
        have lt0 : q < s.heap.objs.size := Heap.lt_size a1
        have z3 : A.in1.in1.in1.handled = none := by simp [z]
        have ne0 : q ≠ (s.heap.push (nS w)).objs.size := by
          rw [Heap.size_push]; exact Nat.ne_of_lt (Nat.lt_succ_of_lt lt0)
        have nin : s.heap.objs.size ∉ [(s.heap.push (nS w)).objs.size, q] := by
          rw [Heap.size_push]; simp only [List.mem_cons, List.not_mem_nil, or_false, not_or]
          exact ⟨Nat.ne_of_lt (Nat.lt_succ_self _), fun e => absurd (e ▸ lt0) (Nat.lt_irrefl _)⟩
        have val : ∀ (i : Nat) (v : Value), xs[i]? = some v → ∃ k t, ks[i]? = some k ∧ v = .int k t := fun i v hv => by
          have hi : i < ks.length := by rw [← xl]; exact (Array.getElem?_eq_some_iff.mp hv).1
          obtain ⟨t, e⟩ := IntsAre.int_at oi i v (by rw [Array.getElem?_toList]; exact hv)
          rw [List.getD_eq_getElem?_getD, List.getElem?_eq_getElem hi] at e
          exact ⟨_, t, List.getElem?_eq_getElem hi, e⟩
        refine set_update_ints ((Walks.list z3 _ q ne0 xs).toS) s.heap.objs.size nin ks xl room val (xs.size - 0) 0 _ (by omega) (Nat.zero_le _) ⟨⟨_, Heap.get?_push_size _ rfl, rfl, rfl⟩, (ol1.push _)⟩ ?b0 ?b1
        case b0 => exact ⟨0, Nat.le_refl 0, setR_new_at (Heap.get?_push_of_some _ at0)⟩
        case b1 =>
          intro u1 n2 mv hn hS
          obtain ⟨g, e2, d2, t2, o2⟩ := u1
          have eg : e2 = s.gens := mv.gens; have ed : d2 = s.drawn := mv.drawn; have eo : o2 = s.os := mv.os
          subst eg; subst ed; subst eo
          show wpAny _ _ _ _ _ _; refine wpAny_pure ?_
          show wpAny _ _ (ret Value.none) _ _ _
          refine wpAny_pure ⟨rfl, g, t2, n2, rfl, hS, by rw [← xl]; exact hn, fun b o e => mv.heap b o ?_ (Heap.get?_push_of_some _ (Heap.get?_push_of_some _ e))⟩
          have lb : b < s.heap.objs.size := Heap.lt_size e
          rw [Heap.size_push]; simp only [List.mem_cons, List.not_mem_nil, or_false, not_or]
          exact ⟨fun e => absurd (e ▸ lb) (Nat.lt_irrefl _), Nat.ne_of_lt (Nat.lt_succ_of_lt lb)⟩
      · cases r₂ with
        | error _ => exact hr₂
        | ok f₂ =>
          cases f₂ with
          | ret r =>
            obtain ⟨rfl, g, t, n2, rfl, hS, hn, hk⟩ := hr₂
            repeat any_goals first | assumption | wp_step
            exact k _ _ _ hS hn hk
          | _ => exact hr₂.elim
    | _ => exact hr.elim
/-- sorted(s), s a set of ints, up to 4000 -/
theorem sorted_big {a : Addr} {S : Int → Bool} {n : Nat} {Q : Value → Shared → Prop} (R : SetR w s.heap a S n) (z : A.handled = none) (room : n ≤ 4000)
    (k : ∀ u p (out : Array Value) (c : Nat) (ns : List Int), (∀ b o, s.heap.get? b = some o → u.heap.get? b = some o) → u.gens = s.gens → u.os = s.os → s.heap.objs.size ≤ p →
      u.heap.get? p = some (seqObj "list" out c) → IntsAre out.toList ns → ns.Pairwise (· < ·) → (∀ k, k ∈ ns ↔ S k = true) → ns.length = n → Q (.ref p) u) :
    wpAny (model P w) A (call (.builtin "sorted") [.ref a]) Q E s := by
  obtain ⟨o, es, ep, t, ho, hex, hd, g, nd, hm, hb, hf, hn, hr, hl⟩ := R
  refine Calls.call_function_entry kind_sorted plain_sorted entry_sorted (args_sorted1 _) ?_ |> id
  unfold Builtin.«sorted»; refine wpAny_bind (m := checkCount "sorted" 1 1 _) (wpAny_pure ?_)
  refine wpAny_bind (collect_set (A := A.in1) z ⟨o, ho, hex.1, hd⟩ hf hb hr hl fun u vs k1 hz g1 o1 pm => ?_)
  have lv : vs.length = n := by rw [pm.length_eq, List.length_map, Array.length_toList]; exact hn
  have iv : IntsAre vs (vs.map Builtin.Re.reRawOf) := ints_of vs fun v hv => by
    obtain ⟨e, he, q⟩ := List.mem_map.mp (pm.mem_iff.mp hv)
    obtain ⟨k, tk, h1, _⟩ := g e he; exact ⟨k, tk, by rw [← q]; exact h1⟩
  have pk : (vs.map Builtin.Re.reRawOf).Perm (es.toList.map keyOf) := by
    have := pm.map Builtin.Re.reRawOf; rwa [List.map_map] at this
  refine wpAny_bind (wpAny_newList ?_ (by rw [lv, sizeLine_eq]; omega))
  have at1 : (u.heap.push (seqObj "list" vs.toArray 0)).get? u.heap.objs.size = some (seqObj "list" vs.toArray 0) := Heap.get?_push_size _ rfl
  refine wpAny_bind (wpAny_holding (wpAny_call_entry slot_list_sort ⟨_, at1, rfl⟩ entry_list_sort (SrtO.list_sort_ord SrtO.swo_int at1 (by rw [lv, sizeLine_eq]; omega) (fun h2 => SrtO.ints_sortable iv h2) fun out h1 h2 => ⟨_, rfl, ?_⟩) (args_list_sort _)))
  obtain ⟨k1', k2', k3'⟩ := SrtO.ints_out iv h1 h2
  obtain ⟨c, hc⟩ := sortedHeap_at (vs := vs) (out := out.toArray) at1
  have pn := k2'.trans pk
  refine wpAny_pure ⟨_, rfl, k _ u.heap.objs.size out.toArray c (out.map SrtO.iv) (fun b x e => ?_) g1 o1 hz hc (by simpa using k1') (lt_of_le_nodup _ k3' (pn.nodup_iff.mpr nd)) (fun j => by rw [pn.mem_iff, ← hm j]) (by rw [pn.length_eq, List.length_map, Array.length_toList]; exact hn)⟩
  have q := k1 b x e
  have hlt := Heap.lt_size q
  show (sortedHeap (u.heap.push (seqObj "list" vs.toArray 0)) u.heap.objs.size vs out.toArray).get? b = some x
  rw [sortedHeap_old (Nat.ne_of_lt hlt) (by rw [size_push']; exact Nat.lt_succ_of_lt hlt)]; exact Heap.get?_push_of_some _ q
end
/-- sorted(set(x)), x a list or a tuple of ints -/
def tSS (K : PySem.W.Frag) (ta : TE) : TE := fun σ H Q => ta σ H fun x H1 => ∃ (l : Addr) (ns : List Int), x = .ref l ∧ (SqL K H1 l (ns.map V.int) ∨ SqT K H1 l (ns.map V.int)) ∧ ns.length ≤ 4000 ∧
  ∀ (ms : List Int) (p : Addr), (∀ x, x ∈ ms ↔ x ∈ ns) → ms.Pairwise (· < ·) → H1 p = none → Q (.ref p) (upd H1 p (.lst (ms.map V.int)))
theorem pe_sset {X : Cx} {a : Expr} {ta : TE} {p p2 q pos : Pos} (hc : X.calm = true) (hg : Gl X "sorted") (hm : X.mg "sorted" = none) (hg2 : Gl X "set") (hm2 : X.mg "set" = none) (ha : PE X a ta)
    (na : starEach [a] X.env = (false, eval a X.env) :: starEach [] X.env) : PE X (.Call (.Name "sorted" p) [.Call (.Name "set" p2) [a] [] q] [] pos) (tSS X.K ta) := by
  refine ⟨fun pins s σ H Q I h => ?_⟩
  refine Call_ (ld_blt I hg hm (by rfl) ?_)
  refine callWith_builtin1 (args_cons ?_ rfl) rfl rfl
  refine Call_ (ld_blt I hg2 hm2 boot_set ?_)
  refine callWith_type1 (args_cons (thn (ha.run pins s σ H _ I h) fun v s1 ⟨x, H1, I1, r1, q1⟩ => PyProof.Rows.args_nil ?_) na) na rfl
  obtain ⟨l, ns, rfl, hq, hl, q1⟩ := q1
  cases r1
  have room : ns.length + 1 < scanBound := by unfold scanBound; omega
  have fin : ∀ (g : Heap) (t n : Nat), SetR X.w g s1.heap.objs.size (fun j => decide (j ∈ ns)) n → n ≤ ns.length → (∀ b o, s1.heap.get? b = some o → g.get? b = some o) →
      wpAny (model X.prog X.w) X.A (call (.builtin "sorted") [.ref s1.heap.objs.size]) (EP X pins σ Q) X.xe { s1 with heap := g, toks := t } := fun g t n R hn k => by
    have I2 : Inv X pins σ H1 { s1 with heap := g, toks := t } := I1.kept fun b o e => k b o e
    refine sorted_big R (I1.ok.hd hc) (by omega) fun u p out c ms k2 eg eo hp hget hi hs hmem hml => ?_
    have hno : H1 p = none := I2.hok.fresh hp
    have hlen : (ms.map V.int).length ≤ sizeLine := by rw [List.length_map, sizeLine_eq]; omega
    have J : Inv X pins σ (upd H1 p (.lst (ms.map V.int))) { ({ s1 with heap := g, toks := t } : Shared) with heap := u.heap, gens := u.gens, drawn := u.drawn, toks := u.toks } :=
      I2.call (ch := []) (Un.laid k2 hp hno) (I2.hok.laid k2 hp ⟨hlen, out.toList, c, vals_of_ints hi, hget⟩) (by rw [eg]; exact I2.bare) (fun _ z => nomatch z)
    have e : u = { ({ s1 with heap := g, toks := t } : Shared) with heap := u.heap, gens := u.gens, drawn := u.drawn, toks := u.toks } := by
      cases u; cases s1; cases eo; rfl
    rw [e]
    exact ⟨.ref p, _, J, rfl, q1 ms p (fun x => by rw [hmem x, decide_eq_true_eq]) hs hno⟩
  rcases hq with hq | hq
  · obtain ⟨its, r, pl, hz⟩ := I1.list hq
    exact set_lst ns (I1.ok.hd hc) (xs := its.toArray) pl.isList (by simpa using ints_of_vals r) room fun g t n R hn k => PyProof.Rows.args_nil (fin g t n R hn k)
  · obtain ⟨its, r, pl, hz⟩ := I1.tuple hq
    exact call_set_tupI ns (I1.ok.hd hc) (show s1.heap.IsTuple l its.toArray from pl) (by simpa using ints_of_vals r) room fun g t n R hn k => PyProof.Rows.args_nil (fin g t n R hn k)
end Vg


set_option Elab.async false
set_option linter.all false
set_option maxRecDepth 100000
set_option maxHeartbeats 8000000
/-! Vg: every expression that the check lets is sound -/
namespace Vg
open PySem L2
section
variable {S : Sg} {Sm : Sem} {T : Nm} {k : Nat} {arI : Nat → Nat} {N : List Str}

abbrev SndAt (S : Sg) (Sm : Sem) (T : Nm) (k : Nat) (arI : Nat → Nat) (N : List Str) (e : E) : Prop :=
  ∀ (kd : Kd) (sc : Scope) (es : List Expr), mE T N e kd sc es = true → ∀ X : Cx, XOk S Sm T k arI X → X.N = N → X.env.scope = sc → Snd S Sm T X e kd es

theorem snd_var {i : Nat} : SndAt S Sm T k arI N (.var i) := by
  intro kd sc es h X xo hN hs
  simp only [mE, Bool.and_eq_true] at h
  obtain ⟨hk, h⟩ := h
  split at h
  · simp only [Bool.and_eq_true, beq_iff_eq] at h
    obtain ⟨⟨h1, h2⟩, h3⟩ := h
    refine Snd.ofE xo hk (SndE.val (PE_imp (pe_var (i := i) (by rw [hN]; exact h1) (by rw [hs]; exact vis_of h2) (nm1 h3) (nm2 h3)) fun _ _ _ q => rd_var q) rfl rfl fun z => by cases z)
  · cases h
theorem snd_k {d : DV} : SndAt S Sm T k arI N (.k d) := by
  intro kd sc es h X xo hN hs
  simp only [mE, Bool.and_eq_true] at h
  obtain ⟨hk, h⟩ := h
  split at h
  · rename_i c kk p
    have mk : PE X (.Constant c kk p) (rdE S Sm (.k d)) := by
      cases c <;> cases d <;> first | (cases h; done) | skip
      · exact PE_imp pe_non fun _ _ _ q => rd_k (fun _ => .non) q
      · have e := eq_of_beq h
        subst e
        exact PE_imp pe_bl fun _ _ _ q => rd_k (fun _ => .bl) q
      · have e := eq_of_beq h
        subst e
        exact PE_imp pe_int fun _ _ _ q => rd_k (fun _ => .int) q
      · rename_i x s
        have e : x.cps.toList = s := eq_of_beq h
        subst e
        have e2 : (⟨x.cps.toList.toArray⟩ : Str) = x := by
          cases x
          simp
        refine PE_imp pe_str fun _ _ _ q => rd_k (fun H => ?_) q
        have r := Rep.str (S := S) (H := H) (s := x.cps.toList)
        rw [e2] at r
        exact r
    exact Snd.ofE xo hk (SndE.val mk rfl rfl fun z => by cases z)
  · cases h
theorem snd_bin {o : Operator} {a b : E} (ha : SndAt S Sm T k arI N a) (hb : SndAt S Sm T k arI N b) : SndAt S Sm T k arI N (.bin o a b) := by
  intro kd sc es h X xo hN hs
  simp only [mE, Bool.and_eq_true] at h
  obtain ⟨hk, h⟩ := h
  split at h
  · simp only [Bool.and_eq_true, beq_iff_eq] at h
    obtain ⟨⟨h1, h2⟩, h3⟩ := h
    subst h1
    have A := (ha _ _ _ h2 X xo hN hs).e
    have B := (hb _ _ _ h3 X xo hN hs).e
    exact Snd.ofE xo hk (SndE.val (PE_imp (pe_op (op_bin xo _) A.pe B.pe) fun _ _ _ q => rd_bin q) rfl rfl fun z => by cases z)
  · cases h
theorem snd_cat {a b : E} (ha : SndAt S Sm T k arI N a) (hb : SndAt S Sm T k arI N b) : SndAt S Sm T k arI N (.catL a b) := by
  intro kd sc es h X xo hN hs
  simp only [mE, Bool.and_eq_true] at h
  obtain ⟨hk, h⟩ := h
  split at h
  · simp only [Bool.and_eq_true, beq_iff_eq] at h
    obtain ⟨⟨h1, h2⟩, h3⟩ := h
    subst h1
    have A := (ha _ _ _ h2 X xo hN hs).e
    have B := (hb _ _ _ h3 X xo hN hs).e
    exact Snd.ofE xo hk (SndE.new (PE_imp (pe_op op_catD A.pe B.pe) fun _ _ _ q => rdL_cat q) rfl rfl)
  · cases h
theorem snd_rep {a b : E} (ha : SndAt S Sm T k arI N a) (hb : SndAt S Sm T k arI N b) : SndAt S Sm T k arI N (.repL a b) := by
  intro kd sc es h X xo hN hs
  simp only [mE, Bool.and_eq_true] at h
  obtain ⟨hk, h⟩ := h
  split at h
  · simp only [Bool.and_eq_true, beq_iff_eq] at h
    obtain ⟨⟨h1, h2⟩, h3⟩ := h
    subst h1
    have A := (ha _ _ _ h2 X xo hN hs).e
    have B := (hb _ _ _ h3 X xo hN hs).e
    exact Snd.ofE xo hk (SndE.new (PE_imp (pe_op op_repD A.pe B.pe) fun _ _ _ q => rdL_rep q) rfl rfl)
  · cases h
theorem snd_un {o : UnaryOp} {a : E} (ha : SndAt S Sm T k arI N a) : SndAt S Sm T k arI N (.un o a) := by
  intro kd sc es h X xo hN hs
  simp only [mE, Bool.and_eq_true] at h
  obtain ⟨hk, h⟩ := h
  split at h
  · rename_i op x p
    simp only [Bool.and_eq_true, beq_iff_eq] at h
    obtain ⟨⟨h1, hn⟩, h2⟩ := h
    have A := (ha _ _ _ h2 X xo hN hs).e
    have ht : testE (.UnaryOp op x p) = true := by
      rw [h1]
      cases o <;> first | rfl | exact absurd hn (by decide)
    rw [h1] at ht ⊢
    exact Snd.ofE xo hk (SndE.val (PE_imp (pe_un (op_un xo _) A.pe) fun _ _ _ q => rd_un q) rfl ht fun z => by cases z)
  · cases h
theorem snd_cmp {o : CmpOp} {a b : E} (ha : SndAt S Sm T k arI N a) (hb : SndAt S Sm T k arI N b) : SndAt S Sm T k arI N (.cmp o a b) := by
  intro kd sc es h X xo hN hs
  simp only [mE, Bool.and_eq_true] at h
  obtain ⟨hk, h⟩ := h
  split at h
  · simp only [Bool.and_eq_true, beq_iff_eq] at h
    obtain ⟨⟨⟨h1, hp⟩, h2⟩, h3⟩ := h
    subst h1
    have A := (ha _ _ _ h2 X xo hN hs).e
    have B := (hb _ _ _ h3 X xo hN hs).e
    exact Snd.ofE xo hk ⟨PE_imp (pe_cmpR (op_cmp xo _) A.pe B.pe (mark_plain hp)) fun _ _ _ q => rd_cmp q,
      fun _ => PT_imp (pt_cmpR (op_cmp xo _) A.pe B.pe (mark_plain hp)) fun _ _ _ q => rd_cmp (rdT_E q), fun z => (by cases z), fun z => (by cases z), rfl⟩
  · cases h
theorem snd_chain {o p : CmpOp} {a b c : E} (ha : SndAt S Sm T k arI N a) (hb : SndAt S Sm T k arI N b) (hc : SndAt S Sm T k arI N c) : SndAt S Sm T k arI N (.chain o p a b c) := by
  intro kd sc es h X xo hN hs
  simp only [mE, Bool.and_eq_true] at h
  obtain ⟨hk, h⟩ := h
  split at h
  · simp only [Bool.and_eq_true, beq_iff_eq] at h
    obtain ⟨⟨⟨⟨⟨h1, h0⟩, hp⟩, h2⟩, h3⟩, h4⟩ := h
    subst h1
    subst h0
    have A := (ha _ _ _ h2 X xo hN hs).e
    have B := (hb _ _ _ h3 X xo hN hs).e
    have C := (hc _ _ _ h4 X xo hN hs).e
    exact Snd.ofE xo hk ⟨PE_imp (pe_chain (op_cmp xo _) (op_cmp xo _) A.pe B.pe C.pe (marks_plain hp)) fun _ _ _ q => rd_chain q,
      fun _ => PT_imp (pt_chain (op_cmp xo _) (op_cmp xo _) A.pe B.pe C.pe (marks_plain hp)) fun _ _ _ q => rd_chain (rdT_E q), fun z => (by cases z), fun z => (by cases z), rfl⟩
  · cases h
theorem snd_not {a : E} (ha : SndAt S Sm T k arI N a) : SndAt S Sm T k arI N (.bnot a) := by
  intro kd sc es h X xo hN hs
  simp only [mE, Bool.and_eq_true] at h
  obtain ⟨hk, h⟩ := h
  split at h
  · simp only [Bool.and_eq_true] at h
    have A := (ha _ _ _ h.2 X xo hN hs).e
    exact Snd.ofE xo hk ⟨PE_imp (pe_not A.pe) fun _ _ _ q => rd_not q, fun _ => PT_imp (pt_not (A.pt h.1)) fun _ _ _ q => rdT_not q, fun z => (by cases z), fun z => (by cases z), rfl⟩
  · cases h
theorem snd_and {a b : E} (ha : SndAt S Sm T k arI N a) (hb : SndAt S Sm T k arI N b) : SndAt S Sm T k arI N (.band a b) := by
  intro kd sc es h X xo hN hs
  simp only [mE, Bool.and_eq_true] at h
  obtain ⟨hk, h⟩ := h
  split at h
  · rename_i x y p
    simp only [Bool.and_eq_true] at h
    obtain ⟨⟨⟨t1, t2⟩, h2⟩, h3⟩ := h
    have A := (ha _ _ _ h2 X xo hN hs).e
    have B := (hb _ _ _ h3 X xo hN hs).e
    have W : PW X (.BoolOp .And [x, y] p) (rdT S Sm (.band a b)) := ⟨fun wh pins s σ H Q I q => (pw_and (A.pt t1) (pw_and1 (B.pt t2))).run wh pins s σ H Q I (rdT_and q)⟩
    exact Snd.ofE xo hk ⟨PE_imp (pe_and A.pe (pe_one B.pe)) fun _ _ _ q => rd_and q, fun _ => W.pt, fun _ => W, fun z => (by cases z), rfl⟩
  · rename_i x y z r p
    simp only [Bool.and_eq_true] at h
    obtain ⟨⟨⟨t1, t2⟩, h2⟩, h3⟩ := h
    have A := (ha _ _ _ h2 X xo hN hs).e
    have B := (hb _ _ _ h3 X xo hN hs).e
    have W : PW X (.BoolOp .And (x :: y :: z :: r) p) (rdT S Sm (.band a b)) := ⟨fun wh pins s σ H Q I q => (pw_and (A.pt t1) (B.pw rfl)).run wh pins s σ H Q I (rdT_and q)⟩
    exact Snd.ofE xo hk ⟨PE_imp (pe_and A.pe B.pe) fun _ _ _ q => rd_and q, fun _ => W.pt, fun _ => W, fun z => (by cases z), rfl⟩
  · cases h
theorem snd_or {a b : E} (ha : SndAt S Sm T k arI N a) (hb : SndAt S Sm T k arI N b) : SndAt S Sm T k arI N (.bor a b) := by
  intro kd sc es h X xo hN hs
  simp only [mE, Bool.and_eq_true] at h
  obtain ⟨hk, h⟩ := h
  split at h
  · rename_i x y p
    simp only [Bool.and_eq_true] at h
    obtain ⟨⟨⟨t1, t2⟩, h2⟩, h3⟩ := h
    have A := (ha _ _ _ h2 X xo hN hs).e
    have B := (hb _ _ _ h3 X xo hN hs).e
    have W : PW X (.BoolOp .Or [x, y] p) (rdT S Sm (.bor a b)) := ⟨fun wh pins s σ H Q I q => (pw_or (A.pt t1) (pw_or1 (B.pt t2))).run wh pins s σ H Q I (rdT_or q)⟩
    exact Snd.ofE xo hk ⟨PE_imp (pe_or A.pe (pe_one B.pe)) fun _ _ _ q => rd_or q, fun _ => W.pt, fun _ => W, fun z => (by cases z), rfl⟩
  · rename_i x y z r p
    simp only [Bool.and_eq_true] at h
    obtain ⟨⟨⟨t1, t2⟩, h2⟩, h3⟩ := h
    have A := (ha _ _ _ h2 X xo hN hs).e
    have B := (hb _ _ _ h3 X xo hN hs).e
    have W : PW X (.BoolOp .Or (x :: y :: z :: r) p) (rdT S Sm (.bor a b)) := ⟨fun wh pins s σ H Q I q => (pw_or (A.pt t1) (B.pw rfl)).run wh pins s σ H Q I (rdT_or q)⟩
    exact Snd.ofE xo hk ⟨PE_imp (pe_or A.pe B.pe) fun _ _ _ q => rd_or q, fun _ => W.pt, fun _ => W, fun z => (by cases z), rfl⟩
  · cases h
theorem snd_ife {t a b : E} (ht : SndAt S Sm T k arI N t) (ha : SndAt S Sm T k arI N a) (hb : SndAt S Sm T k arI N b) : SndAt S Sm T k arI N (.ife t a b) := by
  intro kd sc es h X xo hN hs
  simp only [mE, Bool.and_eq_true] at h
  obtain ⟨hk, h⟩ := h
  split at h
  · simp only [Bool.and_eq_true] at h
    obtain ⟨⟨⟨t1, h2⟩, h3⟩, h4⟩ := h
    have C := (ht _ _ _ h2 X xo hN hs).e
    have A := (ha _ _ _ h3 X xo hN hs).e
    have B := (hb _ _ _ h4 X xo hN hs).e
    exact Snd.ofE xo hk ⟨PE_imp (pe_ifExp (C.pt t1) A.pe B.pe) fun _ _ _ q => rd_ife q, fun z => (by cases z), fun z => (by cases z), fun z => (by cases z), rfl⟩
  · cases h
theorem snd_nil : SndAt S Sm T k arI N .nil := by
  intro kd sc es h X xo hN hs
  simp only [mE, Bool.and_eq_true, beq_iff_eq, List.isEmpty_iff] at h
  obtain ⟨rfl, rfl⟩ := h
  exact ⟨rfl, PA_imp pa_nil fun _ _ _ q => rdA_nil q⟩
theorem snd_cons {a r : E} (ha : SndAt S Sm T k arI N a) (hr : SndAt S Sm T k arI N r) : SndAt S Sm T k arI N (.cons a r) := by
  intro kd sc es h X xo hN hs
  simp only [mE, Bool.and_eq_true, beq_iff_eq] at h
  obtain ⟨rfl, h⟩ := h
  split at h
  · simp only [Bool.and_eq_true] at h
    obtain ⟨⟨h1, h2⟩, h3⟩ := h
    have A := (ha _ _ _ h2 X xo hN hs).e
    obtain ⟨R1, R2⟩ := hr _ _ _ h3 X xo hN hs
    exact ⟨by rw [List.all_cons, h1, R1]; rfl, PA_imp (pa_cons A.pe R2 (star_plain h1)) fun _ _ _ q => rdA_cons q⟩
  · cases h
theorem snd_nopart : SndAt S Sm T k arI N .nopart := by
  intro kd sc es h X xo hN hs
  simp only [mE, Bool.and_eq_true, beq_iff_eq, List.isEmpty_iff] at h
  obtain ⟨rfl, rfl⟩ := h
  exact .inl ⟨rfl, PO_imp po_none fun _ _ _ q => rdO_no q⟩
theorem snd_part {a : E} (ha : SndAt S Sm T k arI N a) : SndAt S Sm T k arI N (.part a) := by
  intro kd sc es h X xo hN hs
  simp only [mE, Bool.and_eq_true, beq_iff_eq] at h
  obtain ⟨rfl, h⟩ := h
  obtain ⟨x, rfl, A⟩ := ha _ _ _ h X xo hN hs
  exact .inr ⟨x, rfl, PO_imp (po_some A.pe) fun _ _ _ q => rdO_part q⟩
theorem snd_call {f : Nat} {as : E} (ha : SndAt S Sm T k arI N as) : SndAt S Sm T k arI N (.call f as) := by
  intro kd sc es h X xo hN hs
  simp only [mE, Bool.and_eq_true] at h
  obtain ⟨hk, h⟩ := h
  split at h
  · rename_i x p1 args p2
    simp only [Bool.and_eq_true, beq_iff_eq] at h
    obtain ⟨⟨⟨h1, h2⟩, h3⟩, h4⟩ := h
    obtain ⟨A1, A2⟩ := ha _ _ _ h4 X xo hN hs
    have P := pe_call_any (p := p1) (pos := p2) xo h1 (gl_of hs h2) h3 A1 A2 (fun z => args_nil (by rw [z] at h4; exact h4))
    exact Snd.ofE xo hk (SndE.val (PE_imp P fun _ _ _ q => rd_call xo q) rfl rfl fun z => PE_imp P fun _ _ _ q => rdL_call xo z q)
  · cases h
theorem snd_mk {c : Nat} {as : E} (ha : SndAt S Sm T k arI N as) : SndAt S Sm T k arI N (.mk c as) := by
  intro kd sc es h X xo hN hs
  simp only [mE, Bool.and_eq_true] at h
  obtain ⟨hk, h⟩ := h
  split at h
  · simp only [Bool.and_eq_true, beq_iff_eq] at h
    obtain ⟨⟨⟨h1, h2⟩, h3⟩, h4⟩ := h
    obtain ⟨A1, A2⟩ := ha _ _ _ h4 X xo hN hs
    exact Snd.ofE xo hk (SndE.val (PE_imp (pe_mk_any xo h1 (gl_of hs h2) h3 A1 A2 (fun z => args_nil (by rw [z] at h4; exact h4))) fun _ _ _ q => rd_mk xo q) rfl rfl fun z => by cases z)
  · cases h
theorem snd_bi {b : Bi} {as : E} (ha : SndAt S Sm T k arI N as) : SndAt S Sm T k arI N (.bi b as) := by
  intro kd sc es h X xo hN hs
  simp only [mE, Bool.and_eq_true] at h
  obtain ⟨hk, h⟩ := h
  split at h
  · simp only [Bool.and_eq_true, beq_iff_eq] at h
    obtain ⟨⟨⟨h1, h2⟩, h3⟩, h4⟩ := h
    obtain ⟨A1, A2⟩ := ha _ _ _ h4 X xo hN hs
    obtain ⟨P1, P2⟩ := pe_bi_any xo h1 h2 (gl_of hs h3) A1 A2
    exact Snd.ofE xo hk (SndE.val P1 rfl rfl fun z => P2 z)
  · cases h
theorem snd_isi {a : E} {t : Ty} (ha : SndAt S Sm T k arI N a) : SndAt S Sm T k arI N (.isi a t) := by
  intro kd sc es h X xo hN hs
  simp only [mE, Bool.and_eq_true] at h
  obtain ⟨hk, h⟩ := h
  split at h
  · simp only [Bool.and_eq_true, beq_iff_eq] at h
    obtain ⟨⟨⟨⟨h1, h2⟩, h3⟩, h4⟩, h5⟩ := h
    have A := (ha _ _ _ h4 X xo hN hs).e
    exact Snd.ofE xo hk (SndE.val (pe_isi_any xo hs h1 (gl_of hs h2) A.pe h3 h5) rfl rfl fun z => by cases z)
  · cases h
theorem snd_bm {m : Bm} {o a : E} (ho : SndAt S Sm T k arI N o) (ha : SndAt S Sm T k arI N a) : SndAt S Sm T k arI N (.bm m o a) := by
  intro kd sc es h X xo hN hs
  simp only [mE, Bool.and_eq_true] at h
  obtain ⟨hk, h⟩ := h
  split at h
  · simp only [Bool.and_eq_true, beq_iff_eq] at h
    obtain ⟨⟨⟨⟨⟨h1, h2⟩, h3⟩, h4⟩, h5⟩, h6⟩ := h
    have O := (ho _ _ _ h5 X xo hN hs).e
    have A := (ha _ _ _ h6 X xo hN hs).e
    exact Snd.ofE xo hk (SndE.val (pe_bm_any xo h1 h2 (beq_iff_eq.mpr h3) h4 O.pe A.pe) rfl rfl fun z => by cases z)
  · cases h
theorem snd_om {m : Nat} {o as : E} (ho : SndAt S Sm T k arI N o) (ha : SndAt S Sm T k arI N as) : SndAt S Sm T k arI N (.om m o as) := by
  intro kd sc es h X xo hN hs
  simp only [mE, Bool.and_eq_true] at h
  obtain ⟨hk, h⟩ := h
  split at h
  · simp only [Bool.and_eq_true, beq_iff_eq, decide_eq_true_eq] at h
    obtain ⟨⟨⟨⟨⟨h1, h2⟩, h3⟩, h4⟩, h5⟩, h6⟩ := h
    subst h1
    have O := (ho _ _ _ h5 X xo hN hs).e
    obtain ⟨A1, A2⟩ := ha _ _ _ h6 X xo hN hs
    exact Snd.ofE xo hk (SndE.val (pe_om_any xo O.pe h2 (beq_iff_eq.mpr h3) h4 A1 A2 (fun z => args_nil (by rw [z] at h6; exact h6))) rfl rfl fun z => by cases z)
  · cases h
theorem snd_fld {f : Nat} {o : E} (ho : SndAt S Sm T k arI N o) : SndAt S Sm T k arI N (.fld o f) := by
  intro kd sc es h X xo hN hs
  simp only [mE, Bool.and_eq_true] at h
  obtain ⟨hk, h⟩ := h
  split at h
  · simp only [Bool.and_eq_true, beq_iff_eq] at h
    obtain ⟨⟨h1, h2⟩, h3⟩ := h
    subst h1
    have O := (ho _ _ _ h3 X xo hN hs).e
    exact Snd.ofE xo hk (SndE.val (PE_imp (pe_fld O.pe (attr_base h2)) fun _ _ _ q => rd_fld xo q) rfl rfl fun z => by cases z)
  · cases h
theorem snd_idx {o i : E} (ho : SndAt S Sm T k arI N o) (hi : SndAt S Sm T k arI N i) : SndAt S Sm T k arI N (.idx o i) := by
  intro kd sc es h X xo hN hs
  simp only [mE, Bool.and_eq_true] at h
  obtain ⟨hk, h⟩ := h
  split at h
  · simp only [Bool.and_eq_true] at h
    obtain ⟨⟨h1, h2⟩, h3⟩ := h
    have O := (ho _ _ _ h2 X xo hN hs).e
    have I := (hi _ _ _ h3 X xo hN hs).e
    exact Snd.ofE xo hk (SndE.val (PE_imp (pe_ix (ix_all xo) O.pe I.pe (pos_plain (env := X.env) h1)) fun _ _ _ q => rd_idx q) rfl rfl fun z => by cases z)
  · cases h
theorem po_of {e : E} {x : Option Expr} {X : Cx} (h : Snd S Sm T X e .part x.toList) : PO X x (rdO S Sm e) := by
  cases x with
  | none =>
    rcases h with ⟨_, h⟩ | ⟨y, e1, _⟩
    · exact h
    · cases e1
  | some z =>
    rcases h with ⟨e1, _⟩ | ⟨y, e1, h⟩
    · cases e1
    · cases e1
      exact h
theorem snd_slc {o lo hi : E} (ho : SndAt S Sm T k arI N o) (hl : SndAt S Sm T k arI N lo) (hh : SndAt S Sm T k arI N hi) : SndAt S Sm T k arI N (.slc o lo hi) := by
  intro kd sc es h X xo hN hs
  simp only [mE, Bool.and_eq_true] at h
  obtain ⟨hk, h⟩ := h
  split at h
  · simp only [Bool.and_eq_true] at h
    obtain ⟨⟨h1, h2⟩, h3⟩ := h
    have O := (ho _ _ _ h1 X xo hN hs).e
    have L := po_of (hl _ _ _ h2 X xo hN hs)
    have U := po_of (hh _ _ _ h3 X xo hN hs)
    exact Snd.ofE xo hk (SndE.val (PE_imp (pe_slice (sl_all xo) O.pe L U) fun _ _ _ q => rd_slc q) rfl rfl fun z => by cases z)
  · cases h
theorem snd_slcL {o lo hi : E} (ho : SndAt S Sm T k arI N o) (hl : SndAt S Sm T k arI N lo) (hh : SndAt S Sm T k arI N hi) : SndAt S Sm T k arI N (.slcL o lo hi) := by
  intro kd sc es h X xo hN hs
  simp only [mE, Bool.and_eq_true] at h
  obtain ⟨hk, h⟩ := h
  split at h
  · simp only [Bool.and_eq_true] at h
    obtain ⟨⟨h1, h2⟩, h3⟩ := h
    have O := (ho _ _ _ h1 X xo hN hs).e
    have L := po_of (hl _ _ _ h2 X xo hN hs)
    have U := po_of (hh _ _ _ h3 X xo hN hs)
    exact Snd.ofE xo hk (SndE.new (PE_imp (pe_slice sl_lst O.pe L U) fun _ _ _ q => rd_slcL q) rfl rfl)
  · cases h
theorem snd_lst {as : E} (ha : SndAt S Sm T k arI N as) : SndAt S Sm T k arI N (.lst as) := by
  intro kd sc es h X xo hN hs
  simp only [mE, Bool.and_eq_true] at h
  obtain ⟨hk, h⟩ := h
  split at h
  · obtain ⟨A1, A2⟩ := ha _ _ _ h X xo hN hs
    exact Snd.ofE xo hk (SndE.new (PE_imp (pe_lst A2) fun _ _ _ q => rdL_lst q) rfl rfl)
  · cases h
theorem snd_tup {as : E} (ha : SndAt S Sm T k arI N as) : SndAt S Sm T k arI N (.tup as) := by
  intro kd sc es h X xo hN hs
  simp only [mE, Bool.and_eq_true] at h
  obtain ⟨hk, h⟩ := h
  split at h
  · obtain ⟨A1, A2⟩ := ha _ _ _ h X xo hN hs
    exact Snd.ofE xo hk (SndE.val (PE_imp (pe_tup A2) fun _ _ _ q => rd_tup q) rfl rfl fun z => by cases z)
  · cases h
theorem snd_rev {o : E} (ho : SndAt S Sm T k arI N o) : SndAt S Sm T k arI N (.rev o) := by
  intro kd sc es h X xo hN hs
  simp only [mE, Bool.and_eq_true] at h
  obtain ⟨hk, h⟩ := h
  split at h
  · have O := (ho _ _ _ h X xo hN hs).e
    exact Snd.ofE xo hk (SndE.new (PE_imp (pe_revL O.pe) fun _ _ _ q => rdL_rev q) rfl rfl)
  · cases h
theorem snd_rng1 {a : E} (ha : SndAt S Sm T k arI N a) : SndAt S Sm T k arI N (.rng1 a) := by
  intro kd sc es h X xo hN hs
  simp only [mE, Bool.and_eq_true, beq_iff_eq] at h
  obtain ⟨rfl, h⟩ := h
  split at h
  · simp only [Bool.and_eq_true, beq_iff_eq] at h
    obtain ⟨⟨⟨h1, h2⟩, h3⟩, h4⟩ := h
    subst h1
    have A := (ha _ _ _ h4 X xo hN hs).e
    exact ⟨_, rfl, rfl, fun tg _ => PI_imp (pi_range1 (gl_of hs h2) (xo.blt _ (by decide)) (pa_cons A.pe pa_nil (star_plain h3)) (star_plain h3)) fun _ _ _ q => rdI_rng1 q⟩
  · cases h
theorem snd_rng2 {a b : E} (ha : SndAt S Sm T k arI N a) (hb : SndAt S Sm T k arI N b) : SndAt S Sm T k arI N (.rng2 a b) := by
  intro kd sc es h X xo hN hs
  simp only [mE, Bool.and_eq_true, beq_iff_eq] at h
  obtain ⟨rfl, h⟩ := h
  split at h
  · simp only [Bool.and_eq_true, beq_iff_eq] at h
    obtain ⟨⟨⟨⟨⟨h1, h2⟩, h3⟩, h4⟩, h5⟩, h6⟩ := h
    subst h1
    have A := (ha _ _ _ h5 X xo hN hs).e
    have B := (hb _ _ _ h6 X xo hN hs).e
    exact ⟨_, rfl, rfl, fun tg _ => PI_imp (pi_range2 (gl_of hs h2) (xo.blt _ (by decide)) (pa_cons A.pe (pa_cons B.pe pa_nil (star_plain h4)) (star_plain h3)) (by rw [star_plain h3, star_plain h4]; rfl) (star_plain h4)) fun _ _ _ q => rdI_rng2 q⟩
  · cases h
theorem snd_zip {a b : E} (ha : SndAt S Sm T k arI N a) (hb : SndAt S Sm T k arI N b) : SndAt S Sm T k arI N (.zip a b) := by
  intro kd sc es h X xo hN hs
  simp only [mE, Bool.and_eq_true, beq_iff_eq] at h
  obtain ⟨rfl, h⟩ := h
  split at h
  · simp only [Bool.and_eq_true, beq_iff_eq] at h
    obtain ⟨⟨⟨⟨⟨h1, h2⟩, h3⟩, h4⟩, h5⟩, h6⟩ := h
    subst h1
    have A := (ha _ _ _ h5 X xo hN hs).e
    have B := (hb _ _ _ h6 X xo hN hs).e
    refine ⟨_, rfl, rfl, fun tg ht => ?_⟩
    obtain ⟨l, kk, p, rfl⟩ := ht rfl
    exact pi_zips (gl_of hs h2) (xo.blt _ (by decide)) A.pe B.pe h3 h4
  · cases h
theorem snd_idxO {i : Nat} {ix : E} (hi : SndAt S Sm T k arI N ix) : SndAt S Sm T k arI N (.idxO i ix) := by
  intro kd sc es h X xo hN hs
  simp only [mE, Bool.and_eq_true] at h
  obtain ⟨hk, h⟩ := h
  split at h
  · simp only [Bool.and_eq_true, beq_iff_eq] at h
    obtain ⟨⟨⟨⟨h1, h2⟩, h3⟩, h4⟩, h5⟩ := h
    have I := (hi _ _ _ h5 X xo hN hs).e
    exact Snd.ofE xo hk (SndE.val (PE_imp (pe_ix ix_list (pe_var (i := i) (by rw [hN]; exact h1) (by rw [hs]; exact vis_of h2) (nm1 h3) (nm2 h3)) I.pe (pos_plain (env := X.env) h4)) fun _ _ _ q => rd_idxO q) rfl rfl fun z => by cases z)
  · cases h
theorem snd_fldO {i f : Nat} : SndAt S Sm T k arI N (.fldO i f) := by
  intro kd sc es h X xo hN hs
  simp only [mE, Bool.and_eq_true] at h
  obtain ⟨hk, h⟩ := h
  split at h
  · simp only [Bool.and_eq_true, beq_iff_eq] at h
    obtain ⟨⟨⟨h1, h2⟩, h3⟩, h4⟩ := h
    subst h4
    exact Snd.ofE xo hk (SndE.val (PE_imp (pe_fld (pe_var (i := i) (by rw [hN]; exact h1) (by rw [hs]; exact vis_of h2) (nm1 h3) (nm2 h3)) (attr_base rfl)) fun _ _ _ q => rd_fldO xo q) rfl rfl fun z => by cases z)
  · cases h
theorem snd_lend {i : Nat} {e : E} (he : SndAt S Sm T k arI N e) : SndAt S Sm T k arI N (.lend i e) := by
  intro kd sc es h X xo hN hs
  simp only [mE, Bool.and_eq_true] at h
  obtain ⟨⟨hk, _⟩, h⟩ := h
  obtain ⟨x, rfl, A⟩ := he _ _ _ h X xo hN hs
  exact Snd.ofE xo hk ⟨PE_imp A.pe fun _ _ _ q => rd_lend q, fun z => PT_imp (A.pt z) fun _ _ _ q => rdT_lend q, fun z => ⟨fun wh pins s σ H Q I q => (A.pw z).run wh pins s σ H Q I (rdT_lend q)⟩, fun z => (by cases z), A.plain⟩
theorem rgV_eq {a b : Int} : rgV a b = ((List.range (b - a).toNat).map fun i => a + (i : Nat)).map V.int := by
  unfold rgV
  rw [List.map_map]
  rfl
theorem rg_reps {H : Hp} {a b : Int} {xs : List DV} (e : xs = (List.range (b - a).toNat).map fun i => .int (a + (i : Nat))) : Reps S H xs (rgV a b) := by
  rw [e, rgV_eq, show ((List.range (b - a).toNat).map fun i => DV.int (a + (i : Nat))) = ((List.range (b - a).toNat).map fun i => a + (i : Nat)).map DV.int by rw [List.map_map]; rfl]
  exact .ints _
theorem rd_lrg1 {tp : Bool} {a : E} {X : Cx} (rd : TE) (hrd : ∀ σ H Q, rd σ H Q → (if tp = true then rdE S Sm (.lrg1 tp a) σ H Q else rdL S Sm (.lrg1 tp a) σ H Q)) {σ : St} {H : Hp} {Q : VK} (h : rd σ H Q) :
    (if tp = true then tTupRg (tRg1 (rdE S Sm a)) else tLstRg (tRg1 (rdE S Sm a))) σ H Q := by
  have h := hrd _ _ _ h
  cases tp with
  | true =>
    obtain ⟨fr, Γ, Hk, QD, ok, hev, g⟩ := h
    refine ⟨fr, Γ, Hk, _, ok, hev, fun d v Hk1 H1 s1 r1 q1 => ?_⟩
    obtain ⟨n, rfl, hn, q⟩ := q1
    exact ⟨n, r1.int_inv, RgOk.of_le (by omega) (by omega) (by omega) (by omega), fun p hp => (g.step s1).newT s1.i hp (rg_reps (a := 0) (b := n) (by simp)) q⟩
  | false =>
    obtain ⟨fr, Γ, Hk, QD, ok, hev, g⟩ := h
    refine ⟨fr, Γ, Hk, _, ok, hev, fun d v Hk1 H1 s1 r1 q1 => ?_⟩
    obtain ⟨n, rfl, hn, q⟩ := q1
    exact ⟨n, r1.int_inv, RgOk.of_le (by omega) (by omega) (by omega) (by omega), fun p hp => (g.step s1).new s1.i hp (rg_reps (a := 0) (b := n) (by simp)) q⟩
theorem rd_lrg2 {tp : Bool} {a b : E} {X : Cx} (rd : TE) (hrd : ∀ σ H Q, rd σ H Q → (if tp = true then rdE S Sm (.lrg2 tp a b) σ H Q else rdL S Sm (.lrg2 tp a b) σ H Q)) {σ : St} {H : Hp} {Q : VK} (h : rd σ H Q) :
    (if tp = true then tTupRg (tRg2 (rdE S Sm a) (rdE S Sm b)) else tLstRg (tRg2 (rdE S Sm a) (rdE S Sm b))) σ H Q := by
  have h := hrd _ _ _ h
  cases tp with
  | true =>
    obtain ⟨fr, Γ, Hk, QD, ok, hev, g⟩ := h
    refine ⟨fr, Γ, Hk, _, ok, hev, fun d v Hk1 H1 s1 r1 q1 => ⟨fr, Γ, Hk1, _, ok.step s1, q1, fun e w Hk2 H2 s2 r2 q2 => ?_⟩⟩
    obtain ⟨m, n, rfl, rfl, hn, q⟩ := q2
    exact ⟨m, n, r1.int_inv, r2.int_inv, RgOk.of_le (by omega) (by omega) (by omega) (by omega), fun p hp => (g.step (s1.trans s2)).newT s2.i hp (rg_reps rfl) q⟩
  | false =>
    obtain ⟨fr, Γ, Hk, QD, ok, hev, g⟩ := h
    refine ⟨fr, Γ, Hk, _, ok, hev, fun d v Hk1 H1 s1 r1 q1 => ⟨fr, Γ, Hk1, _, ok.step s1, q1, fun e w Hk2 H2 s2 r2 q2 => ?_⟩⟩
    obtain ⟨m, n, rfl, rfl, hn, q⟩ := q2
    exact ⟨m, n, r1.int_inv, r2.int_inv, RgOk.of_le (by omega) (by omega) (by omega) (by omega), fun p hp => (g.step (s1.trans s2)).new s2.i hp (rg_reps rfl) q⟩
theorem snd_isLT {a : E} (ha : SndAt S Sm T k arI N a) : SndAt S Sm T k arI N (.isLT a) := by
  intro kd sc es h X xo hN hs
  simp only [mE, Bool.and_eq_true] at h
  obtain ⟨hk, h⟩ := h
  split at h
  · simp only [Bool.and_eq_true, beq_iff_eq] at h
    obtain ⟨⟨⟨⟨⟨⟨⟨h1, h2⟩, h3⟩, h4⟩, h5⟩, h6⟩, h7⟩, h8⟩ := h
    subst h1 h3 h5
    have A := (ha _ _ _ h8 X xo hN hs).e
    refine Snd.ofE xo hk (SndE.val (PE_imp (pe_callB (cr_isLT xo) (gl_of hs h2) (xo.blt _ (by decide)) (by decide +kernel) (pa_cons A.pe (pa_cons (pe_tup (pa_cons (pe_bltn (v := .ty "list") (gl_of hs h4) (xo.blt _ (by decide)) (show bootBuiltins "list" = some (.type "list") by decide +kernel) rfl) (pa_cons (pe_bltn (v := .ty "tuple") (gl_of hs h6) (xo.blt _ (by decide)) (show bootBuiltins "tuple" = some (.type "tuple") by decide +kernel) rfl) pa_nil rfl) rfl)) pa_nil rfl) (star_plain h7)) (by decide) (by decide) (star_plain h7) rfl) fun σ H Q q => ?_) rfl rfl fun z => by cases z)
    obtain ⟨fr, Γ, Hk, QD, ok, hev, g⟩ := q
    refine ⟨fr, Γ, Hk, _, ok, hev, fun d v Hk1 H1 s1 r1 q1 => ⟨by show 2 ≤ sizeLine; decide, fun p hp => ?_⟩⟩
    exact ⟨d, Hk1, QD, v, p, rfl, upd_same, s1.i.trans (same_new hp), r1, q1, g.step (s1.trans (Step.newO s1.i hp))⟩
  · cases h
theorem snd_cpyO {i : Nat} : SndAt S Sm T k arI N (.cpyO i) := by
  intro kd sc es h X xo hN hs
  simp only [mE, Bool.and_eq_true] at h
  obtain ⟨hk, h⟩ := h
  split at h
  · simp only [Bool.and_eq_true, beq_iff_eq] at h
    obtain ⟨⟨⟨⟨h0, h1⟩, h2⟩, h3⟩, h4⟩ := h
    subst h0
    refine Snd.ofE xo hk (SndE.new (PE_imp (pe_callTy call_list_of (gl_of hs h1) (xo.blt _ (by decide)) (by decide +kernel) (pa_cons (pe_var (i := i) (by rw [hN]; exact h2) (by rw [hs]; exact vis_of h3) (nm1 h4) (nm2 h4)) pa_nil)) fun σ H Q q => ?_) rfl rfl)
    obtain ⟨fr, Γ, Hk, QD, ok, ⟨xs, e, q⟩, g⟩ := q
    obtain ⟨p, vs, sv, hp, _, _, r⟩ := ok.ownL e
    exact ⟨.ref p, sv, p, vs, rfl, .inl (.inl (.inl hp)), fun q' hq' => g.new ok.st.i hq' r q⟩
  · cases h
theorem snd_sset {a : E} (ha : SndAt S Sm T k arI N a) : SndAt S Sm T k arI N (.sset a) := by
  intro kd sc es h X xo hN hs
  simp only [mE, Bool.and_eq_true] at h
  obtain ⟨hk, h⟩ := h
  split at h
  · simp only [Bool.and_eq_true, beq_iff_eq] at h
    obtain ⟨⟨⟨⟨⟨h1, h2⟩, h3⟩, h4⟩, h5⟩, h6⟩ := h
    subst h1 h3
    have A := (ha _ _ _ h6 X xo hN hs).e
    refine Snd.ofE xo hk (SndE.new (PE_imp (pe_sset xo.calm (gl_of hs h2) (xo.blt _ (by decide)) (gl_of hs h4) (xo.blt _ (by decide)) A.pe (star_plain h5)) fun σ H Q q => ?_) rfl rfl)
    obtain ⟨fr, Γ, Hk, QD, ok, hev, g⟩ := q
    refine ⟨fr, Γ, Hk, _, ok, hev, fun d v Hk1 H1 s1 r1 q1 => ?_⟩
    obtain ⟨ns, hd, hl, q⟩ := q1
    have fin : ∀ (ms : List Int) (p : Addr), (∀ x, x ∈ ms ↔ x ∈ ns) → ms.Pairwise (· < ·) → H1 p = none → Q (.ref p) (upd H1 p (.lst (ms.map V.int))) := fun ms p h1 h2 hp => (g.step s1).new s1.i hp (.ints ms) (q ms h1 h2)
    rcases hd with rfl | rfl
    · cases r1 with
      | lst h1 r2 =>
        rw [Reps.ints_inv r2] at h1
        exact ⟨_, ns, rfl, .inl (.inl (same_rd s1.i h1)), hl, fin⟩
    · cases r1 with
      | tup h1 r2 =>
        rw [Reps.ints_inv r2] at h1
        exact ⟨_, ns, rfl, .inr (same_t s1.i (by rw [xo.K]; exact h1)), hl, fin⟩
  · cases h
theorem snd_lrg1 {tp : Bool} {a : E} (ha : SndAt S Sm T k arI N a) : SndAt S Sm T k arI N (.lrg1 tp a) := by
  intro kd sc es h X xo hN hs
  simp only [mE, Bool.and_eq_true] at h
  obtain ⟨hk, h⟩ := h
  split at h
  · simp only [Bool.and_eq_true, beq_iff_eq] at h
    obtain ⟨⟨⟨⟨⟨h1, h2⟩, h3⟩, h4⟩, h5⟩, h6⟩ := h
    subst h3
    have A := (ha _ _ _ h6 X xo hN hs).e
    cases tp with
    | true =>
      subst h1
      exact Snd.ofE xo hk (SndE.val (PE_imp (pe_tupRg xo.calm (gl_of hs h2) (xo.blt _ (by decide)) (prg_1 (gl_of hs h4) (xo.blt _ (by decide)) A.pe (star_plain h5))) fun _ _ _ q => rd_lrg1 (tp := true) (X := X) _ (fun _ _ _ z => z) q) rfl rfl fun z => by cases z)
    | false =>
      subst h1
      exact Snd.ofE xo hk (SndE.new (PE_imp (pe_listRg xo.calm (gl_of hs h2) (xo.blt _ (by decide)) (prg_1 (gl_of hs h4) (xo.blt _ (by decide)) A.pe (star_plain h5))) fun _ _ _ q => rd_lrg1 (tp := false) (X := X) _ (fun _ _ _ z => z) q) rfl rfl)
  · cases h
theorem snd_lrg2 {tp : Bool} {a b : E} (ha : SndAt S Sm T k arI N a) (hb : SndAt S Sm T k arI N b) : SndAt S Sm T k arI N (.lrg2 tp a b) := by
  intro kd sc es h X xo hN hs
  simp only [mE, Bool.and_eq_true] at h
  obtain ⟨hk, h⟩ := h
  split at h
  · simp only [Bool.and_eq_true, beq_iff_eq] at h
    obtain ⟨⟨⟨⟨⟨⟨⟨h1, h2⟩, h3⟩, h4⟩, h5⟩, h6⟩, h7⟩, h8⟩ := h
    subst h3
    have A := (ha _ _ _ h7 X xo hN hs).e
    have B := (hb _ _ _ h8 X xo hN hs).e
    cases tp with
    | true =>
      subst h1
      exact Snd.ofE xo hk (SndE.val (PE_imp (pe_tupRg xo.calm (gl_of hs h2) (xo.blt _ (by decide)) (prg_2 (gl_of hs h4) (xo.blt _ (by decide)) A.pe B.pe (star_plain h5) (star_plain h6) (back_plain (by simp [h6])))) fun _ _ _ q => rd_lrg2 (tp := true) (X := X) _ (fun _ _ _ z => z) q) rfl rfl fun z => by cases z)
    | false =>
      subst h1
      exact Snd.ofE xo hk (SndE.new (PE_imp (pe_listRg xo.calm (gl_of hs h2) (xo.blt _ (by decide)) (prg_2 (gl_of hs h4) (xo.blt _ (by decide)) A.pe B.pe (star_plain h5) (star_plain h6) (back_plain (by simp [h6])))) fun _ _ _ q => rd_lrg2 (tp := false) (X := X) _ (fun _ _ _ z => z) q) rfl rfl)
  · cases h
theorem snd_glb {j : Nat} {n : Int} : SndAt S Sm T k arI N (.glb j n) := by
  intro kd sc es h X xo hN hs
  simp only [mE, Bool.and_eq_true] at h
  obtain ⟨hk, h⟩ := h
  split at h
  · simp only [Bool.and_eq_true, beq_iff_eq] at h
    obtain ⟨⟨h1, h2⟩, h3⟩ := h
    obtain ⟨u, hm, r⟩ := xo.glb _ _ _ h1
    refine Snd.ofE xo hk (SndE.val (PE_imp (pe_glob (gl_of hs h2) hm r (nm1 h3)) fun _ _ _ q => ?_) rfl rfl fun z => by cases z)
    obtain ⟨fr, Γ, Hk, QD, ok, q, g⟩ := q
    exact g.here ok.st.i .int q
  · cases h
theorem snd_ownI {i : Nat} : SndAt S Sm T k arI N (.ownI i) := by
  intro kd sc es h X xo hN hs
  simp only [mE, Bool.and_eq_true, beq_iff_eq] at h
  obtain ⟨hk, h⟩ := h
  subst hk
  split at h
  · simp only [Bool.and_eq_true, beq_iff_eq] at h
    obtain ⟨⟨h1, h2⟩, h3⟩ := h
    refine ⟨_, rfl, rfl, fun tg _ => PI_imp (pi_list (pe_var (i := i) (by rw [hN]; exact h1) (by rw [hs]; exact vis_of h2) (nm1 h3) (nm2 h3))) fun σ H R q => ?_⟩
    obtain ⟨fr, Γ, Hk, QI, ok, ⟨xs, e, ys, e2, hq⟩, g⟩ := q
    cases Option.some.inj e2
    obtain ⟨p, vs, sv, hp, hk, h0, r⟩ := ok.ownL e
    refine ⟨.ref p, sv, p, rfl, ⟨vs, .inl (.inl hp)⟩, ?_⟩
    rw [xo.K]
    exact g xs _ Hk H (Step.refl ok.st.i) (walkD_own hp r) hq
  · cases h
theorem snd_lenO {i : Nat} : SndAt S Sm T k arI N (.lenO i) := by
  intro kd sc es h X xo hN hs
  simp only [mE, Bool.and_eq_true] at h
  obtain ⟨hk, h⟩ := h
  split at h
  · simp only [Bool.and_eq_true, beq_iff_eq] at h
    obtain ⟨⟨⟨⟨h0, h1⟩, h2⟩, h3⟩, h4⟩ := h
    exact Snd.ofE xo hk (SndE.val (pe_lenO xo h0 (gl_of hs h1) (pe_var (i := i) (by rw [hN]; exact h2) (by rw [hs]; exact vis_of h3) (nm1 h4) (nm2 h4))) rfl rfl fun z => by cases z)
  · cases h
theorem snd_inO {neg : Bool} {a : E} {i : Nat} (ha : SndAt S Sm T k arI N a) : SndAt S Sm T k arI N (.inO neg a i) := by
  intro kd sc es h X xo hN hs
  simp only [mE, Bool.and_eq_true] at h
  obtain ⟨hk, h⟩ := h
  split at h
  · rename_i y op x p1 p2
    simp only [Bool.and_eq_true, beq_iff_eq] at h
    obtain ⟨⟨⟨⟨h0, h1⟩, h2⟩, h3⟩, h4⟩ := h
    have A := (ha _ _ _ h4 X xo hN hs).e
    have V := pe_var (X := X) (pos := p1) (i := i) (by rw [hN]; exact h1) (by rw [hs]; exact vis_of h2) (nm1 h3) (nm2 h3)
    have hop : OpR X (compareOp op) (rIn X.K neg) := by
      rw [h0]
      cases neg
      · exact op_in_seq
      · exact op_notIn_seq
    exact Snd.ofE xo hk ⟨PE_imp (pe_cmpR hop A.pe V rfl) fun _ _ _ q => rd_inO q, fun _ => PT_imp (pt_cmpR hop A.pe V rfl) fun _ _ _ q => rd_inO (rdT_E q), fun z => (by cases z), fun z => (by cases z), rfl⟩
  · cases h

/-! ### comprehensions -/
theorem XOk.blk {X : Cx} (xo : XOk S Sm T k arI X) (s : Shared) (H : Hp) (scope : Scope) (ce : PySem.Env) (fp : List Addr) : XOk S Sm T k arI (X.blk s H scope ce fp) :=
  { xo with fns := fun f x h => by
              obtain ⟨a, h1, h2, ⟨h3⟩⟩ := xo.fns f x h
              exact ⟨a, h1, h2, ⟨h3⟩⟩
            mth := fun c m f h => by
              obtain ⟨h1, ⟨a, h2, ⟨h3⟩⟩, h4⟩ := xo.mth c m f h
              exact ⟨h1, ⟨a, h2, ⟨h3⟩⟩, h4⟩
            calm := xo.calm
            mks := xo.mks }
theorem blk_scope {X : Cx} {sc scope : Scope} (hs : X.env.scope = sc) (cl : List (Str × Addr)) (C : Addr) : (compEnvC scope cl C X.env).scope = relS scope sc := by
  subst hs
  show relabel scope X.env = relS scope X.env.scope
  rfl
theorem pg_of {tg : Tg} {g : Expr} {sc : Scope} {X : Cx} (hc : X.calm = true) (nd : X.N.Nodup) (hN : X.N = N) (hl : ∀ x, locB sc x = true → L2.Loc X.env.scope x) (hf : ∀ x, locB sc x = true → X.fn x = true ∨ X.env.scope.names.lookup x = some .local) (h : tgB N sc tg g = true) : PG X g (gT X.K tg) := by
  cases tg with
  | one i =>
    cases g <;> first | (cases h; done) | skip
    simp only [tgB, Bool.and_eq_true, beq_iff_eq] at h
    exact pg_name nd (by rw [hN]; exact h.1) (hl _ h.2) (hf _ h.2)
  | two i j =>
    cases g <;> first | (cases h; done) | skip
    rename_i es kk p
    rcases es with _ | ⟨e1, _ | ⟨e2, _ | ⟨e3, r⟩⟩⟩
    · cases h
    · cases e1 <;> cases h
    · cases e1 <;> first | (cases h; done) | skip
      cases e2 <;> first | (cases h; done) | skip
      simp only [tgB, Bool.and_eq_true, beq_iff_eq] at h
      obtain ⟨⟨⟨h1, h2⟩, h3⟩, h4⟩ := h
      exact pg_tup hc (pgs_cons (pg_name nd (by rw [hN]; exact h1) (hl _ h2) (hf _ h2)) (pgs_cons (pg_name nd (by rw [hN]; exact h3) (hl _ h4) (hf _ h4)) pgs_nil))
    · cases e1 <;> first | (cases h; done) | skip
      cases e2 <;> cases h
theorem rel_loc {scope sc : Scope} {x : Str} {kd : NameKind} (hk : kd = .local ∨ kd = .cell) : ∀ {names : List (Str × NameKind)}, names.lookup x = some kd →
    (names.map fun (n, k) => if (k == NameKind.free && sc.kind == .function && sc.names.lookup n == some .cell) then (n, NameKind.cell) else (n, k)).lookup x = some kd
  | [], h => by simp at h
  | (n, k0) :: r, h => by
    rw [List.lookup_cons] at h
    rw [List.map_cons]
    by_cases e : x = n
    · subst e
      simp only [beq_self_eq_true] at h
      cases Option.some.inj h
      have : (kd == NameKind.free) = false := by
        rcases hk with z | z <;> rw [z] <;> rfl
      simp only [this, Bool.false_and, Bool.false_eq_true, if_false]
      rw [List.lookup_cons]
      simp
    · have e' : (x == n) = false := beq_eq_false_iff_ne.mpr e
      simp only [e'] at h
      have ih := rel_loc (scope := scope) (sc := sc) hk h
      have : ∀ kk : NameKind, List.lookup x ((n, kk) :: r.map fun (n, k) => if (k == NameKind.free && sc.kind == .function && sc.names.lookup n == some .cell) then (n, NameKind.cell) else (n, k)) = some kd := fun kk => by
        rw [List.lookup_cons]
        simp only [e']
        exact ih
      dsimp only
      split
      · exact this _
      · exact this _
theorem loc_kind {sc : Scope} {x : Str} (h : locB sc x = true) : ∃ kd, (kd = NameKind.local ∨ kd = NameKind.cell) ∧ sc.names.lookup x = some kd := by
  rcases loc_of h with z | z
  · exact ⟨_, .inl rfl, z⟩
  · exact ⟨_, .inr rfl, z⟩
theorem blk_loc {scope sc : Scope} {x : Str} (h : locB scope x = true) : L2.Loc (relS scope sc) x := by
  obtain ⟨kd, hk, e⟩ := loc_kind h
  have q := rel_loc (scope := scope) (sc := sc) hk e
  rcases hk with rfl | rfl
  · exact .inl q
  · exact .inr q
theorem blk_fn {X : Cx} {s : Shared} {H : Hp} {scope : Scope} {ce : PySem.Env} {fp : List Addr} {sc : Scope} (hs : ce.scope = relS scope sc) (x : Str) (h : locB scope x = true) :
    (X.blk s H scope ce fp).fn x = true ∨ (X.blk s H scope ce fp).env.scope.names.lookup x = some .local := by
  obtain ⟨kd, hk, e⟩ := loc_kind h
  rcases hk with rfl | rfl
  · refine .inr ?_
    show ce.scope.names.lookup x = _
    rw [hs]
    exact rel_loc (scope := scope) (sc := sc) (.inl rfl) e
  · refine .inl ?_
    show (scope.names.lookup x == some .cell) = true
    rw [e]
    rfl
structure LcParts (S : Sg) (Sm : Sem) (X : Cx) (tg : Tg) (it tst elt : E) (e g i : Expr) (ifs : List Expr) (scope : Scope) : Prop where
  pi : PI X g i (rdI S Sm it)
  bk : BlkOk X.N X.env.scope scope (ownOf X.N tg)
  pg : ∀ (s : Shared) (H : Hp) (C : Addr) (cl : List (Str × Addr)) (fp : List Addr), PG (X.blk s H scope (compEnvC scope cl C X.env) fp) g (gT X.K tg)
  pt : ∀ (s : Shared) (H : Hp) (C : Addr) (cl : List (Str × Addr)) (fp : List Addr), PTs (X.blk s H scope (compEnvC scope cl C X.env) fp) ifs (tT S Sm tst)
  pe : ∀ (s : Shared) (H : Hp) (C : Addr) (cl : List (Str × Addr)) (fp : List Addr), PE (X.blk s H scope (compEnvC scope cl C X.env) fp) e (rdE S Sm elt)
  pl : plainE i = true
theorem own_slots {N : List Str} {tg : Tg} : (ownOf N tg).map (·.2) = tg.slots := by
  unfold ownOf
  rw [List.map_map]
  exact List.map_id _
theorem lc_parts {tg : Tg} {it tst elt : E} (hi : SndAt S Sm T k arI N it) (ht : SndAt S Sm T k arI N tst) (he : SndAt S Sm T k arI N elt) {kd : Kd} {sc : Scope} {es : List Expr} (h : mE T N (.lc tg it tst elt) kd sc es = true) {X : Cx} (xo : XOk S Sm T k arI X) (hN : X.N = N) (hs : X.env.scope = sc) :
    kd.isE = true ∧ ∃ e g i ifs scope p, es = [.ListComp e [⟨g, i, ifs, 0⟩] scope p] ∧ LcParts S Sm X tg it tst elt e g i ifs scope := by
  simp only [mE, Bool.and_eq_true] at h
  obtain ⟨hk, h⟩ := h
  split at h
  · rename_i e g i ifs scope p
    simp only [Bool.and_eq_true, Bool.or_eq_true, Bool.not_eq_true'] at h
    obtain ⟨⟨⟨⟨⟨⟨h1, h2⟩, h3⟩, h4⟩, h5⟩, h6⟩, h7⟩ := h
    have BK := blkOk_by h4
    obtain ⟨i', e1, hp, I⟩ := hi _ _ _ h2 X xo hN hs
    cases e1
    have hsc : ∀ (cl : List (Str × Addr)) (C : Addr), (compEnvC scope cl C X.env).scope = relS scope sc := fun cl C => blk_scope hs cl C
    refine ⟨hk, e, g, i, ifs, scope, p, rfl, I g fun hz => ?_, by rw [hN, hs]; exact BK, fun s H C cl fp => ?_, fun s H C cl fp => ?_, fun s H C cl fp => ?_, h1⟩
    · rcases h3 with h3 | h3
      · rw [h3] at hz
        cases hz
      · cases tg with
        | one i => cases h3
        | two i j =>
          cases g <;> first | exact ⟨_, _, _, rfl⟩ | cases h5
    · exact pg_of (X := X.blk s H scope (compEnvC scope cl C X.env) fp) xo.calm xo.nd hN (fun x hx => by rw [show (X.blk s H scope (compEnvC scope cl C X.env) fp).env.scope = relS scope sc from hsc cl C]; exact blk_loc hx) (fun x hx => blk_fn (hsc cl C) x hx) h5
    · rcases ifs with _ | ⟨c, _ | ⟨d, r⟩⟩
      · cases tst <;> first | exact pts_nil | cases h7
      · have gen : tst ≠ .tt → tstOk tst = true → mE T N tst .ex (relS scope sc) [c] = true → PTs (X.blk s H scope (compEnvC scope cl C X.env) fp) [c] (rdT S Sm tst) := fun _ z1 z2 =>
          pts_one ((ht _ _ _ z2 (X.blk s H scope (compEnvC scope cl C X.env) fp) (xo.blk s H scope _ fp) hN (hsc cl C)).e.pt z1)
        cases tst <;> first | (cases h7; done) | (simp only [Bool.and_eq_true] at h7; exact gen (fun z => nomatch z) h7.1 h7.2)
      · cases tst <;> cases h7
    · exact (he _ _ _ h6 (X.blk s H scope (compEnvC scope cl C X.env) fp) (xo.blk s H scope _ fp) hN (hsc cl C)).e.pe
  · cases h
theorem snd_lc {tg : Tg} {it tst elt : E} (hi : SndAt S Sm T k arI N it) (ht : SndAt S Sm T k arI N tst) (he : SndAt S Sm T k arI N elt) : SndAt S Sm T k arI N (.lc tg it tst elt) := by
  intro kd sc es h X xo hN hs
  obtain ⟨hk, e, g, i, ifs, scope, p, rfl, L⟩ := lc_parts hi ht he h xo hN hs
  have P := pe_lc (pos := p) xo.calm xo.nd L.pi L.bk L.pg L.pt L.pe (fold_plain L.pl)
  rw [own_slots] at P
  exact Snd.ofE xo hk (SndE.new (PE_imp P fun _ _ _ q => rdL_lc xo q) rfl rfl)

structure Lc2Parts (S : Sg) (Sm : Sem) (X : Cx) (tg : Tg) (it : E) (tg1 : Tg) (it1 elt : E) (e g i g1 i1 : Expr) (scope : Scope) : Prop where
  pi : PI X g i (rdI S Sm it)
  bk : BlkOk X.N X.env.scope scope (ownOf X.N tg ++ ownOf X.N tg1)
  pg : ∀ (s : Shared) (H : Hp) (C : Addr) (cl : List (Str × Addr)) (fp : List Addr), PG (X.blk s H scope (compEnvC scope cl C X.env) fp) g (gT X.K tg)
  pi1 : ∀ (s : Shared) (H : Hp) (C : Addr) (cl : List (Str × Addr)) (fp : List Addr), PI (X.blk s H scope (compEnvC scope cl C X.env) fp) g1 i1 (rdI S Sm it1)
  pg1 : ∀ (s : Shared) (H : Hp) (C : Addr) (cl : List (Str × Addr)) (fp : List Addr), PG (X.blk s H scope (compEnvC scope cl C X.env) fp) g1 (gT X.K tg1)
  pe : ∀ (s : Shared) (H : Hp) (C : Addr) (cl : List (Str × Addr)) (fp : List Addr), PE (X.blk s H scope (compEnvC scope cl C X.env) fp) e (rdE S Sm elt)
  pl : plainE i = true
  pl1 : plainE i1 = true
  no : isOwnI it1 = false
theorem own_slots2 {N : List Str} {tg tg1 : Tg} : (ownOf N tg ++ ownOf N tg1).map (·.2) = tg.slots ++ tg1.slots := by rw [List.map_append, own_slots, own_slots]
theorem lc2_parts {tg tg1 : Tg} {it it1 elt : E} (hi : SndAt S Sm T k arI N it) (hi1 : SndAt S Sm T k arI N it1) (he : SndAt S Sm T k arI N elt) {kd : Kd} {sc : Scope} {es : List Expr} (h : mE T N (.lc2 tg it tg1 it1 elt) kd sc es = true) {X : Cx} (xo : XOk S Sm T k arI X) (hN : X.N = N) (hs : X.env.scope = sc) :
    kd.isE = true ∧ ∃ e g i g1 i1 scope p, es = [.ListComp e [⟨g, i, [], 0⟩, ⟨g1, i1, [], 0⟩] scope p] ∧ Lc2Parts S Sm X tg it tg1 it1 elt e g i g1 i1 scope := by
  simp only [mE, Bool.and_eq_true] at h
  obtain ⟨hk, h⟩ := h
  split at h
  · rename_i e g i g1 i1 scope p
    simp only [Bool.and_eq_true, Bool.not_eq_true'] at h
    obtain ⟨⟨⟨⟨⟨⟨⟨⟨⟨⟨h1, h2⟩, h3⟩, h4⟩, h5⟩, h6⟩, h7⟩, h8⟩, h9⟩, h10⟩, h11⟩ := h
    have BK := blkOk_by h7
    have hsc : ∀ (cl : List (Str × Addr)) (C : Addr), (compEnvC scope cl C X.env).scope = relS scope sc := fun cl C => blk_scope hs cl C
    obtain ⟨i', e1, hp, I⟩ := hi _ _ _ h3 X xo hN hs
    cases e1
    have PG : ∀ {tg : Tg} {g : Expr}, tgB N scope tg g = true → ∀ (s : Shared) (H : Hp) (C : Addr) (cl : List (Str × Addr)) (fp : List Addr), PG (X.blk s H scope (compEnvC scope cl C X.env) fp) g (gT X.K tg) := fun h s H C cl fp =>
      pg_of (X := X.blk s H scope (compEnvC scope cl C X.env) fp) xo.calm xo.nd hN (fun x hx => by rw [show (X.blk s H scope (compEnvC scope cl C X.env) fp).env.scope = relS scope sc from hsc cl C]; exact blk_loc hx) (fun x hx => blk_fn (hsc cl C) x hx) h
    exact ⟨hk, e, g, i, g1, i1, scope, p, rfl, I g fun hz => (by rw [h4] at hz; cases hz), (by rw [hN, hs]; exact BK), PG h8, fun s H C cl fp => (by
        obtain ⟨i2, e2, hp2, I2⟩ := hi1 _ _ _ h10 (X.blk s H scope (compEnvC scope cl C X.env) fp) (xo.blk s H scope _ fp) hN (hsc cl C)
        cases e2
        exact I2 g1 fun hz => by rw [h5] at hz; cases hz), PG h9, fun s H C cl fp => (he _ _ _ h11 (X.blk s H scope (compEnvC scope cl C X.env) fp) (xo.blk s H scope _ fp) hN (hsc cl C)).e.pe, h1, h2, h6⟩
  · cases h
theorem snd_lc2 {tg tg1 : Tg} {it it1 elt : E} (hi : SndAt S Sm T k arI N it) (hi1 : SndAt S Sm T k arI N it1) (he : SndAt S Sm T k arI N elt) : SndAt S Sm T k arI N (.lc2 tg it tg1 it1 elt) := by
  intro kd sc es h X xo hN hs
  obtain ⟨hk, e, g, i, g1, i1, scope, p, rfl, L⟩ := lc2_parts hi hi1 he h xo hN hs
  have P := pe_lc2 (X := X) (pos := p) (vs1 := tg1.slots) xo.calm xo.nd L.pi L.bk (fun j hj => by rw [own_slots2]; exact List.mem_append_right _ hj) L.pg (fun s H C cl fp => pts_nil) L.pi1 L.pg1 (fun s H C cl fp => pts_nil) L.pe (fold_plain L.pl) (fun env => fold_plain L.pl1)
  rw [own_slots2] at P
  exact Snd.ofE xo hk (SndE.new (PE_imp P fun _ _ _ q => rdL_lc2 xo L.no q) rfl rfl)

theorem mE_sound : ∀ e : E, SndAt S Sm T k arI N e
  | .nil => snd_nil
  | .cons a r => snd_cons (mE_sound a) (mE_sound r)
  | .k d => snd_k
  | .var i => snd_var
  | .bin o a b => snd_bin (mE_sound a) (mE_sound b)
  | .un o a => snd_un (mE_sound a)
  | .cmp o a b => snd_cmp (mE_sound a) (mE_sound b)
  | .chain o p a b c => snd_chain (mE_sound a) (mE_sound b) (mE_sound c)
  | .band a b => snd_and (mE_sound a) (mE_sound b)
  | .bor a b => snd_or (mE_sound a) (mE_sound b)
  | .bnot a => snd_not (mE_sound a)
  | .ife t a b => snd_ife (mE_sound t) (mE_sound a) (mE_sound b)
  | .call f as => snd_call (mE_sound as)
  | .mk c as => snd_mk (mE_sound as)
  | .bi b as => snd_bi (mE_sound as)
  | .isi a t => snd_isi (mE_sound a)
  | .bm m o a => snd_bm (mE_sound o) (mE_sound a)
  | .om m o as => snd_om (mE_sound o) (mE_sound as)
  | .fld o f => snd_fld (mE_sound o)
  | .idx o i => snd_idx (mE_sound o) (mE_sound i)
  | .slc o lo hi => snd_slc (mE_sound o) (mE_sound lo) (mE_sound hi)
  | .part a => snd_part (mE_sound a)
  | .nopart => snd_nopart
  | .rev o => snd_rev (mE_sound o)
  | .lst as => snd_lst (mE_sound as)
  | .tup as => snd_tup (mE_sound as)
  | .lc tg it tst elt => snd_lc (mE_sound it) (mE_sound tst) (mE_sound elt)
  | .lc2 tg it tg1 it1 elt => snd_lc2 (mE_sound it) (mE_sound it1) (mE_sound elt)
  | .tt => fun kd sc es h => by simp [mE] at h
  | .catL a b => snd_cat (mE_sound a) (mE_sound b)
  | .repL a b => snd_rep (mE_sound a) (mE_sound b)
  | .slcL o lo hi => snd_slcL (mE_sound o) (mE_sound lo) (mE_sound hi)
  | .rng1 a => snd_rng1 (mE_sound a)
  | .rng2 a b => snd_rng2 (mE_sound a) (mE_sound b)
  | .rng3 a b c => fun kd sc es h => by simp [mE] at h
  | .zip a b => snd_zip (mE_sound a) (mE_sound b)
  | .idxO i ix => snd_idxO (mE_sound ix)
  | .fldO i f => snd_fldO
  | .lenO i => snd_lenO
  | .ownI i => snd_ownI
  | .lend i e => snd_lend (mE_sound e)
  | .glb j n => snd_glb
  | .sset a => snd_sset (mE_sound a)
  | .isLT a => snd_isLT (mE_sound a)
  | .cpyO i => snd_cpyO
  | .lrg1 tp a => snd_lrg1 (mE_sound a)
  | .lrg2 tp a b => snd_lrg2 (mE_sound a) (mE_sound b)
  | .inO neg a i => snd_inO (mE_sound a)
end
end Vg


set_option Elab.async false
set_option linter.all false
set_option maxRecDepth 100000
set_option maxHeartbeats 8000000
/-! Vg: statements -/
namespace Vg
open PySem L2

/-- does the machine swap names for this value and target -/
def swapB (sc : Scope) (y : Str) (py : Pos) : Expr → Bool
  | .ListComp _ _ scope pos => (match sc.names.lookup y with | some .local => true | _ => false) && (py.line == pos.line) && !(scope.names.any fun (n, k) => n == y && (k == .local || k == .cell))
  | _ => false
def augOp (o : Operator) : Bool := o == .Add || o == .Sub

def mS (T : Nm) (N : List Str) : Cm → Scope → List Stmt → Bool
  | .nop, _, ss => match ss with
    | [] => true
    | [.Pass _] => true
    | _ => false
  | .seq a b, sc, ss => match ss with
    | s :: t :: r => mS T N a sc [s] && mS T N b sc (t :: r)
    | _ => false
  | .frz _ b, sc, ss => mS T N b sc ss
  | .asg i e, sc, ss => match ss with
    | [.Assign [.Name x _] v _] => N[i]? == some x && locB sc x && mE T N e .ex sc [v]
    | _ => false
  | .asgO i e, sc, ss => match ss with
    | [.Assign [.Name x _] v _] => N[i]? == some x && locB sc x && newE T e && mE T N e .ex sc [v]
    | _ => false
  | .asg2 i j e, sc, ss => match ss with
    | [.Assign [.Tuple [.Name x p, .Name y q] kk r] v _] => tgB N sc (.two i j) (.Tuple [.Name x p, .Name y q] kk r) && mE T N e .ex sc [v] && (match v with | .Tuple _ _ _ => false | .ListComp _ _ _ _ => false | _ => true)
    | _ => false
  | .par _ _ _ _, _, _ => false
  | .aug i o e, sc, ss => match ss with
    | [.AugAssign (.Name x _) op v _] => op == o && augOp o && N[i]? == some x && locB sc x && mE T N e .ex sc [v]
    | _ => false
  | .app i e, sc, ss => match ss with
    | [.Expr (.Call (.Attribute (.Name x _) m ap) [v] [] p) _] => m == "append" && N[i]? == some x && visB sc x && nmB x && (ap.endLine == p.line) && plainE v && mE T N e .ex sc [v]
    | _ => false
  | .seti i ix e, sc, ss => match ss with
    | [.Assign [.Subscript (.Name x _) y _] v _] => N[i]? == some x && visB sc x && nmB x && mE T N ix .ex sc [y] && mE T N e .ex sc [v]
    | _ => false
  | .fset i f e, sc, ss => match ss with
    | [.Assign [.Attribute (.Name x _) m _] v _] => m == T.fid f && N[i]? == some x && visB sc x && nmB x && mE T N e .ex sc [v] && (match v with | .ListComp _ _ _ _ => false | .Tuple _ _ _ => false | _ => true)
    | _ => false
  | .drop e, sc, ss => match ss with
    | [.Expr v _] => mE T N e .ex sc [v] && (match v with | .ListComp _ _ _ _ => false | _ => true)
    | _ => false
  | .ret e, sc, ss => match ss with
    | [.Return (some v) _] => mE T N e .ex sc [v]
    | _ => false
  | .retO i, sc, ss => match ss with
    | [.Return (some (.Name x _)) _] => N[i]? == some x && visB sc x && nmB x
    | _ => false
  | .retF e, sc, ss => match ss with
    | [.Return (some v) _] => newE T e && mE T N e .ex sc [v]
    | _ => false
  | .retN, _, ss => match ss with
    | [.Return none _] => true
    | _ => false
  | .ite t a b, sc, ss => match ss with
    | [.If c x y _] => tstOk t && mE T N t .ex sc [c] && mS T N a sc x && mS T N b sc y
    | _ => false
  | .for_ tg it b, sc, ss => match ss with
    | [.For g i body [] _] => plainE i && !isOwnI it && mE T N it .it sc [i] && (!isZip it || isTwo tg) && tgB N sc tg g && mS T N b sc body
    | _ => false
  | .while_ t b, sc, ss => match ss with
    | [.While c body [] _] => tstOk t && mE T N t .ex sc [c] && mS T N b sc body
    | _ => false
  | .brk, _, ss => match ss with
    | [.Break _] => true
    | _ => false
  | .cnt, _, ss => match ss with
    | [.Continue _] => true
    | _ => false
  | .never, _, ss => match ss with
    | [_] => true
    | _ => false

/-- the wished ends, in a heap -/
structure EndsOk (S : Sg) (fr : Fr) (DD : DE) (D : Ends) : Prop where
  nx : ∀ Γ Hk σ H, StOk S fr Γ Hk σ H → DD.nx Γ → D.nx σ H
  rt : ∀ d v Hk H, Step fr.K0 fr.H0 Hk H → Rep S Hk d v → DD.rt d → D.rt v H
  ro : ∀ ds p vs Hk H, Step fr.K0 fr.H0 Hk H → fr.H0 p = none → Hk p = none → H p = some (.lst vs) → Reps S Hk ds vs → DD.ro ds → D.rt (.ref p) H
  bk : ∀ Γ Hk σ H, StOk S fr Γ Hk σ H → DD.bk Γ → D.bk σ H
  ct : ∀ Γ Hk σ H, StOk S fr Γ Hk σ H → DD.ct Γ → D.ct σ H
def rdS (S : Sg) (Sm : Sem) (c : Cm) : TS := fun D σ H => ∃ fr Γ Hk DD, StOk S fr Γ Hk σ H ∧ ex Sm c Γ DD ∧ EndsOk S fr DD D

section
variable {S : Sg} {Sm : Sem} {T : Nm} {k : Nat} {arI : Nat → Nat} {X : Cx} {σ : St} {H : Hp} {D : Ends}
theorem rs_asg {i : Nat} {e : E} (h : rdS S Sm (.asg i e) D σ H) : tAsg (rdE S Sm e) (gName i) D σ H := by
  obtain ⟨fr, Γ, Hk, DD, ok, hev, en⟩ := h
  exact ⟨fr, Γ, Hk, _, ok, hev, fun d v Hk1 H1 s1 r1 q1 => en.nx _ _ _ _ ((ok.step s1).setV r1) q1⟩
theorem rs_asgO {i : Nat} {e : E} (h : rdS S Sm (.asgO i e) D σ H) : tAsg (rdL S Sm e) (gName i) D σ H := by
  obtain ⟨fr, Γ, Hk, DD, ok, hev, en⟩ := h
  refine ⟨fr, Γ, Hk, _, ok, hev, fun ds p vs Hk1 H1 s1 h0 h1 h2 r1 q1 => ?_⟩
  obtain ⟨xs, e1, q⟩ := q1
  cases e1
  have ok1 := ok.step s1
  refine en.nx _ _ _ _ (ok1.setB (b := .own ds) (v := .ref p) ⟨p, vs, rfl, h2, h1, ok.st.h.free h0, r1⟩ fun _ j c q ne ej oc e1 sj => ?_) q
  cases e1
  obtain ⟨w, sw, bw⟩ := ok.sl j c ej
  rw [sj] at sw
  cases sw
  cases c with
  | val d => cases oc
  | own ys =>
    obtain ⟨q, us, e2, g1, _⟩ := bw
    cases e2
    rw [h0] at g1
    cases g1
  | obj c' ys =>
    obtain ⟨q, dx, fs, e2, g1, _⟩ := bw
    cases e2
    rw [h0] at g1
    cases g1
theorem rs_asg2 {i j : Nat} {e : E} (xo : XOk S Sm T k arI X) (h : rdS S Sm (.asg2 i j e) D σ H) : tAsg (rdE S Sm e) (gT X.K (.two i j)) D σ H := by
  obtain ⟨fr, Γ, Hk, DD, ok, hev, en⟩ := h
  exact ⟨fr, Γ, Hk, _, ok, hev, fun d v Hk1 H1 s1 r1 q1 => gT_run xo.K (ok.step s1) r1 q1 fun Γ' σ' ok' q' _ => en.nx _ _ _ _ ok' q'⟩
theorem rs_add {i : Nat} {e : E} (h : rdS S Sm (.aug i .Add e) D σ H) : tAug i (rdE S Sm e) (ipI fun i j => i + j) D σ H := by
  obtain ⟨fr, Γ, Hk, DD, ok, ⟨a, e1, hev⟩, en⟩ := h
  obtain ⟨v, sv, r⟩ := ok.var e1
  refine ⟨v, sv, fr, Γ, Hk, _, ok, hev, fun d w Hk1 H1 s1 r1 q1 => ?_⟩
  obtain ⟨b, rfl, q⟩ := q1
  exact ⟨a, b, r.int_inv, r1.int_inv, en.nx _ _ _ _ ((ok.step s1).setV .int) q⟩
theorem rs_sub {i : Nat} {e : E} (h : rdS S Sm (.aug i .Sub e) D σ H) : tAug i (rdE S Sm e) (ipI fun i j => i - j) D σ H := by
  obtain ⟨fr, Γ, Hk, DD, ok, ⟨a, e1, hev⟩, en⟩ := h
  obtain ⟨v, sv, r⟩ := ok.var e1
  refine ⟨v, sv, fr, Γ, Hk, _, ok, hev, fun d w Hk1 H1 s1 r1 q1 => ?_⟩
  obtain ⟨b, rfl, q⟩ := q1
  exact ⟨a, b, r.int_inv, r1.int_inv, en.nx _ _ _ _ ((ok.step s1).setV .int) q⟩
theorem rs_frz {i : Nat} {b : Cm} (h : rdS S Sm (.frz i b) D σ H) : rdS S Sm b D σ H := by
  obtain ⟨fr, Γ, Hk, DD, ok, ⟨xs, e, hb⟩, en⟩ := h
  obtain ⟨Hk', _, ok'⟩ := ok.frzL e
  exact ⟨fr, _, Hk', DD, ok', hb, en⟩
theorem rs_app {i : Nat} {e : E} (h : rdS S Sm (.app i e) D σ H) : tDrop (tBM X.K "list" rAppend (tVar i) (tCons (rdE S Sm e) tNil)) D σ H := by
  obtain ⟨fr, Γ, Hk, DD, ok, ⟨xs, e1, hev⟩, en⟩ := h
  obtain ⟨p, vs, sv, hp, _, _, r⟩ := ok.ownL e1
  refine ⟨.ref p, sv, .inl ⟨rfl, vs, .inl (.inl hp)⟩, fr, Γ, Hk, _, ok, hev, fun d v Hk1 H1 s1 r1 q1 => ?_⟩
  have hp1 := s1.h _ _ hp
  refine ⟨p, vs, v, rfl, rfl, hp1, by rw [← r.length]; exact q1.1, ?_⟩
  exact en.nx _ _ _ _ ((ok.step s1).mutL e1 sv hp1 ((r.mono s1.k).append (.one r1))) q1.2
theorem rs_seti {i : Nat} {ix e : E} (h : rdS S Sm (.seti i ix e) D σ H) : tAsg (rdE S Sm e) (gSub (tVar i) (rdE S Sm ix) rSetL) D σ H := by
  obtain ⟨fr, Γ, Hk, DD, ok, hev, en⟩ := h
  refine ⟨fr, Γ, Hk, _, ok, hev, fun d v Hk1 H1 s1 r1 q1 => ?_⟩
  obtain ⟨xs, e1, q1⟩ := q1
  obtain ⟨p, vs, sv, hp, _, _, r⟩ := (ok.step s1).ownL e1
  refine ⟨.ref p, sv, fr, Γ, Hk1, _, ok.step s1, q1, fun y w Hk2 H2 s2 r2 q2 => ?_⟩
  obtain ⟨kk, j, rfl, hj, q⟩ := q2
  have hp2 := s2.h _ _ hp
  refine ⟨p, vs, kk, j, rfl, r2.int_inv, hp2, by rw [← r.length]; exact hj, ?_⟩
  exact en.nx _ _ _ _ (((ok.step s1).step s2).mutL e1 sv hp2 ((r.mono s2.k).set (r1.mono s2.k) j)) q
theorem rs_drop {e : E} (h : rdS S Sm (.drop e) D σ H) : tDrop (rdE S Sm e) D σ H := by
  obtain ⟨fr, Γ, Hk, DD, ok, hev, en⟩ := h
  exact ⟨fr, Γ, Hk, _, ok, hev, fun d v Hk1 H1 s1 r1 q1 => en.nx _ _ _ _ (ok.step s1) q1⟩
theorem rs_ret {e : E} (h : rdS S Sm (.ret e) D σ H) : tRet (rdE S Sm e) D σ H := by
  obtain ⟨fr, Γ, Hk, DD, ok, hev, en⟩ := h
  exact ⟨fr, Γ, Hk, _, ok, hev, fun d v Hk1 H1 s1 r1 q1 => en.rt _ _ _ _ (ok.st.trans s1) r1 q1⟩
theorem rs_retO {i : Nat} (h : rdS S Sm (.retO i) D σ H) : tRet (tVar i) D σ H := by
  obtain ⟨fr, Γ, Hk, DD, ok, ⟨xs, e, q⟩, en⟩ := h
  obtain ⟨p, vs, sv, hp, hk, h0, r⟩ := ok.ownL e
  exact ⟨.ref p, sv, en.ro _ _ _ _ _ ok.st h0 hk hp r q⟩
theorem rs_retF {e : E} (h : rdS S Sm (.retF e) D σ H) : tRet (rdL S Sm e) D σ H := by
  obtain ⟨fr, Γ, Hk, DD, ok, hev, en⟩ := h
  refine ⟨fr, Γ, Hk, _, ok, hev, fun ds p vs Hk1 H1 s1 h0 h1 h2 r1 q1 => ?_⟩
  obtain ⟨xs, e1, q⟩ := q1
  cases e1
  exact en.ro _ _ _ _ _ (ok.st.trans s1) (ok.st.h.free h0) h1 h2 r1 q
theorem rs_retN (h : rdS S Sm .retN D σ H) : tRetN D σ H := by
  obtain ⟨fr, Γ, Hk, DD, ok, q, en⟩ := h
  exact en.rt _ _ _ _ ok.st .non q
theorem rs_nop (h : rdS S Sm .nop D σ H) : tNext D σ H := by
  obtain ⟨fr, Γ, Hk, DD, ok, q, en⟩ := h
  exact en.nx _ _ _ _ ok q
theorem rs_brk (h : rdS S Sm .brk D σ H) : tBreak D σ H := by
  obtain ⟨fr, Γ, Hk, DD, ok, q, en⟩ := h
  exact en.bk _ _ _ _ ok q
theorem rs_cnt (h : rdS S Sm .cnt D σ H) : tCont D σ H := by
  obtain ⟨fr, Γ, Hk, DD, ok, q, en⟩ := h
  exact en.ct _ _ _ _ ok q
theorem rs_never (h : rdS S Sm .never D σ H) : tNever D σ H := by
  obtain ⟨fr, Γ, Hk, DD, ok, q, en⟩ := h
  exact q.elim
theorem rs_seq {a b : Cm} (h : rdS S Sm (.seq a b) D σ H) : tSeq (rdS S Sm a) (rdS S Sm b) D σ H := by
  obtain ⟨fr, Γ, Hk, DD, ok, hev, en⟩ := h
  exact ⟨fr, Γ, Hk, _, ok, hev, ⟨fun Γ' Hk' σ' H' ok' q => ⟨fr, Γ', Hk', DD, ok', q, en⟩, en.rt, en.ro, en.bk, en.ct⟩⟩
theorem rs_ite {t : E} {a b : Cm} (h : rdS S Sm (.ite t a b) D σ H) : tIfS (rdT S Sm t) (rdS S Sm a) (rdS S Sm b) D σ H := by
  obtain ⟨fr, Γ, Hk, DD, ok, hev, en⟩ := h
  refine ⟨fr, Γ, Hk, _, ok, hev, fun c Hk1 H1 s1 q1 => ?_⟩
  cases c with
  | true => exact ⟨fr, Γ, Hk1, DD, ok.step s1, q1, en⟩
  | false => exact ⟨fr, Γ, Hk1, DD, ok.step s1, q1, en⟩
theorem rs_fset (xo : XOk S Sm T k arI X) {i f : Nat} {e : E} (h : rdS S Sm (.fset i f e) D σ H) : sFld X.K (tVar i) (rdE S Sm e) (T.fid f) D σ H := by
  obtain ⟨fr, Γ, Hk, DD, ok, hev, en⟩ := h
  refine ⟨fr, Γ, Hk, _, ok, hev, fun d v Hk1 H1 s1 r1 q1 => ?_⟩
  obtain ⟨c, us, e1, hf, q⟩ := q1
  have ok1 := ok.step s1
  obtain ⟨w, sv, p, dx, fs, rfl, hp, hk, h0, hn, rr, hP⟩ := ok1.sl i _ e1
  obtain ⟨na, hj, nd, cl, hl⟩ := xo.fld c f _ hf
  have hlen : fs.length = us.length := by
    have := rr.length
    rw [List.length_map] at this
    exact this.symm
  have hlt : us.length < (S.fnames c).length := by
    rcases Nat.lt_or_ge us.length (S.fnames c).length with z | z
    · exact z
    · rw [List.getElem?_eq_none z] at hj
      cases hj
  have hnot : T.fid f ∉ fs.map (·.1) := by
    rw [hn]
    intro hm
    obtain ⟨j, hje⟩ := List.getElem?_of_mem hm
    rw [List.getElem?_take] at hje
    split at hje
    · rename_i hlt'
      exact absurd (nd_ix nd hje hj) (by omega)
    · cases hje
  have hput : ∀ (gs : List (Str × V)), T.fid f ∉ gs.map (·.1) → putF (T.fid f) v gs = gs ++ [(T.fid f, v)] := by
    intro gs
    induction gs with
    | nil => intro _; rfl
    | cons g gs ih =>
      intro hg
      have h1 : ¬ g.1 = T.fid f := fun z => hg (by rw [List.map_cons, z]; exact List.mem_cons_self)
      have h2 : T.fid f ∉ gs.map (·.1) := fun m => hg (by rw [List.map_cons]; exact List.mem_cons_of_mem _ m)
      obtain ⟨g1, g2⟩ := g
      show (if g1 = T.fid f then _ else (g1, g2) :: putF (T.fid f) v gs) = _
      rw [if_neg h1, ih h2]
      rfl
  refine ⟨.ref p, sv, p, S.cls c, dx, fs, rfl, hp, cl, na, by omega, ?_⟩
  refine en.nx _ _ _ _ (ok1.mutB (b' := .obj c (us ++ [d])) e1 rfl rfl sv hk h0 ⟨p, dx, putF (T.fid f) v fs, rfl, upd_same, hk, h0, ?_, ?_, hP⟩) q
  · rw [hput fs hnot, List.map_append, hn, List.length_append]
    show _ ++ [T.fid f] = (S.fnames c).take (us.length + 1)
    rw [List.take_add_one, hj]
    rfl
  · rw [hput fs hnot, List.map_append]
    exact rr.append (.one r1)
end
end Vg


set_option Elab.async false
set_option linter.all false
set_option maxRecDepth 100000
set_option maxHeartbeats 8000000
/-! Vg: loops; every block that the check lets is sound -/
namespace Vg
open PySem L2
section
variable {S : Sg} {Sm : Sem} {T : Nm} {k : Nat} {arI : Nat → Nat} {X : Cx} {σ : St} {H : Hp} {D : Ends}

theorem StOk.base {fr : Fr} {Γ : Env} {Hk B : Hp} (h : StOk S fr Γ Hk σ H) (b : Same B Hk) : StOk S { fr with B := B } Γ Hk σ H := ⟨h.st, h.sl, h.ap, h.len, b⟩
theorem StOk.unbase {fr : Fr} {Γ : Env} {Hk B : Hp} (h : StOk S { fr with B := B } Γ Hk σ H) (b : Same fr.B B) : StOk S fr Γ Hk σ H := ⟨h.st, h.sl, h.ap, h.len, b.trans h.b⟩

theorem rs_for (xo : XOk S Sm T k arI X) {tg : Tg} {it : E} {b : Cm} (hit : isOwnI it = false) (h : rdS S Sm (.for_ tg it b) D σ H) : tFor (rdI S Sm it) (gT X.K tg) (rdS S Sm b) D σ H := by
  obtain ⟨fr, Γ, Hk, DD, ok, hev, en⟩ := h
  refine ⟨fr, Γ, Hk, _, ok, hev, fun xs J Hk1 H1 s1 wd ql => ?_⟩
  obtain ⟨G, Y, w, hG, hY⟩ := wd
  rw [hit] at hG
  have ok1 := ok.step s1
  refine for_it w (fun i σ' H' => ∃ (Γ' : Env) (Hk' : Hp), StOk S { fr with B := Hk1 } Γ' Hk' σ' H' ∧ forW (fun Γ x K => stT tg Γ x K) (fun Γ' D' => ex Sm b Γ' D') DD (xs.drop i) Γ') ?_ ?_ ?_ ?_
  · exact ⟨Γ, Hk1, ok1.base (Same.refl _), ql⟩
  · rintro i σ' H' _ ⟨Γ', Hk', ok', _⟩
    exact hG H' (ok'.b.trans ok'.st.i) (ok'.b.trans ok'.st.i)
  · rintro i x σ' Hc H' hi ⟨Γ', Hk', ok', hw⟩ y
    obtain ⟨d, Hk3, hd, st3, rd⟩ := hY i Hk' Hc x H' hi ok'.b ok'.st.i y
    have hdrop : xs.drop i = d :: xs.drop (i + 1) := by
      have hlt : i < xs.length := hi
      rw [List.drop_eq_getElem_cons hlt]
      rw [List.getElem?_eq_getElem hlt] at hd
      rw [Option.some.inj hd]
    rw [hdrop] at hw
    refine gT_run (KE := fun Γ' => ex Sm b Γ' { nx := forW (fun Γ x K => stT tg Γ x K) (fun Γ' D' => ex Sm b Γ' D') DD (xs.drop (i + 1)), rt := DD.rt, ro := DD.ro, bk := DD.nx, ct := forW (fun Γ x K => stT tg Γ x K) (fun Γ' D' => ex Sm b Γ' D') DD (xs.drop (i + 1)) }) xo.K (ok'.step st3) rd hw fun Γ2 σ2 ok2 hw2 _ => ?_
    refine ⟨{ fr with B := Hk1 }, Γ2, Hk3, _, ok2, hw2, ⟨fun Γ4 Hk4 σ4 H4 ok4 q => ⟨Γ4, Hk4, ok4, q⟩, en.rt, en.ro, fun Γ4 Hk4 σ4 H4 ok4 q => en.nx _ _ _ _ (ok4.unbase ok1.b) q, fun Γ4 Hk4 σ4 H4 ok4 q => ⟨Γ4, Hk4, ok4, q⟩⟩⟩
  · rintro σ' H' ⟨Γ', Hk', ok', hw⟩
    rw [List.drop_length] at hw
    exact en.nx _ _ _ _ (ok'.unbase ok1.b) hw
theorem rs_while {t : E} {b : Cm} (h : rdS S Sm (.while_ t b) D σ H) : tWhile (rdT S Sm t) (rdS S Sm b) D σ H := by
  obtain ⟨fr, Γ, Hk, DD, ok, ⟨n, hw⟩, en⟩ := h
  refine ⟨fun m σ' H' => ∃ (Γ' : Env) (Hk' : Hp), StOk S fr Γ' Hk' σ' H' ∧ whW (fun Γ' Q' => ev Sm t Γ' Q') (fun Γ' D' => ex Sm b Γ' D') DD m Γ', ⟨n, Γ, Hk, ok, hw⟩, ?_⟩
  rintro m σ' H' ⟨Γ', Hk', ok', hw'⟩
  cases m with
  | zero => exact hw'.elim
  | succ m =>
    refine ⟨fr, Γ', Hk', _, ok', hw', fun c Hk1 H1 s1 q1 => ?_⟩
    cases c with
    | true =>
      rw [if_pos rfl] at q1 ⊢
      refine ⟨fun σ2 H2 => ∃ (Γ2 : Env) (Hk2 : Hp), StOk S fr Γ2 Hk2 σ2 H2 ∧ whW (fun Γ' Q' => ev Sm t Γ' Q') (fun Γ' D' => ex Sm b Γ' D') DD m Γ2, fun σ2 H2 q => ⟨m, Nat.lt_succ_self m, q⟩, ?_⟩
      exact ⟨fr, Γ', Hk1, _, ok'.step s1, q1, ⟨fun Γ4 Hk4 σ4 H4 ok4 q => ⟨Γ4, Hk4, ok4, q⟩, en.rt, en.ro, fun Γ4 Hk4 σ4 H4 ok4 q => en.nx _ _ _ _ ok4 q, fun Γ4 Hk4 σ4 H4 ok4 q => ⟨Γ4, Hk4, ok4, q⟩⟩⟩
    | false =>
      rw [if_neg Bool.false_ne_true] at q1 ⊢
      exact en.nx _ _ _ _ (ok'.step s1) q1

/-! ### the checked block -/
structure DOk (N : List Str) (sc : Scope) (X : Cx) : Prop where
  hN : X.N = N
  hs : X.env.scope = sc
  hf : ∀ x, X.fn x = true
  hx : X.xe = fun _ _ => False
  hk : sc.kind = .function

theorem swap_no {v : Expr} {x : Str} {p : Pos} {l : Nat} {sc : Scope} (hs : X.env.scope = sc) (hk : sc.kind = .function) (pl : plainE v = true) (h : swapB sc x p v = false) : swapsWithSole [.Name x p] v l X.env = pure false := by
  show swapsWith v (some (.Name x p)) l X.env = pure false
  cases v <;> first | rfl | (cases pl; done) | skip
  rename_i elt gs scope pos
  subst hs
  have hb : X.env.blockKind = .function := by unfold Env.blockKind; rw [hk]; rfl
  have h2 : (X.env.kindOf x == some NameKind.local && p.line == pos.line && !(scope.names.any fun (n, k) => n == x && (k == .local || k == .cell))) = false := by
    rw [← h]
    show (X.env.scope.names.lookup x == some NameKind.local && _ && _) = ((match X.env.scope.names.lookup x with | some .local => true | _ => false) && _ && _)
    congr 2
    rcases X.env.scope.names.lookup x with _ | k
    · rfl
    · cases k <;> rfl
  show (pure (X.env.blockKind == ScopeKind.function && X.env.kindOf x == some NameKind.local && p.line == pos.line && !(scope.names.any fun x_1 => x_1.1 == x && (x_1.2 == .local || x_1.2 == .cell))) : PySem.Sem Bool) = pure false
  have h3 : (X.env.blockKind == ScopeKind.function && X.env.kindOf x == some NameKind.local && p.line == pos.line && !(scope.names.any fun x_1 => x_1.1 == x && (x_1.2 == .local || x_1.2 == .cell))) = false := by
    rw [Bool.and_assoc, Bool.and_assoc]
    rw [Bool.and_assoc] at h2
    rw [h2, Bool.and_false]
  rw [h3]
theorem sw_none {v : Expr} {x : Str} {p : Pos} (pl : plainE v = true) : swappedStores [.Name x p] v X.env = pure none := by
  cases v <;> first | rfl | cases pl

/-- name = value, the value's own reading -/
theorem ps_name {N : List Str} {sc : Scope} {i : Nat} {e : E} {x : Str} {p pos : Pos} {v : Expr} {t : TE} (xo : XOk S Sm T k arI X) (ok : DOk N sc X) (h1 : N[i]? = some x) (h2 : locB sc x = true) (h3 : mE T N e .ex sc [v] = true)
    (he : PE X v t) (hl : ∀ σ H Q, t σ H Q → rdL S Sm e σ H Q) : PS X (.Assign [.Name x p] v pos) (tAsg t (gName i)) := by
  have V := (mE_sound e _ _ _ h3 X xo ok.hN ok.hs).e
  have L : L2.Loc X.env.scope x := by rw [ok.hs]; exact loc_of h2
  rcases hsw : swapB sc x p v with _ | _
  · exact ps_asg he (pg_name xo.nd (by rw [ok.hN]; exact h1) L (.inl (ok.hf x))) (swap_no ok.hs ok.hk V.plain hsw) (sw_none V.plain)
  · cases v <;> first | (cases hsw; done) | skip
    cases e <;> first | (simp [mE, Kd.isE] at h3; done) | skip
    rotate_left
    · rename_i tg it tg1 it1 elt
      obtain ⟨_, e1, g, i1, g1, i2, scope, p1, q1, P⟩ := lc2_parts (mE_sound it) (mE_sound it1) (mE_sound elt) h3 xo ok.hN ok.hs
      cases q1
      unfold swapB at hsw
      simp only [Bool.and_eq_true, Bool.not_eq_true'] at hsw
      obtain ⟨⟨w1, w2⟩, w3⟩ := hsw
      have w1' : X.env.scope.names.lookup x = some .local := by
        rw [ok.hs]
        split at w1 <;> first | assumption | cases w1
      have A := ps_setLc2 (i := i) (spos := pos) (py := p) (vs1 := tg1.slots) xo.calm xo.nd (by rw [ok.hN]; exact h1) w1' (sw_true (by rw [ok.hs]; exact ok.hk) w1' w2 w3) P.pi P.bk (fun j hj => by rw [own_slots2]; exact List.mem_append_right _ hj) P.pg (fun s H C cl fp => pts_nil) P.pi1 P.pg1 (fun s H C cl fp => pts_nil) P.pe (fold_plain P.pl) (fun env => fold_plain P.pl1)
      rw [own_slots2] at A
      exact PS_imp A fun _ _ _ q => rdL_lc2 xo P.no (hl _ _ _ q)
    rename_i tg it tst elt
    obtain ⟨_, e1, g, i1, ifs, scope, p1, q1, P⟩ := lc_parts (mE_sound it) (mE_sound tst) (mE_sound elt) h3 xo ok.hN ok.hs
    cases q1
    unfold swapB at hsw
    simp only [Bool.and_eq_true, Bool.not_eq_true'] at hsw
    obtain ⟨⟨w1, w2⟩, w3⟩ := hsw
    have w1' : X.env.scope.names.lookup x = some .local := by
      rw [ok.hs]
      split at w1 <;> first | assumption | cases w1
    have A := ps_setLc (i := i) (spos := pos) (py := p) xo.calm xo.nd (by rw [ok.hN]; exact h1) w1' (sw_true (by rw [ok.hs]; exact ok.hk) w1' w2 w3) P.pi P.bk P.pg P.pt P.pe (fold_plain P.pl)
    rw [own_slots] at A
    exact PS_imp A fun _ _ _ q => rdL_lc xo (hl _ _ _ q)
theorem exec_of {M : Model} {A : Around} {E : Value → Shared → Prop} {s : Shared} {st : Stmt} {env : PySem.Env} {Q : Flow → Shared → Prop} (h : wpAny M A (execs [st] env) Q E s) : wpAny M A (exec st env) Q E s := fun Γ p hΓ => by
  have h := h Γ p hΓ
  rw [execs_cons, PySem.Sem.wp_bind'] at h
  refine PySem.Sem.wp_mono M Γ _ (fun f p' s' h' => ?_) (fun _ _ _ h' => h') _ _ h
  cases f with
  | next => rw [execs_nil] at h'; exact h'
  | ret v => exact h'
  | brk => exact h'
  | cont => exact h'
theorem ps_of {st : Stmt} {t : TS} (h : PSs X [st] t) : PS X st t := ⟨fun pins s σ H D I q => exec_of (h.run pins s σ H D I q)⟩
abbrev SAt (S : Sg) (Sm : Sem) (T : Nm) (k : Nat) (arI : Nat → Nat) (N : List Str) (c : Cm) : Prop :=
  ∀ (sc : Scope) (ss : List Stmt), mS T N c sc ss = true → ∀ X : Cx, XOk S Sm T k arI X → DOk N sc X → PSs X ss (rdS S Sm c)
variable {N : List Str}
theorem ss_nop : SAt S Sm T k arI N .nop := by
  intro sc ss h X xo ok
  simp only [mS] at h
  split at h
  · exact PSs_imp pss_nil fun _ _ _ q => rs_nop q
  · exact pss_one (PS_imp ps_pass fun _ _ _ q => rs_nop q)
  · cases h
theorem ss_seq {a b : Cm} (ha : SAt S Sm T k arI N a) (hb : SAt S Sm T k arI N b) : SAt S Sm T k arI N (.seq a b) := by
  intro sc ss h X xo ok
  simp only [mS] at h
  split at h
  · rw [Bool.and_eq_true] at h
    have A := ha _ _ h.1 X xo ok
    have B := hb _ _ h.2 X xo ok
    exact PSs_imp (pss_cons (ps_of A) B) fun _ _ _ q => rs_seq q
  · cases h
theorem ss_frz {i : Nat} {b : Cm} (hb : SAt S Sm T k arI N b) : SAt S Sm T k arI N (.frz i b) := by
  intro sc ss h X xo ok
  exact PSs_imp (hb sc ss h X xo ok) fun _ _ _ q => rs_frz q
theorem ss_asg {i : Nat} {e : E} : SAt S Sm T k arI N (.asg i e) := by
  intro sc ss h X xo ok
  simp only [mS] at h
  split at h
  · simp only [Bool.and_eq_true, beq_iff_eq] at h
    obtain ⟨⟨h1, h2⟩, h3⟩ := h
    exact pss_one (PS_imp (ps_name xo ok h1 h2 h3 (mE_sound e _ _ _ h3 X xo ok.hN ok.hs).e.pe fun _ _ _ q => rdE_L q) fun _ _ _ q => rs_asg q)
  · cases h
theorem ss_asgO {i : Nat} {e : E} : SAt S Sm T k arI N (.asgO i e) := by
  intro sc ss h X xo ok
  simp only [mS] at h
  split at h
  · simp only [Bool.and_eq_true, beq_iff_eq] at h
    obtain ⟨⟨⟨h1, h2⟩, hn⟩, h3⟩ := h
    exact pss_one (PS_imp (ps_name xo ok h1 h2 h3 ((mE_sound e _ _ _ h3 X xo ok.hN ok.hs).e.pl hn) fun _ _ _ q => q) fun _ _ _ q => rs_asgO q)
  · cases h
theorem pg_here {tg : Tg} {g : Expr} {sc : Scope} (xo : XOk S Sm T k arI X) (ok : DOk N sc X) (h : tgB N sc tg g = true) : PG X g (gT X.K tg) :=
  pg_of xo.calm xo.nd ok.hN (fun x hx => by rw [ok.hs]; exact loc_of hx) (fun x _ => .inl (ok.hf x)) h
theorem ss_asg2 {i j : Nat} {e : E} : SAt S Sm T k arI N (.asg2 i j e) := by
  intro sc ss h X xo ok
  simp only [mS] at h
  split at h
  · simp only [Bool.and_eq_true] at h
    obtain ⟨⟨h1, h3⟩, h4⟩ := h
    have V := (mE_sound e _ _ _ h3 X xo ok.hN ok.hs).e
    have vp := V.plain
    refine pss_one (PS_imp (ps_asg V.pe (pg_here xo ok h1) ?_ ?_) fun _ _ _ q => rs_asg2 xo q)
    · rename_i v _
      cases v <;> first | rfl | cases vp
    · rename_i v _
      cases v <;> first | rfl | (cases vp; done) | cases h4
  · cases h
theorem ss_aug {i : Nat} {o : Operator} {e : E} : SAt S Sm T k arI N (.aug i o e) := by
  intro sc ss h X xo ok
  simp only [mS] at h
  split at h
  · rename_i x p op v q0
    simp only [Bool.and_eq_true, beq_iff_eq] at h
    obtain ⟨⟨⟨⟨h0, ho⟩, h1⟩, h2⟩, h3⟩ := h
    subst h0
    have V := (mE_sound e _ _ _ h3 X xo ok.hN ok.hs).e
    have L : L2.Loc X.env.scope x := by rw [ok.hs]; exact loc_of h2
    unfold augOp at ho
    rw [Bool.or_eq_true, beq_iff_eq, beq_iff_eq] at ho
    rcases ho with rfl | rfl
    · exact pss_one (PS_imp (ps_aug xo.nd (by rw [ok.hN]; exact h1) L V.pe ip_add (.inl (ok.hf _))) fun _ _ _ q => rs_add q)
    · exact pss_one (PS_imp (ps_aug xo.nd (by rw [ok.hN]; exact h1) L V.pe ip_sub (.inl (ok.hf _))) fun _ _ _ q => rs_sub q)
  · cases h
theorem pe_own {i : Nat} {x : Str} {p : Pos} {sc : Scope} (ok : DOk N sc X) (h1 : N[i]? = some x) (h2 : visB sc x = true) (h3 : nmB x = true) : PE X (.Name x p) (tVar i) :=
  pe_var (i := i) (by rw [ok.hN]; exact h1) (by rw [ok.hs]; exact vis_of h2) (nm1 h3) (nm2 h3)
theorem ss_app {i : Nat} {e : E} : SAt S Sm T k arI N (.app i e) := by
  intro sc ss h X xo ok
  simp only [mS] at h
  split at h
  · simp only [Bool.and_eq_true, beq_iff_eq] at h
    obtain ⟨⟨⟨⟨⟨⟨h0, h1⟩, h2⟩, h3⟩, hl⟩, pl⟩, h4⟩ := h
    subst h0
    have V := (mE_sound e _ _ _ h4 X xo ok.hN ok.hs).e
    have s1 : ∀ v, plainE v = true → starEach [v] X.env = [(false, eval v X.env)] := fun v hv => star_plain hv
    refine pss_one (PS_imp (ps_expr (pe_bm F.plainAttrs_list F.slot_list_append F.type_list_append mt_append (pe_own ok h1 h2 h3) (pa_cons V.pe pa_nil (s1 _ pl)) rfl ?_ (beq_iff_eq.mpr hl) (s1 _ pl) rfl)) fun _ _ _ q => rs_app q)
    rw [s1 _ pl]
    rfl
  · cases h
theorem ss_seti {i : Nat} {ix e : E} : SAt S Sm T k arI N (.seti i ix e) := by
  intro sc ss h X xo ok
  simp only [mS] at h
  split at h
  · simp only [Bool.and_eq_true, beq_iff_eq] at h
    obtain ⟨⟨⟨⟨h1, h2⟩, h3⟩, h4⟩, h5⟩ := h
    have V := (mE_sound e _ _ _ h5 X xo ok.hN ok.hs).e
    have W := (mE_sound ix _ _ _ h4 X xo ok.hN ok.hs).e
    have vp := V.plain
    have wp := W.plain
    refine pss_one (PS_imp (ps_asg V.pe (pg_sub (pe_own ok h1 h2 h3) W.pe set_list ?_) ?_ ?_ ?_) fun _ _ _ q => rs_seti q)
    · rename_i x _ y _ v _
      cases y <;> first | (intro _; rfl) | cases wp
    · rename_i x _ y _ v _
      cases v <;> first | rfl | cases vp
    · rename_i x _ y _ v _
      cases v <;> first | rfl | cases vp
    · rename_i x _ y _ v _
      cases y <;> first | rfl | cases wp
  · cases h
theorem ss_fset {i f : Nat} {e : E} : SAt S Sm T k arI N (.fset i f e) := by
  intro sc ss h X xo ok
  simp only [mS] at h
  split at h
  · simp only [Bool.and_eq_true, beq_iff_eq] at h
    obtain ⟨⟨⟨⟨⟨h0, h1⟩, h2⟩, h3⟩, h4⟩, h5⟩ := h
    subst h0
    have V := (mE_sound e _ _ _ h4 X xo ok.hN ok.hs).e
    have vp := V.plain
    refine pss_one (PS_imp (ps_fld (pe_own ok h1 h2 h3) V.pe ?_) fun _ _ _ q => rs_fset xo q)
    rename_i v _
    cases v <;> first | rfl | cases vp
  · cases h
theorem ss_drop {e : E} : SAt S Sm T k arI N (.drop e) := by
  intro sc ss h X xo ok
  simp only [mS] at h
  split at h
  · simp only [Bool.and_eq_true] at h
    obtain ⟨h4, h5⟩ := h
    have V := (mE_sound e _ _ _ h4 X xo ok.hN ok.hs).e
    have vp := V.plain
    refine pss_one (PS_imp (ps_expr V.pe ?_) fun _ _ _ q => rs_drop q)
    rename_i v _
    cases v <;> first | rfl | (cases vp; done) | cases h5
  · cases h
theorem ss_ret {e : E} : SAt S Sm T k arI N (.ret e) := by
  intro sc ss h X xo ok
  simp only [mS] at h
  split at h
  · have V := (mE_sound e _ _ _ h X xo ok.hN ok.hs).e
    exact pss_one (PS_imp (ps_ret V.pe) fun _ _ _ q => rs_ret q)
  · cases h
theorem ss_retO {i : Nat} : SAt S Sm T k arI N (.retO i) := by
  intro sc ss h X xo ok
  simp only [mS] at h
  split at h
  · simp only [Bool.and_eq_true, beq_iff_eq] at h
    obtain ⟨⟨h1, h2⟩, h3⟩ := h
    exact pss_one (PS_imp (ps_ret (pe_own ok h1 h2 h3)) fun _ _ _ q => rs_retO q)
  · cases h
theorem ss_retF {e : E} : SAt S Sm T k arI N (.retF e) := by
  intro sc ss h X xo ok
  simp only [mS] at h
  split at h
  · rw [Bool.and_eq_true] at h
    have V := (mE_sound e _ _ _ h.2 X xo ok.hN ok.hs).e
    exact pss_one (PS_imp (ps_ret (V.pl h.1)) fun _ _ _ q => rs_retF q)
  · cases h
theorem ss_retN : SAt S Sm T k arI N .retN := by
  intro sc ss h X xo ok
  simp only [mS] at h
  split at h
  · exact pss_one (PS_imp ps_retN fun _ _ _ q => rs_retN q)
  · cases h
theorem ss_ite {t : E} {a b : Cm} (ha : SAt S Sm T k arI N a) (hb : SAt S Sm T k arI N b) : SAt S Sm T k arI N (.ite t a b) := by
  intro sc ss h X xo ok
  simp only [mS] at h
  split at h
  · simp only [Bool.and_eq_true] at h
    obtain ⟨⟨⟨h0, h1⟩, h2⟩, h3⟩ := h
    have V := (mE_sound t _ _ _ h1 X xo ok.hN ok.hs).e
    exact pss_one (PS_imp (ps_if (V.pt h0) (ha _ _ h2 X xo ok) (hb _ _ h3 X xo ok)) fun _ _ _ q => rs_ite q)
  · cases h
theorem passes_own {sc : Scope} (ok : DOk N sc X) : PassesOwn (model X.prog X.w) X.A X.env X.xe := by
  rw [ok.hx]
  exact PassesOwn.never
theorem ss_for {tg : Tg} {it : E} {b : Cm} (hb : SAt S Sm T k arI N b) : SAt S Sm T k arI N (.for_ tg it b) := by
  intro sc ss h X xo ok
  simp only [mS] at h
  split at h
  · rename_i g i body _
    simp only [Bool.and_eq_true, Bool.or_eq_true, Bool.not_eq_true'] at h
    obtain ⟨⟨⟨⟨⟨h0, hit⟩, h1⟩, h2⟩, h3⟩, h4⟩ := h
    obtain ⟨i', e1, hp, I⟩ := mE_sound it _ _ _ h1 X xo ok.hN ok.hs
    cases e1
    refine pss_one (PS_imp (ps_for (passes_own ok) xo.calm (I g fun hz => ?_) (pg_here xo ok h3) (hb _ _ h4 X xo ok) (fold_plain h0)) fun _ _ _ q => rs_for xo hit q)
    rcases h2 with h2 | h2
    · rw [h2] at hz
      cases hz
    · cases tg with
      | one i => cases h2
      | two i j => cases g <;> first | exact ⟨_, _, _, rfl⟩ | cases h3
  · cases h
theorem ss_while {t : E} {b : Cm} (hb : SAt S Sm T k arI N b) : SAt S Sm T k arI N (.while_ t b) := by
  intro sc ss h X xo ok
  simp only [mS] at h
  split at h
  · simp only [Bool.and_eq_true] at h
    obtain ⟨⟨h0, h1⟩, h2⟩ := h
    have V := (mE_sound t _ _ _ h1 X xo ok.hN ok.hs).e
    exact pss_one (PS_imp (ps_while (passes_own ok) (V.pt h0) (hb _ _ h2 X xo ok)) fun _ _ _ q => rs_while q)
  · cases h
theorem ss_brk : SAt S Sm T k arI N .brk := by
  intro sc ss h X xo ok
  simp only [mS] at h
  split at h
  · exact pss_one (PS_imp ps_break fun _ _ _ q => rs_brk q)
  · cases h
theorem ss_cnt : SAt S Sm T k arI N .cnt := by
  intro sc ss h X xo ok
  simp only [mS] at h
  split at h
  · exact pss_one (PS_imp ps_continue fun _ _ _ q => rs_cnt q)
  · cases h
theorem ss_never : SAt S Sm T k arI N .never := by
  intro sc ss h X xo ok
  simp only [mS] at h
  split at h
  · exact pss_one (PS_imp ps_never fun _ _ _ q => rs_never q)
  · cases h
theorem mS_sound : ∀ c : Cm, SAt S Sm T k arI N c
  | .nop => ss_nop
  | .seq a b => ss_seq (mS_sound a) (mS_sound b)
  | .asg i e => ss_asg
  | .asgO i e => ss_asgO
  | .asg2 i j e => ss_asg2
  | .par i j a b => fun sc ss h => by simp [mS] at h
  | .aug i o e => ss_aug
  | .frz i b => ss_frz (mS_sound b)
  | .app i e => ss_app
  | .seti i ix e => ss_seti
  | .fset i f e => ss_fset
  | .drop e => ss_drop
  | .ret e => ss_ret
  | .retO i => ss_retO
  | .retF e => ss_retF
  | .retN => ss_retN
  | .ite t a b => ss_ite (mS_sound a) (mS_sound b)
  | .for_ tg it b => ss_for (mS_sound b)
  | .while_ t b => ss_while (mS_sound b)
  | .brk => ss_brk
  | .cnt => ss_cnt
  | .never => ss_never
end
end Vg


set_option Elab.async false
set_option linter.all false
set_option maxRecDepth 100000
set_option maxHeartbeats 8000000
/-! Vg: programs -/
namespace Vg
open PySem L2

structure FDef where
  ar : Nat
  nsl : Nat
  body : Cm
structure Prg where
  fs : List FDef
  is : List FDef
  nf : Nat → Nat
  M : Nat → Nat → Option Nat
  fx : Nat → Nat → Option Nat
  nc : Nat
  fresh : Nat → Bool
def args0 (ds : List DV) (n : Nat) : Env := ds.map (fun d => some (.val d)) ++ List.replicate (n - ds.length) none
def ends0 (fresh : Bool) (Q : DV → Prop) : DE := { nx := fun _ => fresh = false ∧ Q .non, rt := fun d => fresh = false ∧ Q d, ro := fun xs => Q (.lst xs), bk := fun _ => False, ct := fun _ => False }
def endsI (c n : Nat) (Q : DV → Prop) : DE := { nx := fun Γ => ∃ vs, Γ[0]? = some (some (.obj c vs)) ∧ vs.length = n ∧ Q (.ins c vs), rt := fun _ => False, ro := fun _ => False, bk := fun _ => False, ct := fun _ => False }
def runF (P : Prg) (Sm : Sem) (f : Nat) (ds : List DV) (Q : DV → Prop) : Prop := ∃ d, P.fs[f]? = some d ∧ ds.length = d.ar ∧ ex Sm d.body (args0 ds d.nsl) (ends0 (P.fresh f) Q)
def runI (P : Prg) (Sm : Sem) (c : Nat) (ds : List DV) (Q : DV → Prop) : Prop := ∃ d, P.is[c]? = some d ∧ ds.length = d.ar ∧ ex Sm d.body (some (.obj c []) :: args0 ds (d.nsl - 1)) (endsI c (P.nf c) Q)
def sem (P : Prg) : Nat → Sem
  | 0 => { F := fun _ _ _ => False, I := fun _ _ _ => False, M := P.M, fx := P.fx, nc := P.nc }
  | k + 1 => { F := runF P (sem P k), I := runI P (sem P k), M := P.M, fx := P.fx, nc := P.nc }
def arFn (P : Prg) (f : Nat) : Nat := match P.fs[f]? with
  | some d => d.ar
  | none => 0
def arIn (P : Prg) (c : Nat) : Nat := match P.is[c]? with
  | some d => d.ar
  | none => 0

theorem fm_M (P : Prg) : ∀ k, (sem P k).M = P.M
  | 0 => rfl
  | _ + 1 => rfl
theorem fm_fx (P : Prg) : ∀ k, (sem P k).fx = P.fx
  | 0 => rfl
  | _ + 1 => rfl
theorem fm_nc (P : Prg) : ∀ k, (sem P k).nc = P.nc
  | 0 => rfl
  | _ + 1 => rfl
theorem sem_ar (P : Prg) : ∀ (k f : Nat) (ds : List DV) (QD : DV → Prop), (sem P k).F f ds QD → ds.length = arFn P f
  | 0, _, _, _, h => h.elim
  | k + 1, f, ds, QD, h => by
    obtain ⟨d, e, hl, _⟩ := (show runF P (sem P k) f ds QD from h)
    rw [arFn, e]
    exact hl
theorem sem_arI (P : Prg) : ∀ (k f : Nat) (ds : List DV) (QD : DV → Prop), (sem P k).I f ds QD → ds.length = arIn P f
  | 0, _, _, _, h => h.elim
  | k + 1, f, ds, QD, h => by
    obtain ⟨d, e, hl, _⟩ := (show runI P (sem P k) f ds QD from h)
    rw [arIn, e]
    exact hl

/-- what the written part says of the names -/
structure Glo (S : Sg) (T : Nm) (P : Prg) (mg : Str → Option Value) : Prop where
  mth : ∀ c m f, P.M c m = some f → PySem.W.selfFirst S.K (S.cls c) = true ∧ T.mid m ∉ S.fnames c ∧ Cls S.K (S.cls c)
  mks : ∀ c x, T.cn c = some x → mg x = some (.ref (S.cls c))
  fld : ∀ c f j, P.fx c f = some j → NoAttr S.K (S.cls c) (T.fid f) ∧ (S.fnames c)[j]? = some (T.fid f) ∧ (S.fnames c).Nodup ∧ Cls S.K (S.cls c) ∧ (S.fnames c).length < 1000
  blt : ∀ x ∈ bltNames, mg x = none
  bid : ∀ o m, binId o = some m → PySem.dunder o.info.2 = T.mid m
  bin5 : T.mid idContains = "__contains__"
  bin6 : T.mid idInvert = "__invert__"
  bin7 : T.mid idEq = "__eq__"
  ne : ∀ c f, P.M c idEq = some f → PySem.W.findIn S.K (.ref (S.cls c)) "__ne__" = some (some (.builtin "object.__ne__")) ∧ PySem.W.mroIn S.K (S.cls c) (.type "object") = some true
  lcm : T.hasM .lcm = true → mg "lcm" = some (.builtin "math.lcm")
  gcd : T.hasM .gcd = true → mg "gcd" = some (.builtin "math.gcd")
  glb : ∀ j x n, T.gn j = some (x, n) → ∃ u, mg x = some u ∧ RelV (.int n) u
  cnx : ∀ c, c < P.nc → ∃ x, T.cn c = some x
  tyI : ∀ c, c < P.nc → ∀ (H : Hp) (a dx : Addr) (fs : List (Str × V)), H a = some (.ins (S.cls c) dx fs) → TyOf S.K H (.ref a) (.ref (S.cls c))
  isi1 : ∀ c d, c < P.nc → d < P.nc → PySem.W.kitOne S.K (.ref (S.cls c)) (.ref (S.cls d)) = some (decide (d = c))
  isi2 : ∀ c, c < P.nc → ∀ n ∈ (["str", "int", "bool", "list", "tuple"] : List String), PySem.W.kitOne S.K (.ref (S.cls c)) (.type n) = some false
  isi3 : ∀ c, c < P.nc → ∀ n ∈ (["str", "int", "bool", "list", "tuple", "NoneType"] : List String), PySem.W.kitOne S.K (.type n) (.ref (S.cls c)) = some false
  nfl : ∀ c, (S.fnames c).length = P.nf c
  ar : ∀ f, T.ar f = arFn P f
  frs : ∀ f, T.fresh f = P.fresh f

/-- a def of the text, and its term -/
structure DefOk (K : PySem.W.Frag) (T : Nm) (a : Addr) (fd : FuncData) (ps : List Str) (d : FDef) (np : Nat) : Prop where
  ex : ∃ (x qual : Str) (st : Stmt) (N : List Str), Fun K x qual st a fd ∧ FnScope N ps (defScope st) ∧ mS T N d.body (defScope st) (defBody st) = true ∧ N.length = d.nsl
  bd : Binds K fd ps []
  len : ps.length = np
structure Tabs (S : Sg) (T : Nm) (P : Prg) (mg : Str → Option Value) (aF aI : Nat → Addr) (fF fI : Nat → FuncData) (pF pI : Nat → List Str) : Prop where
  F : ∀ f d, P.fs[f]? = some d → DefOk S.K T (aF f) (fF f) (pF f) d d.ar
  I : ∀ c d, P.is[c]? = some d → DefOk S.K T (aI c) (fI c) (pI c) d (d.ar + 1)
  fns : ∀ f x, T.fn f = some x → mg x = some (.ref (aF f)) ∧ PySem.W.keepIn S.K (.ref (aF f)) = true ∧ (P.fs[f]?).isSome = true
  mth : ∀ c m f, P.M c m = some f → Meth S.K (S.cls c) (T.mid m) (aF f) ∧ (P.fs[f]?).isSome = true
  mks : ∀ c x, T.cn c = some x → Mk S.K (S.cls c) (aI c) ∧ (P.is[c]?).isSome = true

section
variable {S : Sg} {T : Nm} {P : Prg} {mg : Str → Option Value} {aF aI : Nat → Addr} {fF fI : Nat → FuncData} {pF pI : Nat → List Str} {prog : Program} {w : World} {base : Heap}

def GoodF (S : Sg) (T : Nm) (P : Prg) (prog : Program) (w : World) (mg : Str → Option Value) (base : Heap) (aF : Nat → Addr) (fF : Nat → FuncData) (pF : Nat → List Str) (n : Nat) : Prop :=
  ∀ f d, P.fs[f]? = some d → FnOk prog w S.K mg base CX0 (2 * n) (aF f) (fF f) (pF f) (spF S (sem P n) T f)
def GoodI (S : Sg) (T : Nm) (P : Prg) (prog : Program) (w : World) (mg : Str → Option Value) (base : Heap) (aI : Nat → Addr) (fI : Nat → FuncData) (pI : Nat → List Str) (n : Nat) : Prop :=
  ∀ c d, P.is[c]? = some d → FnOk prog w S.K mg base CX0 (2 * n) (aI c) (fI c) (pI c) (spI S (sem P n) (arIn P) c)

theorem xok_of (G : Glo S T P mg) (B : Tabs S T P mg aF aI fF fI pF pI) {n : Nat} (gF : GoodF S T P prog w mg base aF fF pF n) (gI : GoodI S T P prog w mg base aI fI pI n) {X : Cx}
    (hP : X.prog = prog) (hw : X.w = w) (hK : X.K = S.K) (hm : X.mg = mg) (hb : X.base = base) (hc : X.calm = true) (nd : X.N.Nodup) (room : Room (2 * n + 1) X.A) : XOk S (sem P n) T (2 * n + 1) (arIn P) X := by
  subst hP hw hm hb
  have fa : ∀ f, (P.fs[f]?).isSome = true → FA X S (sem P n) T (2 * n + 1) f (aF f) := fun f hf => by
    obtain ⟨d, hd⟩ := Option.isSome_iff_exists.mp hf
    have A := gF f d hd
    refine ⟨fF f, pF f, 2 * n, Nat.le_refl _, ?_, ?_⟩
    · rw [hK]
      exact (B.F f d hd).bd
    · rw [hK]
      exact A
  refine XOk.mk hc hK nd room (fun f x h => ?_) (fun c m f h => ?_) (fun c x h => ?_) (fun c f j h => ?_) G.blt G.bid G.bin5 G.bin6 G.bin7 (fun c f h => by rw [fm_M] at h; rw [hK]; exact G.ne c f h) G.lcm G.gcd G.glb
    (fun c h => G.cnx c (by rw [fm_nc] at h; exact h)) (fun c h => by rw [hK]; exact G.tyI c (by rw [fm_nc] at h; exact h)) (fun c d h1 h2 => by rw [hK]; exact G.isi1 c d (by rw [fm_nc] at h1; exact h1) (by rw [fm_nc] at h2; exact h2))
    (fun c h => by rw [hK]; exact G.isi2 c (by rw [fm_nc] at h; exact h)) (fun c h => by rw [hK]; exact G.isi3 c (by rw [fm_nc] at h; exact h)) (fun f ds QD h => by rw [G.ar]; exact sem_ar P n f ds QD h) (fun c ds QD h => sem_arI P n c ds QD h)
  · obtain ⟨h1, h2, h3⟩ := B.fns f x h
    exact ⟨_, h1, by rw [hK]; exact h2, fa f h3⟩
  · rw [fm_M] at h
    obtain ⟨h1, h2, h3⟩ := G.mth c m f h
    obtain ⟨h4, h5⟩ := B.mth c m f h
    rw [hK]
    exact ⟨h1, ⟨_, h4, fa f h5⟩, h2, h3⟩
  · obtain ⟨h1, h2⟩ := B.mks c x h
    obtain ⟨d, hd⟩ := Option.isSome_iff_exists.mp h2
    refine ⟨G.mks c x h, aI c, fI c, pI c, 2 * n, by rw [hK]; exact h1, by rw [hK]; exact (B.I c d hd).bd, by rw [hK]; exact gI c d hd, Nat.le_refl _⟩
  · rw [fm_fx] at h
    rw [hK]
    exact G.fld c f j h

theorem args0_get {ds : List DV} {n i : Nat} {b : Bd} (h : (args0 ds n)[i]? = some (some b)) : ∃ d, ds[i]? = some d ∧ b = .val d := by
  unfold args0 at h
  rcases Nat.lt_or_ge i ds.length with q | q
  · rw [List.getElem?_append_left (by rw [List.length_map]; exact q), List.getElem?_map] at h
    cases e : ds[i]? with
    | none =>
      rw [e] at h
      cases h
    | some d =>
      rw [e] at h
      cases h
      exact ⟨d, rfl, rfl⟩
  · rw [List.getElem?_append_right (by rw [List.length_map]; exact q)] at h
    have := List.mem_of_getElem? h
    rw [List.mem_replicate] at this
    cases this.2
theorem start_get {N : List Str} {vs : List V} {i : Nat} {v : V} (h : vs[i]? = some v) : (L2.start N vs)[i]? = some (some v) := by
  unfold L2.start
  have q : i < vs.length := (List.getElem?_eq_some_iff.mp h).1
  rw [List.getElem?_append_left (by rw [List.length_map]; exact q), List.getElem?_map, h]
  rfl
theorem start_ok {N : List Str} {ds : List DV} {vs : List V} {Hk H : Hp} {n : Nat} (i : Same Hk H) (r : Reps S Hk ds vs) (hn : N.length = n) : StOk S ⟨Hk, H, Hk, 0, 0⟩ (args0 ds n) Hk (L2.start N vs) H := by
  refine ⟨Step.refl i, fun j b e => ?_, fun j l p b c ne e1 e2 o1 o2 s1 s2 => ?_, ?_, Same.refl _⟩
  · obtain ⟨d, hd, rfl⟩ := args0_get e
    obtain ⟨v, hv, rv⟩ := r.get hd
    exact ⟨v, start_get hv, rv⟩
  · obtain ⟨d, _, rfl⟩ := args0_get e1
    cases o1
  · unfold L2.start args0
    simp only [List.length_append, List.length_map, List.length_replicate, r.length, hn]
theorem ends0_ok {f : Bool} {QD : DV → Prop} {Q : VK} {Hk H : Hp} {D : Ends} (hD : D = { nx := fun _ H' => Q .non H', rt := Q }) (g : if f = true then GivesL S Hk H QD Q else Gives S Hk H QD Q) : EndsOk S ⟨Hk, H, Hk, 0, 0⟩ (ends0 f QD) D := by
  subst hD
  refine ⟨fun Γ Hk' σ H' ok q => ?_, fun d v Hk' H' st r q => ?_, fun ds p vs Hk' H' st h0 h1 h2 r q => ?_, fun _ _ _ _ _ q => q.elim, fun _ _ _ _ _ q => q.elim⟩
  · obtain ⟨rfl, q⟩ := q
    exact g .non .non Hk' H' ok.st .non q
  · obtain ⟨rfl, q⟩ := q
    exact g d v Hk' H' st r q
  · cases f with
    | true => exact g ds p vs Hk' H' st h0 h1 h2 r q
    | false =>
      have g' : Gives S Hk H QD Q := g
      exact g'.toL ds p vs Hk' H' st h0 h1 h2 r q

theorem good0F (B : Tabs S T P mg aF aI fF fI pF pI) (G : Glo S T P mg) : GoodF S T P prog w mg base aF fF pF 0 := fun f d hd => by
  refine ⟨fun vs H Q E h => ?_, fun A outer s H args us vs Q E hr he hb hv h => ?_⟩
  · obtain ⟨_, _, _, _, _, _, z, _⟩ := h
    exact z.elim
  · obtain ⟨_, _, _, _, _, _, z, _⟩ := h
    exact z.elim
theorem good0I : GoodI S T P prog w mg base aI fI pI 0 := fun c d hd => by
  refine ⟨fun vs H Q E h => ?_, fun A outer s H args us vs Q E hr he hb hv h => ?_⟩
  · obtain ⟨_, _, _, _, _, _, _, _, _, _, _, _, z, _⟩ := h
    exact z.elim
  · obtain ⟨_, _, _, _, _, _, _, _, _, _, _, _, z, _⟩ := h
    exact z.elim

theorem stepF (G : Glo S T P mg) (B : Tabs S T P mg aF aI fF fI pF pI) {n : Nat} (gF : GoodF S T P prog w mg base aF fF pF n) (gI : GoodI S T P prog w mg base aI fI pI n) : GoodF S T P prog w mg base aF fF pF (n + 1) := fun f d hd => by
  obtain ⟨⟨x, qual, st, N, hF, hS, hm, hN⟩, bd, hl⟩ := B.F f d hd
  have A : FnOk prog w S.K mg base CX0 ((2 * n + 1) + 1) (aF f) (fF f) (pF f) (spF S (sem P (n + 1)) T f) := by
    refine hF.ok hS (fun vs H Q E h => ?_) (fun cdv A outer s H vs Q E hr h => ?_)
    · obtain ⟨ds, QD, Hk, i, r, hl', _⟩ := h
      rw [← r.length, hl', hl, G.ar, arFn, hd]
    · obtain ⟨ds, QD, Hk, i, r, hl', hF', g⟩ := h
      obtain ⟨d', e, hl2, hex⟩ := (show runF P (sem P n) f ds QD from hF')
      rw [hd] at e
      cases e
      refine ⟨rdS S (sem P n) d.body, mS_sound d.body _ _ hm _ (xok_of G B gF gI rfl rfl rfl rfl rfl rfl hS.nd hr) ⟨rfl, rfl, fun _ => rfl, rfl, hS.kind⟩, ?_⟩
      exact ⟨_, _, Hk, _, start_ok i r hN, hex, ends0_ok rfl (by rw [← G.frs]; exact g)⟩
  exact A

theorem startI_ok {N : List Str} {ds : List DV} {ws : List V} {Hk H : Hp} {n c : Nat} {p dx : Addr} (i : Same Hk H) (hp : H p = some (.ins (S.cls c) dx [])) (hk : Hk p = none) (r : Reps S Hk ds ws) (hn : N.length = n) (h1 : 1 ≤ n) :
    StOk S ⟨Hk, fun a => if a = p then none else H a, Hk, p, dx⟩ (some (.obj c []) :: args0 ds (n - 1)) Hk (L2.start N (.ref p :: ws)) H := by
  have ap : ∀ (j : Nat) (b : Bd), (some (Bd.obj c []) :: args0 ds (n - 1))[j]? = some (some b) → b.isOwn = true → j = 0 := fun j b e o => by
    cases j with
    | zero => rfl
    | succ j =>
      obtain ⟨d, _, rfl⟩ := args0_get (show (args0 ds (n - 1))[j]? = _ from e)
      cases o
  refine ⟨⟨Same.refl _, fun a o e => ?_, i, fun _ _ h => h⟩, fun j b e => ?_, fun j l q b c' ne e1 e2 o1 o2 s1 s2 => ?_, ?_, Same.refl _⟩
  · by_cases z : a = p
    · subst z
      simp at e
    · simpa [z] using e
  · cases j with
    | zero =>
      cases e
      refine ⟨.ref p, start_get rfl, p, dx, [], rfl, hp, hk, ?_, rfl, .nil, rfl, rfl⟩
      show (if p = p then none else H p) = none
      rw [if_pos rfl]
    | succ j =>
      obtain ⟨d, hd, rfl⟩ := args0_get (show (args0 ds (n - 1))[j]? = _ from e)
      obtain ⟨v, hv, rv⟩ := r.get hd
      exact ⟨v, start_get (vs := .ref p :: ws) hv, rv⟩
  · exact ne ((ap j b e1 o1).trans (ap l c' e2 o2).symm)
  · unfold L2.start args0
    simp only [List.length_append, List.length_map, List.length_replicate, List.length_cons, r.length, hn]
    omega
theorem stepI (G : Glo S T P mg) (B : Tabs S T P mg aF aI fF fI pF pI) {n : Nat} (gF : GoodF S T P prog w mg base aF fF pF n) (gI : GoodI S T P prog w mg base aI fI pI n) : GoodI S T P prog w mg base aI fI pI (n + 1) := fun c d hd => by
  obtain ⟨⟨x, qual, st, N, hF, hS, hm, hN⟩, bd, hl⟩ := B.I c d hd
  have hN1 : 1 ≤ d.nsl := by
    rw [← hN]
    have z := congrArg List.length hS.pre
    rw [List.length_take, hl] at z
    omega
  have A : FnOk prog w S.K mg base CX0 ((2 * n + 1) + 1) (aI c) (fI c) (pI c) (spI S (sem P (n + 1)) (arIn P) c) := by
    refine hF.ok hS (fun vs H Q E h => ?_) (fun cdv A outer s H vs Q E hr h => ?_)
    · obtain ⟨p, dx, ws, ds, QD, Hk, rfl, hp, hk, i, r, hl', _⟩ := h
      rw [List.length_cons, ← r.length, hl', hl, arIn, hd]
    · obtain ⟨p, dx, ws, ds, QD, Hk, rfl, hp, hk, i, r, hl', hI', g⟩ := h
      obtain ⟨d', e, hl2, hex⟩ := (show runI P (sem P n) c ds QD from hI')
      rw [hd] at e
      cases e
      refine ⟨rdS S (sem P n) d.body, mS_sound d.body _ _ hm _ (xok_of G B gF gI rfl rfl rfl rfl rfl rfl hS.nd hr) ⟨rfl, rfl, fun _ => rfl, rfl, hS.kind⟩, ?_⟩
      refine ⟨_, _, Hk, _, startI_ok i hp hk r hN hN1, hex, ⟨fun Γ Hk' σ H' ok q => ?_, fun _ _ _ _ _ _ q => q.elim, fun _ _ _ _ _ _ _ _ _ _ q => q.elim, fun _ _ _ _ _ q => q.elim, fun _ _ _ _ _ q => q.elim⟩⟩
      obtain ⟨vs, e0, hlen, q⟩ := q
      obtain ⟨v, sv, p', dx', fs, rfl, hp', hk', h0', hn', rr, rfl, rfl⟩ := ok.sl 0 _ e0
      refine g _ vs H' Hk' fs rfl hp' hk' ?_ rr ok.st q
      rw [hn', hlen, ← G.nfl c, List.take_length]
  exact A

theorem good (G : Glo S T P mg) (B : Tabs S T P mg aF aI fF fI pF pI) : ∀ n, GoodF S T P prog w mg base aF fF pF n ∧ GoodI S T P prog w mg base aI fI pI n
  | 0 => ⟨good0F B G, good0I⟩
  | n + 1 => ⟨stepF G B (good G B n).1 (good G B n).2, stepI G B (good G B n).1 (good G B n).2⟩

/-- the law's promise -/
def spLaw (K : PySem.W.Frag) (m : Nat) : Sp := fun vs H Q _ => ∃ a, ∃ ns : List Int, vs = [.ref a] ∧ SqL K H a (ns.map V.int) ∧ ns.length ≤ m ∧ ∀ H', Q (.bl true) H'
theorem law_ok (G : Glo S T P mg) (B : Tabs S T P mg aF aI fF fI pF pI) {n m f : Nat} {d : FDef} (hd : P.fs[f]? = some d) (hfr : P.fresh f = false) (har : arFn P f = 1) (h : ∀ ns : List Int, ns.length ≤ m → (sem P n).F f [.scr ns] (fun r => r = .bl true)) :
    FnOk prog w S.K mg base CX0 (2 * n) (aF f) (fF f) (pF f) (spLaw S.K m) := by
  refine ((good G B n).1 f d hd).imp fun vs H Q E q => ?_
  obtain ⟨a, ns, rfl, hs, hl, g⟩ := q
  refine ⟨[.scr ns], fun r => r = .bl true, H, Same.refl _, .one (.scr hs), by rw [G.ar, har]; rfl, h ns hl, ?_⟩
  rw [G.frs, hfr, if_neg Bool.false_ne_true]
  intro d' v Hk' H' st r q
  subst q
  rw [r.bl_inv]
  exact g H'
end

/-! ### tables, row by row -/
theorem gl_nil {P : Nat → Str → Int → Prop} : ∀ j x n, ([] : List (Str × Int))[j]? = some (x, n) → P j x n := fun f d n h => by simp at h
theorem gl_cons {a : Str} {m : Int} {l : List (Str × Int)} {P : Nat → Str → Int → Prop} (h0 : P 0 a m) (h : ∀ j x n, l[j]? = some (x, n) → P (j + 1) x n) : ∀ j x n, ((a, m) :: l)[j]? = some (x, n) → P j x n := fun f x n e => by
  cases f with
  | zero =>
    cases e
    exact h0
  | succ f => exact h f x n (by simpa using e)
theorem get_nil {α : Type} {P : Nat → α → Prop} : ∀ f d, ([] : List α)[f]? = some d → P f d := fun f d h => by simp at h
theorem get_cons {α : Type} {a : α} {l : List α} {P : Nat → α → Prop} (h0 : P 0 a) (h : ∀ f d, l[f]? = some d → P (f + 1) d) : ∀ f d, (a :: l)[f]? = some d → P f d := fun f d e => by
  cases f with
  | zero =>
    cases e
    exact h0
  | succ f => exact h f d (by simpa using e)
theorem lk_nil {P : Nat → Nat → Prop} : ∀ m f, ([] : List (Nat × Nat)).lookup m = some f → P m f := fun m f h => by simp at h
theorem lk_cons {m0 f0 : Nat} {l : List (Nat × Nat)} {P : Nat → Nat → Prop} (h0 : P m0 f0) (h : ∀ m f, l.lookup m = some f → P m f) : ∀ m f, ((m0, f0) :: l).lookup m = some f → P m f := fun m f e => by
  rw [List.lookup_cons] at e
  by_cases q : m = m0
  · subst q
    simp at e
    subst e
    exact h0
  · rw [beq_eq_false_iff_ne.mpr q] at e
    exact h m f e
theorem row_nil {P : Nat → Nat → Nat → Prop} : ∀ c m f, (([] : List (List (Nat × Nat))).getD c []).lookup m = some f → P c m f := fun c m f h => by simp at h
theorem row_cons {r : List (Nat × Nat)} {l : List (List (Nat × Nat))} {P : Nat → Nat → Nat → Prop} (h0 : ∀ m f, r.lookup m = some f → P 0 m f) (h : ∀ c m f, (l.getD c []).lookup m = some f → P (c + 1) m f) : ∀ c m f, ((r :: l).getD c []).lookup m = some f → P c m f := fun c m f e => by
  cases c with
  | zero => exact h0 m f e
  | succ c => exact h c m f (by simpa using e)
theorem mem_nil {α : Type} {P : α → Prop} : ∀ x ∈ ([] : List α), P x := fun x h => by cases h
theorem mem_cons {α : Type} {a : α} {l : List α} {P : α → Prop} (h0 : P a) (h : ∀ x ∈ l, P x) : ∀ x ∈ a :: l, P x := fun x e => by
  rcases List.mem_cons.mp e with rfl | e
  · exact h0
  · exact h x e
theorem lt_nil {P : Nat → Prop} : ∀ c, c < 0 → P c := fun c h => absurd h (Nat.not_lt_zero c)
theorem lt_cons {n : Nat} {P : Nat → Prop} (h0 : P 0) (h : ∀ c, c < n → P (c + 1)) : ∀ c, c < n + 1 → P c := fun c e => by
  cases c with
  | zero => exact h0
  | succ c => exact h c (by omega)
end Vg


set_option Elab.async false
set_option linter.all false
set_option maxRecDepth 100000
/-! Vg: plain rules for the wishes -/
namespace Vg
open PySem L2

section
variable {Sm : Sem} {Q : DV → Prop} {Γ : Env}
@[simp] theorem q_val {x : DV} {P : DV → Prop} : (∃ d, (some (some (Bd.val x)) : Option (Option Bd)) = some (some (Bd.val d)) ∧ P d) = P x := by simp
@[simp] theorem q_own {x : List DV} {P : List DV → Prop} : (∃ d, (some (some (Bd.own x)) : Option (Option Bd)) = some (some (Bd.own d)) ∧ P d) = P x := by simp
@[simp] theorem q_bl {x : Bool} {P : Bool → Prop} : (∃ d, DV.bl x = DV.bl d ∧ P d) = P x := by simp
@[simp] theorem q_int {x : Int} {P : Int → Prop} : (∃ d, DV.int x = DV.int d ∧ P d) = P x := by simp
@[simp] theorem q_lst {x : List DV} {P : List DV → Prop} : (∃ d, DV.lst x = DV.lst d ∧ P d) = P x := by simp
@[simp] theorem args_tup {ds : List DV} {P : List DV → Prop} : argsOf (.tup ds) P = P ds := rfl
@[simp] theorem part_non {P : Option Int → Prop} : partOf .non P = P none := rfl
@[simp] theorem part_int {i : Int} {P : Option Int → Prop} : partOf (.int i) P = P (some i) := rfl

@[simp] theorem bin_add {i j : Int} : binS Sm .Add (.int i) (.int j) Q = Q (.int (i + j)) := rfl
@[simp] theorem bin_sub {i j : Int} : binS Sm .Sub (.int i) (.int j) Q = Q (.int (i - j)) := rfl
@[simp] theorem bin_mul {i j : Int} : binS Sm .Mult (.int i) (.int j) Q = (CMul i j ∧ Q (.int (i * j))) := rfl
@[simp] theorem bin_fdiv {i j : Int} : binS Sm .FloorDiv (.int i) (.int j) Q = (CDv i j ∧ Q (.int (i.fdiv j))) := rfl
@[simp] theorem bin_mod {i j : Int} : binS Sm .Mod (.int i) (.int j) Q = (j ≠ 0 ∧ Q (.int (i.fmod j))) := rfl
@[simp] theorem bin_pow {i j : Int} : binS Sm .Pow (.int i) (.int j) Q = (CPow i j ∧ Q (.int (i ^ j.toNat))) := rfl
@[simp] theorem bin_cat {a b : List Nat} : binS Sm .Add (.str a) (.str b) Q = (a.length + b.length ≤ sizeLine ∧ Q (.str (a ++ b))) := by
  show (Operator.Add = Operator.Add ∧ _ ∧ _) = _
  simp
@[simp] theorem bin_rep {a : List Nat} {k : Int} : binS Sm .Mult (.str a) (.int k) Q = (-(2 ^ 63) ≤ k ∧ k < 2 ^ 63 ∧ a.length * k.toNat ≤ sizeLine ∧ Q (.str (rep a k.toNat))) := by
  show (Operator.Mult = Operator.Mult ∧ _ ∧ _ ∧ _ ∧ _) = _
  simp
@[simp] theorem bin_catL {a b : List DV} : binS Sm .Add (.lst a) (.lst b) Q = (a.length + b.length ≤ sizeLine ∧ Q (.lst (a ++ b))) := by
  show (Operator.Add = Operator.Add ∧ _ ∧ _) = _
  simp
@[simp] theorem bin_repL {a : List DV} {k : Int} : binS Sm .Mult (.lst a) (.int k) Q = (-(2 ^ 63) ≤ k ∧ k < 2 ^ 63 ∧ a.length * k.toNat ≤ sizeLine ∧ Q (.lst (rep a k.toNat))) := by
  show (Operator.Mult = Operator.Mult ∧ _ ∧ _ ∧ _ ∧ _) = _
  simp
theorem bin_own {o : Operator} {c m f : Nat} {vs us : List DV} (h1 : binId o = some m) (h2 : Sm.M c m = some f) (h : Sm.F f [.ins c vs, .ins c us] Q) : binS Sm o (.ins c vs) (.ins c us) Q := ⟨rfl, m, f, h1, h2, h⟩

@[simp] theorem un_neg {i : Int} : unS Sm .USub (.int i) Q = Q (.int (-i)) := rfl
theorem un_own {c f : Nat} {vs : List DV} (h2 : Sm.M c idInvert = some f) (h : Sm.F f [.ins c vs] Q) : unS Sm .Invert (.ins c vs) Q := ⟨f, h2, h⟩

@[simp] theorem cmp_lt {i j : Int} : cmpS Sm .Lt (.int i) (.int j) Q = Q (.bl (decide (i < j))) := by simp [cmpS]
@[simp] theorem cmp_le {i j : Int} : cmpS Sm .LtE (.int i) (.int j) Q = Q (.bl (decide (i ≤ j))) := by simp [cmpS]
@[simp] theorem cmp_gt {i j : Int} : cmpS Sm .Gt (.int i) (.int j) Q = Q (.bl (decide (j < i))) := by simp [cmpS]
@[simp] theorem cmp_ge {i j : Int} : cmpS Sm .GtE (.int i) (.int j) Q = Q (.bl (decide (j ≤ i))) := by simp [cmpS]
theorem eqv_scal {x y : DV} {a b : PyData} (h : scalD x y = true) (e1 : pd x = some a) (e2 : pd y = some b) : PyData.eqv a b = eqS x y := by
  cases x <;> cases y <;> first | (cases h; done) | (cases Option.some.inj e1; cases Option.some.inj e2; skip)
  · rfl
  · rename_i p q
    show (p == q) = decide (p = q)
    cases p <;> cases q <;> rfl
  · rename_i p q
    show (p == q) = decide (p = q)
    by_cases e : p = q
    · rw [e]
      simp
    · rw [decide_eq_false e]
      exact beq_eq_false_iff_ne.mpr e
  · rename_i p q
    show ((⟨p.toArray⟩ : Str) == ⟨q.toArray⟩) = decide (p = q)
    by_cases e : p = q
    · rw [e]
      simp
    · rw [decide_eq_false e]
      exact beq_eq_false_iff_ne.mpr fun z => e (str_inj z)
theorem cmp_eqS {x y : DV} (h : scalD x y = true) : cmpS Sm .Eq x y Q = Q (.bl (eqS x y)) := by
  refine propext ⟨fun z => ?_, fun z => .inl ⟨h, z⟩⟩
  rcases z with ⟨_, z⟩ | ⟨a, b, e1, e2, _, _, z⟩ | ⟨c, us, ws, f, rfl, _⟩
  · exact z
  · rwa [eqv_scal h e1 e2] at z
  · cases y <;> cases h
theorem cmp_neS {x y : DV} (h : scalD x y = true) : cmpS Sm .NotEq x y Q = Q (.bl (!eqS x y)) := by
  refine propext ⟨fun z => ?_, fun z => .inl ⟨h, z⟩⟩
  rcases z with ⟨_, z⟩ | ⟨a, b, e1, e2, _, _, z⟩ | ⟨c, us, ws, f, rfl, _⟩
  · exact z
  · rwa [eqv_scal h e1 e2] at z
  · simp [scalD] at h
@[simp] theorem cmp_eqI {i j : Int} : cmpS Sm .Eq (.int i) (.int j) Q = Q (.bl (decide (i = j))) := cmp_eqS rfl
@[simp] theorem cmp_eqT {i j : List Nat} : cmpS Sm .Eq (.str i) (.str j) Q = Q (.bl (decide (i = j))) := cmp_eqS rfl
@[simp] theorem cmp_eqB {i j : Bool} : cmpS Sm .Eq (.bl i) (.bl j) Q = Q (.bl (decide (i = j))) := cmp_eqS rfl
@[simp] theorem cmp_neI {i j : Int} : cmpS Sm .NotEq (.int i) (.int j) Q = Q (.bl (!decide (i = j))) := cmp_neS rfl
@[simp] theorem cmp_neT {i j : List Nat} : cmpS Sm .NotEq (.str i) (.str j) Q = Q (.bl (!decide (i = j))) := cmp_neS rfl
@[simp] theorem cmp_neB {i j : Bool} : cmpS Sm .NotEq (.bl i) (.bl j) Q = Q (.bl (!decide (i = j))) := cmp_neS rfl
@[simp] theorem cmp_inT {c : Nat} {s : List Nat} : cmpS Sm .In (.str [c]) (.str s) Q = Q (.bl (decide (c ∈ s))) := by
  refine propext ⟨fun z => ?_, fun z => .inr (.inl ⟨c, s, rfl, rfl, z⟩)⟩
  rcases z with ⟨ys, h, _⟩ | ⟨c', t, e1, e2, z⟩ | ⟨_, _, _, e, _⟩ | ⟨_, _, t, _, e, _⟩
  · rcases h with h | h <;> cases h
  · cases e1
    cases e2
    exact z
  · cases e
  · cases t <;> cases Option.some.inj e
theorem in_own {x : DV} {c f : Nat} {vs : List DV} (h2 : Sm.M c idContains = some f) (h : Sm.F f [.ins c vs, x] fun d => ∃ b, d = .bl b ∧ Q (.bl b)) : cmpS Sm .In x (.ins c vs) Q := .inr (.inr (.inl ⟨c, vs, f, rfl, h2, h⟩))
@[simp] theorem cmp_is {x : DV} : cmpS Sm .Is x .non Q = Q (.bl (isNon x)) := by simp [cmpS]
@[simp] theorem cmp_isn {x : DV} : cmpS Sm .IsNot x .non Q = Q (.bl (!isNon x)) := by simp [cmpS]

/-! ### loops -/
theorem for_up {st : Env → DV → (Env → Prop) → Prop} {body : Env → DE → Prop} {D : DE} {xs : List DV} (Pv : Nat → Env → Prop)
    (h : ∀ i x Γ, xs[i]? = some x → Pv i Γ → (∀ Γ', Pv (i + 1) Γ' → forW st body D (xs.drop (i + 1)) Γ') → forW st body D (x :: xs.drop (i + 1)) Γ) (he : ∀ Γ, Pv xs.length Γ → D.nx Γ) : ∀ Γ, Pv 0 Γ → forW st body D xs Γ := by
  have key : ∀ m i Γ, xs.length - i = m → i ≤ xs.length → Pv i Γ → forW st body D (xs.drop i) Γ := by
    intro m
    induction m with
    | zero =>
      intro i Γ e hi p
      have e2 : i = xs.length := by omega
      subst e2
      rw [List.drop_length]
      exact he Γ p
    | succ m ih =>
      intro i Γ e hi p
      have hlt : i < xs.length := by omega
      rw [List.drop_eq_getElem_cons hlt]
      exact h i _ Γ (List.getElem?_eq_getElem hlt) p fun Γ' p' => ih (i + 1) Γ' (by omega) (by omega) p'
  intro Γ p
  have := key _ 0 Γ rfl (Nat.zero_le _) p
  rwa [List.drop_zero] at this
theorem while_up {t : Env → (DV → Prop) → Prop} {body : Env → DE → Prop} {D : DE} (Pv : Nat → Env → Prop)
    (h : ∀ m n Γ, Pv m Γ → (∀ m' Γ', m' < m → Pv m' Γ' → whW t body D n Γ') → whW t body D (n + 1) Γ) {m : Nat} {Γ : Env} (p : Pv m Γ) : ∃ n, whW t body D n Γ := by
  have key : ∀ n m Γ, m < n → Pv m Γ → whW t body D n Γ := by
    intro n
    induction n with
    | zero => intro m Γ e; omega
    | succ n ih => exact fun m Γ e p => h m n Γ p fun m' Γ' hm p' => ih m' Γ' (by omega) p'
  exact ⟨m + 1, key _ m Γ (Nat.lt_succ_self m) p⟩
theorem lc_map {st : DV → (Env → Prop) → Prop} {elt : Env → (DV → Prop) → Prop} (f : DV → DV) : ∀ {xs acc : List DV} {Q : List DV → Prop}, (∀ x ∈ xs, ∀ K : DV → Prop, K (f x) → st x fun Γ' => elt Γ' K) → acc.length + xs.length ≤ sizeLine → Q (acc ++ xs.map f) →
    lcW st (fun Γ' Q' => ev Sm .tt Γ' Q') elt xs acc Q
  | [], acc, Q, _, _, q => by
    rw [List.map_nil, List.append_nil] at q
    exact q
  | x :: xs, acc, Q, h, hz, q => by
    have hx := h x List.mem_cons_self (fun y => acc.length < sizeLine ∧ lcW st (fun Γ' Q' => ev Sm .tt Γ' Q') elt xs (acc ++ [y]) Q) ⟨by simp only [List.length_cons] at hz; omega, lc_map f (fun y hy => h y (List.mem_cons_of_mem _ hy)) (by simp only [List.length_append, List.length_cons, List.length_nil] at hz ⊢; omega) (by rw [List.append_assoc]; exact q)⟩
    show st x fun Γ' => ∃ bb, DV.bl true = DV.bl bb ∧ _
    have e : (fun Γ' => ∃ bb, DV.bl true = DV.bl bb ∧ (if bb = true then elt Γ' (fun y => acc.length < sizeLine ∧ lcW st (fun Γ' Q' => ev Sm .tt Γ' Q') elt xs (acc ++ [y]) Q) else lcW st (fun Γ' Q' => ev Sm .tt Γ' Q') elt xs acc Q)) = fun Γ' => elt Γ' (fun y => acc.length < sizeLine ∧ lcW st (fun Γ' Q' => ev Sm .tt Γ' Q') elt xs (acc ++ [y]) Q) := by
      funext Γ'
      simp
    rw [e]
    exact hx
end
end Vg


set_option Elab.async false
set_option linter.all false
set_option maxRecDepth 100000
/-! Vg: plain rules for built-ins -/
namespace Vg
open PySem L2
section
variable {Sm : Sem} {Q : DV → Prop} {Γ : Env}
@[simp] theorem bi_lenS {s : List Nat} : biS .len [.str s] Q = (s.length ≤ sizeLine ∧ Q (.int s.length)) := rfl
@[simp] theorem bi_lenL {s : List DV} : biS .len [.lst s] Q = Q (.int s.length) := rfl
@[simp] theorem bi_lenT {s : List DV} : biS .len [.tup s] Q = Q (.int s.length) := rfl
@[simp] theorem bi_lenC {s : List Int} : biS .len [.scr s] Q = Q (.int s.length) := rfl
@[simp] theorem bi_intI {i : Int} : biS .int [.int i] Q = Q (.int i) := rfl
@[simp] theorem bi_intB {b : Bool} : biS .int [.bl b] Q = Q (.int (if b then 1 else 0)) := rfl
@[simp] theorem bi_max2 {i j : Int} : biS .max [.int i, .int j] Q = Q (.int (if j > i then j else i)) := rfl
@[simp] theorem bi_min2 {i j : Int} : biS .min [.int i, .int j] Q = Q (.int (if j < i then j else i)) := rfl
@[simp] theorem bi_lcm {i j : Int} : biS .lcm [.int i, .int j] Q = (i.natAbs < 2 ^ 64 ∧ j.natAbs < 2 ^ 64 ∧ Q (.int ((i.natAbs.lcm j.natAbs : Nat) : Int))) := rfl
theorem bi_int0 (h : Q (.int 0)) : biS .int [.str [48]] Q := ⟨0, by decide +kernel, by decide, h⟩
theorem bi_int1 (h : Q (.int 1)) : biS .int [.str [49]] Q := ⟨1, by decide +kernel, by decide, h⟩
/-- the int of a bit -/
def bitI (x : Nat) : Int := if x = 49 then 1 else 0
theorem bi_bit {x : Nat} (hx : x = 48 ∨ x = 49) (h : Q (.int (bitI x))) : biS .int [.str [x]] Q := by
  rcases hx with rfl | rfl
  · exact bi_int0 h
  · exact bi_int1 h
theorem bls_map {α : Type} {xs : List α} {f : α → Bool} : bls? (xs.map fun x => .bl (f x)) = some (xs.map f) := by
  induction xs with
  | nil => rfl
  | cons x xs ih =>
    show (bls? (xs.map fun x => .bl (f x))).map (f x :: ·) = _
    rw [ih]
    rfl
theorem strs_map {α : Type} {xs : List α} {f : α → List Nat} : strs? (xs.map fun x => .str (f x)) = some (xs.map f) := by
  induction xs with
  | nil => rfl
  | cons x xs ih =>
    show (strs? (xs.map fun x => .str (f x))).map (f x :: ·) = _
    rw [ih]
    rfl
theorem join_nil : ∀ ss : List (List Nat), TL.joinL [] ss = ss.flatten
  | [] => rfl
  | [p] => by simp [TL.joinL]
  | p :: q :: r => by
    rw [TL.joinL, join_nil (q :: r)]
    simp
/-- ''.join of one-sign texts -/
theorem bm_join1 {α : Type} {xs : List α} {f : α → Nat} (hz : xs.length ≤ sizeLine) (q : Q (.str (xs.map f))) : bmS .join (.str []) (.lst (xs.map fun x => .str [f x])) Q := by
  refine ⟨_, _, rfl, strs_map (f := fun x => [f x]), ?_, ?_⟩
  · have e : ∀ ys : List α, ((ys.map fun x => [f x]).map (·.length)).sum = ys.length := by
      intro ys
      induction ys with
      | nil => rfl
      | cons y ys ih => simp at ih ⊢; omega
    rw [e]
    have : (sizeLine : Nat) = 16777216 := by decide
    simp
    omega
  · rw [join_nil]
    have e : ∀ ys : List α, (ys.map fun x => [f x]).flatten = ys.map f := by
      intro ys
      induction ys with
      | nil => rfl
      | cons y ys ih => rw [List.map_cons, List.flatten_cons, ih]; rfl
    rw [e]
    exact q
theorem at_nat {α : Type} {xs : List α} {i : Nat} {v : α} (h : xs[i]? = some v) : atI xs (i : Int) = some v := atI_nat h
theorem idx_str {s : List Nat} {i : Nat} {c : Nat} (hz : s.length ≤ sizeLine) (h : s[i]? = some c) (q : Q (.str [c])) : idxS (.str s) (.int (i : Int)) Q := ⟨hz, c, at_nat h, q⟩
theorem idx_lst {s : List DV} {i : Nat} {c : DV} (h : s[i]? = some c) (q : Q c) : idxS (.lst s) (.int (i : Int)) Q := ⟨c, at_nat h, q⟩
theorem idx_tup {s : List DV} {i : Nat} {c : DV} (h : s[i]? = some c) (q : Q c) : idxS (.tup s) (.int (i : Int)) Q := ⟨c, at_nat h, q⟩
@[simp] theorem idx_l0 {a : DV} {r : List DV} : idxS (.lst (a :: r)) (.int 0) Q = Q a := by
  show (∃ d, atI (a :: r) 0 = some d ∧ Q d) = Q a
  rw [show atI (a :: r) 0 = some a from at_nat (i := 0) rfl]
  simp
@[simp] theorem idx_l1 {a b : DV} {r : List DV} : idxS (.lst (a :: b :: r)) (.int 1) Q = Q b := by
  show (∃ d, atI (a :: b :: r) 1 = some d ∧ Q d) = Q b
  rw [show atI (a :: b :: r) 1 = some b from at_nat (i := 1) rfl]
  simp
@[simp] theorem idx_t0 {a : DV} {r : List DV} : idxS (.tup (a :: r)) (.int 0) Q = Q a := idx_l0
@[simp] theorem idx_t1 {a b : DV} {r : List DV} : idxS (.tup (a :: b :: r)) (.int 1) Q = Q b := idx_l1
@[simp] theorem count_str {s : List Nat} {c : Nat} : bmS .count (.str s) (.str [c]) Q = Q (.int (countOne c s)) := rfl
theorem fmod_nat {a b : Nat} (h : 0 < b) : (a : Int).fmod (b : Int) = ((a % b : Nat) : Int) := by
  rw [Int.fmod_eq_emod_of_nonneg _ (by omega)]
  rfl
theorem fdiv_nat {a b : Nat} : (a : Int).fdiv (b : Int) = ((a / b : Nat) : Int) := by
  rw [Int.fdiv_eq_ediv_of_nonneg _ (by omega)]
  rfl
theorem slc_to {s : List Nat} {n : Nat} (hz : s.length ≤ sizeLine) (q : Q (.str (s.take n))) : slcS (.str s) none (some (n : Int)) Q := by
  refine ⟨hz, ?_⟩
  have e : cut s none (some (n : Int)) = s.take n := by
    unfold cut
    rw [HT.sIx_none, HT.sIx_nat, List.drop_zero, Nat.sub_zero]
    rcases Nat.le_total n s.length with h | h
    · rw [Nat.min_eq_left h]
    · rw [Nat.min_eq_right h, List.take_length, List.take_of_length_le h]
  rw [e]
  exact q
theorem slc_from {s : List Nat} {n : Nat} (hz : s.length ≤ sizeLine) (q : Q (.str (s.drop n))) : slcS (.str s) (some (n : Int)) none Q := by
  refine ⟨hz, ?_⟩
  have e : cut s (some (n : Int)) none = s.drop n := by
    unfold cut
    rw [HT.sIx_none, HT.sIx_nat]
    rcases Nat.le_total n s.length with h | h
    · rw [Nat.min_eq_left h, List.take_of_length_le (by rw [List.length_drop]; omega)]
    · rw [Nat.min_eq_right h, List.drop_length, List.drop_eq_nil_of_le h]
      simp
  rw [e]
  exact q
theorem cut_both {α : Type} {s : List α} {m n : Nat} : cut s (some (m : Int)) (some (n : Int)) = (s.take n).drop m := by
  unfold cut
  rw [HT.sIx_nat, HT.sIx_nat, List.drop_take]
  rcases Nat.le_total m s.length with h | h
  · rw [Nat.min_eq_left h]
    rcases Nat.le_total n s.length with h2 | h2
    · rw [Nat.min_eq_left h2]
    · rw [Nat.min_eq_right h2, List.take_of_length_le (by rw [List.length_drop]; omega), List.take_of_length_le (by rw [List.length_drop]; omega)]
  · rw [Nat.min_eq_right h, List.drop_length, List.drop_eq_nil_of_le h]
    simp
theorem atI_q {α : Type} {xs : List α} {i : Nat} : atI xs (i : Int) = xs[i]? := by
  cases e : xs[i]? with
  | some v => exact atI_nat e
  | none =>
    have h := List.getElem?_eq_none_iff.mp e
    unfold atI ixN
    rw [if_pos (by omega), if_neg (by omega)]
    rfl
@[simp] theorem idx_strN {s : List Nat} {i : Nat} : idxS (.str s) (.int (i : Int)) Q = (s.length ≤ sizeLine ∧ ∃ c, s[i]? = some c ∧ Q (.str [c])) := by
  show (_ ∧ ∃ c, atI s (i : Int) = some c ∧ _) = _
  rw [atI_q]
@[simp] theorem idx_lstN {s : List DV} {i : Nat} : idxS (.lst s) (.int (i : Int)) Q = (∃ c, s[i]? = some c ∧ Q c) := by
  show (∃ c, atI s (i : Int) = some c ∧ _) = _
  rw [atI_q]
@[simp] theorem idx_tupN {s : List DV} {i : Nat} : idxS (.tup s) (.int (i : Int)) Q = (∃ c, s[i]? = some c ∧ Q c) := idx_lstN
def endsN (Q : DV → Prop) : DE := { nx := fun _ => Q .non, rt := Q, ro := fun xs => Q (.lst xs), bk := fun _ => False, ct := fun _ => False }
def endsF (Q : DV → Prop) : DE := { nx := fun _ => False, rt := fun _ => False, ro := fun xs => Q (.lst xs), bk := fun _ => False, ct := fun _ => False }
theorem run_f {P : Prg} {k f : Nat} {ds : List DV} {d : FDef} (e : P.fs[f]? = some d) (hl : ds.length = d.ar) (hf : P.fresh f = false) (h : ex (sem P k) d.body (args0 ds d.nsl) (endsN Q)) : (sem P (k + 1)).F f ds Q := by
  refine ⟨d, e, hl, ?_⟩
  rw [hf]
  have e2 : ends0 false Q = endsN Q := by simp [ends0, endsN]
  rw [e2]
  exact h
theorem run_g {P : Prg} {k f : Nat} {ds : List DV} {d : FDef} (e : P.fs[f]? = some d) (hl : ds.length = d.ar) (hf : P.fresh f = true) (h : ex (sem P k) d.body (args0 ds d.nsl) (endsF Q)) : (sem P (k + 1)).F f ds Q := by
  refine ⟨d, e, hl, ?_⟩
  rw [hf]
  have e2 : ends0 true Q = endsF Q := by simp [ends0, endsF]
  rw [e2]
  exact h
theorem run_i {P : Prg} {k f : Nat} {ds : List DV} {d : FDef} (e : P.is[f]? = some d) (hl : ds.length = d.ar) (h : ex (sem P k) d.body (some (.obj f []) :: args0 ds (d.nsl - 1)) (endsI f (P.nf f) Q)) : (sem P (k + 1)).I f ds Q := ⟨d, e, hl, h⟩
theorem lc_mapA {α : Type} {st : DV → (Env → Prop) → Prop} {tst elt : Env → (DV → Prop) → Prop} (g f : α → DV) (ht : ∀ Γ' (K : DV → Prop), K (.bl true) → tst Γ' K) : ∀ {xs : List α} {acc : List DV} {Q : List DV → Prop}, (∀ x ∈ xs, ∀ K : Env → Prop, (∀ Γ', (∀ K2 : DV → Prop, K2 (f x) → elt Γ' K2) → K Γ') → st (g x) K) → acc.length + xs.length ≤ sizeLine → Q (acc ++ xs.map f) →
    lcW st tst elt (xs.map g) acc Q
  | [], acc, Q, _, _, q => by
    rw [List.map_nil, List.append_nil] at q
    exact q
  | x :: xs, acc, Q, h, hz, q => by
    refine h x List.mem_cons_self _ fun Γ' hk => ?_
    refine ht _ _ ⟨true, rfl, ?_⟩
    rw [if_pos rfl]
    refine hk _ ⟨by simp only [List.length_cons] at hz; omega, ?_⟩
    exact lc_mapA g f ht (fun y hy => h y (List.mem_cons_of_mem _ hy)) (by simp only [List.length_append, List.length_cons, List.length_nil] at hz ⊢; omega) (by rw [List.append_assoc]; exact q)
/-- for name in ..: by an invariant of the turn; the ends of the body are named -/
theorem for_one {i : Nat} {b : Cm} {D : DE} {xs : List DV} {Γ0 : Env} (Pv : Nat → Env → Prop)
    (h : ∀ j x Γ D', xs[j]? = some x → j < xs.length → Pv j Γ → D'.rt = D.rt → D'.ro = D.ro → D'.bk = D.nx → (∀ Γ', Pv (j + 1) Γ' → D'.nx Γ') → (∀ Γ', Pv (j + 1) Γ' → D'.ct Γ') → ex Sm b (Γ.set i (some (.val x))) D')
    (he : ∀ Γ, Pv xs.length Γ → D.nx Γ) (p : Pv 0 Γ0) : forW (fun Γ x K => stT (.one i) Γ x K) (fun Γ' D' => ex Sm b Γ' D') D xs Γ0 :=
  for_up Pv (fun j x Γ hx pj ih => h j x Γ { nx := forW (fun Γ x K => stT (.one i) Γ x K) (fun Γ' D' => ex Sm b Γ' D') D (xs.drop (j + 1)), rt := D.rt, ro := D.ro, bk := D.nx, ct := forW (fun Γ x K => stT (.one i) Γ x K) (fun Γ' D' => ex Sm b Γ' D') D (xs.drop (j + 1)) } hx (List.getElem?_eq_some_iff.mp hx).1 pj rfl rfl rfl ih ih) he Γ0 p
theorem while_one {t : E} {b : Cm} {D : DE} {m : Nat} {Γ0 : Env} (Pv : Nat → Env → Prop)
    (h : ∀ m Γ D', Pv m Γ → D'.rt = D.rt → D'.ro = D.ro → D'.bk = D.nx → (∀ m' Γ', m' < m → Pv m' Γ' → D'.nx Γ') → (∀ m' Γ', m' < m → Pv m' Γ' → D'.ct Γ') → ev Sm t Γ fun x => ∃ bb, x = .bl bb ∧ if bb = true then ex Sm b Γ D' else D.nx Γ)
    (p : Pv m Γ0) : ex Sm (.while_ t b) Γ0 D :=
  while_up Pv (fun m n Γ pm ih => h m Γ { nx := whW (fun Γ' Q' => ev Sm t Γ' Q') (fun Γ' D' => ex Sm b Γ' D') D n, rt := D.rt, ro := D.ro, bk := D.nx, ct := whW (fun Γ' Q' => ev Sm t Γ' Q') (fun Γ' D' => ex Sm b Γ' D') D n } pm rfl rfl rfl ih ih) p
theorem ex_for {tg : Tg} {it : E} {b : Cm} {D : DE} (h : ev Sm it Γ fun d => ∃ xs, itemsOf d = some xs ∧ forW (fun Γ x K => stT tg Γ x K) (fun Γ' D' => ex Sm b Γ' D') D xs Γ) : ex Sm (.for_ tg it b) Γ D := h
section
variable {a b : Cm} {e t : E} {i j : Nat} {D : DE}
theorem ex_nop : ex Sm .nop Γ D = D.nx Γ := rfl
theorem ex_seq : ex Sm (.seq a b) Γ D = ex Sm a Γ { nx := fun Γ' => ex Sm b Γ' D, rt := D.rt, ro := D.ro, bk := D.bk, ct := D.ct } := rfl
theorem ex_asg : ex Sm (.asg i e) Γ D = ev Sm e Γ fun d => D.nx (Γ.set i (some (.val d))) := rfl
theorem ex_asgO : ex Sm (.asgO i e) Γ D = ev Sm e Γ fun d => ∃ xs, d = .lst xs ∧ D.nx (Γ.set i (some (.own xs))) := rfl
theorem ex_app : ex Sm (.app i e) Γ D = ∃ xs, Γ[i]? = some (some (.own xs)) ∧ ev Sm e Γ fun d => xs.length < sizeLine ∧ D.nx (Γ.set i (some (.own (xs ++ [d])))) := rfl
theorem ex_ite : ex Sm (.ite t a b) Γ D = ev Sm t Γ fun x => ∃ c, x = .bl c ∧ if c = true then ex Sm a Γ D else ex Sm b Γ D := rfl
theorem ex_ret : ex Sm (.ret e) Γ D = ev Sm e Γ D.rt := rfl
theorem ex_retO : ex Sm (.retO i) Γ D = ∃ xs, Γ[i]? = some (some (.own xs)) ∧ D.ro xs := rfl
theorem ex_retF : ex Sm (.retF e) Γ D = ev Sm e Γ fun d => ∃ xs, d = .lst xs ∧ D.ro xs := rfl
end
end
end Vg


set_option Elab.async false
set_option linter.all false
set_option maxRecDepth 100000
set_option maxHeartbeats 4000000
/-! Vg: more plain rules -/
namespace Vg
open PySem L2
theorem nd {p : Prop} [Decidable p] (h : ¬ p) : ¬ decide p = true := fun z => h (of_decide_eq_true z)
mutual
/-- plain data of at most this depth -/
def datD : Nat → DV → Bool
  | _, .non => true
  | _, .bl _ => true
  | _, .int _ => true
  | _, .str s => PyData.strOk ⟨s.toArray⟩
  | n + 1, .lst xs => datDs n xs
  | n + 1, .tup xs => datDs n xs
  | _, _ => false
def datDs : Nat → List DV → Bool
  | _, [] => true
  | n, x :: r => datD n x && datDs n r
end
mutual
theorem dat_pd : ∀ {n : Nat} {d : DV}, datD n d = true → ∃ a, pd d = some a ∧ a.canLay0 = true ∧ a.depth ≤ n
  | _, .non, _ => ⟨_, rfl, by simp [PyData.canLay0], by simp [PyData.depth]⟩
  | _, .bl b, _ => ⟨_, rfl, by simp [PyData.canLay0], by simp [PyData.depth]⟩
  | _, .int i, _ => ⟨_, rfl, by simp [PyData.canLay0], by simp [PyData.depth]⟩
  | n, .str s, h => ⟨_, rfl, by cases n <;> simpa [PyData.canLay0, datD] using h, by simp [PyData.depth]⟩
  | n + 1, .lst xs, h => by
    obtain ⟨a, h1, h2, h3⟩ := dat_pds (n := n) (xs := xs) (by simpa [datD] using h)
    exact ⟨.list a, by simp [pd, h1], by simpa [PyData.canLay0] using h2, by simp [PyData.depth]; omega⟩
  | n + 1, .tup xs, h => by
    obtain ⟨a, h1, h2, h3⟩ := dat_pds (n := n) (xs := xs) (by simpa [datD] using h)
    exact ⟨.tuple a, by simp [pd, h1], by simpa [PyData.canLay0] using h2, by simp [PyData.depth]; omega⟩
  | 0, .lst xs, h => by simp [datD] at h
  | 0, .tup xs, h => by simp [datD] at h
  | n, .ins c xs, h => by cases n <;> simp [datD] at h
  | n, .scr xs, h => by cases n <;> simp [datD] at h
theorem dat_pds : ∀ {n : Nat} {xs : List DV}, datDs n xs = true → ∃ a, pd.pds xs = some a ∧ PyData.canLayAll0 a = true ∧ PyData.depthAll a ≤ n
  | n, [], _ => ⟨[], rfl, by simp [PyData.canLayAll0], by simp [PyData.depthAll]⟩
  | n, x :: r, h => by
    simp only [datDs, Bool.and_eq_true] at h
    obtain ⟨a, h1, h2, h3⟩ := dat_pd h.1
    obtain ⟨b, g1, g2, g3⟩ := dat_pds h.2
    exact ⟨a :: b, by simp [pd.pds, h1, g1], by simp [PyData.canLayAll0, h2, g2], by simp [PyData.depthAll]; omega⟩
end
mutual
theorem eqv_refl : ∀ {a : PyData}, a.canLay0 = true → PyData.eqv a a = true
  | .none, _ => by simp [PyData.eqv]
  | .bool b, _ => by simp [PyData.eqv]
  | .int i, _ => by simp [PyData.eqv]
  | .str s, _ => by simp [PyData.eqv]
  | .list xs, h => by
    simp only [PyData.eqv]
    exact eqvs_refl (by simpa [PyData.canLay0] using h)
  | .tuple xs, h => by
    simp only [PyData.eqv]
    exact eqvs_refl (by simpa [PyData.canLay0] using h)
  | .dict kvs, h => by simp [PyData.canLay0] at h
theorem eqvs_refl : ∀ {a : List PyData}, PyData.canLayAll0 a = true → PyData.eqvAll a a = true
  | [], _ => by simp [PyData.eqvAll]
  | x :: r, h => by
    simp only [PyData.canLayAll0, Bool.and_eq_true] at h
    simp only [PyData.eqvAll, Bool.and_eq_true]
    exact ⟨eqv_refl h.1, eqvs_refl h.2⟩
end
theorem dat_ints : ∀ {n : Nat} (xs : List Int), datDs n (xs.map DV.int) = true
  | _, [] => by simp [datDs]
  | n, x :: r => by
    rw [List.map_cons, datDs, dat_ints r]
    cases n <;> simp [datD]
theorem cut_from {α : Type} {s : List α} {n : Nat} : cut s (some (n : Int)) none = s.drop n := by
  unfold cut
  rw [HT.sIx_none, HT.sIx_nat]
  rcases Nat.le_total n s.length with h | h
  · rw [Nat.min_eq_left h, List.take_of_length_le (by rw [List.length_drop]; omega)]
  · rw [Nat.min_eq_right h, List.drop_length, List.drop_eq_nil_of_le h]
    simp
section
variable {Sm : Sem} {Q : DV → Prop}
theorem cmp_ninT {c : Nat} {s : List Nat} : cmpS Sm .NotIn (.str [c]) (.str s) Q = Q (.bl (!decide (c ∈ s))) := by
  refine propext ⟨fun z => ?_, fun z => .inr (.inl ⟨c, s, rfl, rfl, z⟩)⟩
  rcases z with ⟨ys, h, _⟩ | ⟨c', t, e1, e2, z⟩ | ⟨_, _, _, e, _⟩ | ⟨_, _, t, _, e, _⟩
  · rcases h with h | h <;> cases h
  · cases e1
    cases e2
    exact z
  · cases e
  · cases t <;> cases Option.some.inj e
theorem sqD_l {xs : List DV} : sqD false xs = .lst xs := rfl
theorem sqD_t {xs : List DV} : sqD true xs = .tup xs := rfl
theorem bi_tupL {xs : List DV} : biS .tuple [.lst xs] Q = Q (.tup xs) := rfl
theorem bi_tupT {xs : List DV} : biS .tuple [.tup xs] Q = Q (.tup xs) := rfl
theorem bi_listL {xs : List DV} : biS .list [.lst xs] Q = Q (.lst xs) := rfl
theorem bi_listT {xs : List DV} : biS .list [.tup xs] Q = Q (.lst xs) := rfl
theorem isN_non : isNon .non = true := rfl
theorem isN_int {i : Int} : isNon (.int i) = false := rfl
theorem isN_lst {i : List DV} : isNon (.lst i) = false := rfl
theorem isN_tup {i : List DV} : isNon (.tup i) = false := rfl
theorem isN_ins {c : Nat} {i : List DV} : isNon (.ins c i) = false := rfl
theorem isi_int {nc : Nat} {n : Int} {R : Bool → Prop} : (∃ b, tyOk nc .int = true ∧ tyS nc .int (.int n) = some b ∧ R b) = R true := by
  simp [tyOk, tyS]
theorem isi_intB {nc : Nat} {n : Int} {R : Bool → Prop} : (∃ b, tyOk nc .bool = true ∧ tyS nc .bool (.int n) = some b ∧ R b) = R false := by
  simp [tyOk, tyS]
theorem isi_blB {nc : Nat} {n : Bool} {R : Bool → Prop} : (∃ b, tyOk nc .bool = true ∧ tyS nc .bool (.bl n) = some b ∧ R b) = R true := by
  simp [tyOk, tyS]
theorem isi_tup {nc : Nat} {n : List DV} {R : Bool → Prop} : (∃ b, tyOk nc .tuple = true ∧ tyS nc .tuple (.tup n) = some b ∧ R b) = R true := by
  simp [tyOk, tyS]
theorem isi_strS {nc : Nat} {n : List Nat} {R : Bool → Prop} : (∃ b, tyOk nc .str = true ∧ tyS nc .str (.str n) = some b ∧ R b) = R true := by
  simp [tyOk, tyS]
theorem lc_filtA {α : Type} {st : DV → (Env → Prop) → Prop} {tst elt : Env → (DV → Prop) → Prop} (g f : α → DV) (t : α → Bool) : ∀ {xs : List α} {acc : List DV} {Q : List DV → Prop}, (∀ x ∈ xs, ∀ K : Env → Prop, (∀ Γ', (∀ K2 : DV → Prop, K2 (.bl (t x)) → tst Γ' K2) → (∀ K2 : DV → Prop, K2 (f x) → elt Γ' K2) → K Γ') → st (g x) K) → acc.length + xs.length ≤ sizeLine → Q (acc ++ (xs.filter t).map f) →
    lcW st tst elt (xs.map g) acc Q
  | [], acc, Q, _, _, q => by
    rw [List.filter_nil, List.map_nil, List.append_nil] at q
    exact q
  | x :: xs, acc, Q, h, hz, q => by
    refine h x List.mem_cons_self _ fun Γ' ht hk => ?_
    have hy := fun y hy => h y (List.mem_cons_of_mem x hy)
    rw [List.filter_cons] at q
    simp only [List.length_cons] at hz
    by_cases hb : t x = true
    · rw [if_pos hb, List.map_cons] at q
      refine ht _ ⟨true, by rw [hb], ?_⟩
      rw [if_pos rfl]
      refine hk _ ⟨by omega, ?_⟩
      exact lc_filtA g f t hy (by simp only [List.length_append, List.length_cons, List.length_nil]; omega) (by rw [List.append_assoc]; exact q)
    · rw [if_neg hb] at q
      refine ht _ ⟨false, by rw [Bool.not_eq_true] at hb; rw [hb], ?_⟩
      rw [if_neg (by decide)]
      exact lc_filtA g f t hy (by omega) q
theorem ixN_nat {n k : Nat} (h : k < n) : ixN n (k : Int) = some k := by
  unfold ixN
  rw [if_pos (by omega), if_pos (by omega), Int.toNat_natCast]
theorem cmp_ne_data {x y : DV} {a b : PyData} (h1 : pd x = some a) (h2 : pd y = some b) (h3 : SeqAt.shaped a = true) (h4 : SeqAt.shaped b = true) (q : Q (.bl (!PyData.eqv a b))) : cmpS Sm .NotEq x y Q := .inr (.inl ⟨a, b, h1, h2, h3, h4, q⟩)
theorem cmp_eq_data {x y : DV} {a b : PyData} (h1 : pd x = some a) (h2 : pd y = some b) (h3 : SeqAt.shaped a = true) (h4 : SeqAt.shaped b = true) (q : Q (.bl (PyData.eqv a b))) : cmpS Sm .Eq x y Q := .inr (.inl ⟨a, b, h1, h2, h3, h4, q⟩)
theorem cmp_ne_refl {x : DV} (h : datD 64 x = true) (q : Q (.bl false)) : cmpS Sm .NotEq x x Q := by
  obtain ⟨a, h1, h2, h3⟩ := dat_pd h
  refine cmp_ne_data h1 h1 (by unfold SeqAt.shaped; rw [h2, Bool.true_and]; exact decide_eq_true h3) (by unfold SeqAt.shaped; rw [h2, Bool.true_and]; exact decide_eq_true h3) ?_
  rw [eqv_refl h2]
  exact q
theorem cmp_eq_refl {x : DV} (h : datD 64 x = true) (q : Q (.bl true)) : cmpS Sm .Eq x x Q := by
  obtain ⟨a, h1, h2, h3⟩ := dat_pd h
  refine cmp_eq_data h1 h1 (by unfold SeqAt.shaped; rw [h2, Bool.true_and]; exact decide_eq_true h3) (by unfold SeqAt.shaped; rw [h2, Bool.true_and]; exact decide_eq_true h3) ?_
  rw [eqv_refl h2]
  exact q
theorem ex_frz {i : Nat} {b : Cm} {Γ : Env} {D : DE} : ex Sm (.frz i b) Γ D = ∃ xs, Γ[i]? = some (some (.own xs)) ∧ ex Sm b (Γ.set i (some (.val (.lst xs)))) D := rfl
theorem ex_seti {i : Nat} {ix e : E} {Γ : Env} {D : DE} : ex Sm (.seti i ix e) Γ D = ev Sm e Γ fun d => ∃ xs, Γ[i]? = some (some (.own xs)) ∧ ev Sm ix Γ fun y => ∃ k j, y = .int k ∧ ixN xs.length k = some j ∧ D.nx (Γ.set i (some (.own (xs.set j d)))) := rfl
theorem inD_nats {r : Nat} : ∀ {xs : List Nat}, inD (.int (r : Int)) (xs.map fun n : Nat => DV.int (n : Int)) = decide (r ∈ xs)
  | [] => rfl
  | x :: xs => by
    have ih := inD_nats (r := r) (xs := xs)
    unfold inD at ih ⊢
    rw [List.map_cons, List.any_cons, ih]
    simp only [eqS, List.mem_cons]
    by_cases h : r = x
    · subst h
      simp
    · have h2 : ¬ (x : Int) = (r : Int) := by omega
      simp [h, h2]
theorem same_nats {r : Nat} {xs : List Nat} : ((xs.map fun n : Nat => DV.int (n : Int)).all fun z => sameKind z (.int (r : Int))) = true := by
  rw [List.all_map, List.all_eq_true]
  intro x _
  rfl
/-- the numbers of a list or a tuple -/
def NatsD (d : DV) (xs : List Nat) : Prop := d = .lst (xs.map fun n : Nat => DV.int (n : Int)) ∨ d = .tup (xs.map fun n : Nat => DV.int (n : Int))
theorem NatsD.items {d : DV} {xs : List Nat} (h : NatsD d xs) : itemsOf d = some (xs.map fun n : Nat => DV.int (n : Int)) := by
  rcases h with rfl | rfl <;> rfl
theorem in_nats {r : Nat} {d : DV} {xs : List Nat} (h : NatsD d xs) (q : Q (.bl (decide (r ∈ xs)))) : cmpS Sm .In (.int (r : Int)) d Q := by
  refine .inl ⟨_, h, rfl, same_nats, ?_⟩
  rw [inD_nats]
  exact q
theorem nin_nats {r : Nat} {d : DV} {xs : List Nat} (h : NatsD d xs) (q : Q (.bl (!decide (r ∈ xs)))) : cmpS Sm .NotIn (.int (r : Int)) d Q := by
  refine .inl ⟨_, h, rfl, same_nats, ?_⟩
  rw [inD_nats]
  exact q
theorem dat_nats {n : Nat} (xs : List Nat) : datDs n (xs.map fun n : Nat => DV.int (n : Int)) = true := by
  have := dat_ints (n := n) (xs.map fun n : Nat => (n : Int))
  rw [List.map_map] at this
  exact this
theorem ints_nats : ∀ {xs : List Nat}, ints? (xs.map fun n : Nat => DV.int (n : Int)) = some (xs.map fun n : Nat => (n : Int))
  | [] => rfl
  | x :: xs => by
    rw [List.map_cons, List.map_cons]
    rw [ints?, ints_nats]
    rfl
theorem sorted_nats {xs : List Nat} (q : ∀ ys : List Nat, ys.Perm xs → ys.Pairwise (· ≤ ·) → Q (.lst (ys.map fun n : Nat => .int (n : Int)))) : biS .sorted [.lst (xs.map fun n : Nat => .int (n : Int))] Q := by
  refine ⟨_, ints_nats, fun ms hp hs => ?_⟩
  have hpos : ∀ m ∈ ms, 0 ≤ m := fun m hm => by
    obtain ⟨n, _, rfl⟩ := List.mem_map.1 (hp.mem_iff.1 hm)
    omega
  have e : ms.map DV.int = (ms.map Int.toNat).map fun n : Nat => DV.int (n : Int) := by
    rw [List.map_map]
    refine List.map_congr_left fun m hm => ?_
    have := hpos m hm
    show DV.int m = DV.int ((m.toNat : Nat) : Int)
    rw [Int.toNat_of_nonneg this]
  rw [e]
  refine q _ ?_ ?_
  · have := hp.map Int.toNat
    rw [List.map_map, show (Int.toNat ∘ fun n : Nat => (n : Int)) = id from funext fun n => Int.toNat_natCast n, List.map_id] at this
    exact this
  · rw [List.pairwise_map]
    exact hs.imp fun {a b} h => by omega
theorem cmp_isB {a b : Bool} : cmpS Sm .Is (.bl a) (.bl b) Q = Q (.bl (decide (a = b))) := by simp [cmpS]
theorem cmp_isnB {a b : Bool} : cmpS Sm .IsNot (.bl a) (.bl b) Q = Q (.bl (!decide (a = b))) := by simp [cmpS]
theorem bi_sumL {xs : List DV} : biS .sum [.lst xs] Q = ∃ ns, ints? xs = some ns ∧ Q (.int ns.sum) := rfl
theorem cut_neg_to {α : Type} {s : List α} {n : Nat} (h : 0 < n) (hn : n ≤ s.length) : cut s none (some (-(n : Int))) = s.take (s.length - n) := by
  have e : HT.sIx s.length s.length (some (-(n : Int))) = s.length - n := by
    show (if -(n : Int) < 0 then (-(n : Int) + (s.length : Int)).toNat else _) = _
    rw [if_pos (by omega)]
    omega
  unfold cut
  rw [HT.sIx_none, e, List.drop_zero, Nat.sub_zero]
theorem cut_neg_from {α : Type} {s : List α} {n : Nat} (h : 0 < n) (hn : n ≤ s.length) : cut s (some (-(n : Int))) none = s.drop (s.length - n) := by
  have e : HT.sIx s.length 0 (some (-(n : Int))) = s.length - n := by
    show (if -(n : Int) < 0 then (-(n : Int) + (s.length : Int)).toNat else _) = _
    rw [if_pos (by omega)]
    omega
  unfold cut
  rw [HT.sIx_none, e, List.take_of_length_le (by rw [List.length_drop]; omega)]
theorem max_nats {xs : List Nat} (h : 0 < xs.length) (q : ∀ m, m ∈ xs → (∀ y ∈ xs, y ≤ m) → Q (.int (m : Int))) : biS .max [.lst (xs.map fun n : Nat => .int (n : Int))] Q := by
  refine ⟨_, ints_nats, by rw [List.length_map]; exact h, fun m hm hy => ?_⟩
  obtain ⟨n, hn, rfl⟩ := List.mem_map.1 hm
  exact q n hn fun y hy' => by
    have := hy _ (List.mem_map.2 ⟨y, hy', rfl⟩)
    omega
theorem sum_nats {xs : List Nat} (q : Q (.int ((xs.sum : Nat) : Int))) : biS .sum [.lst (xs.map fun n : Nat => .int (n : Int))] Q := by
  refine ⟨_, ints_nats, ?_⟩
  have e : ∀ xs : List Nat, (xs.map fun n : Nat => (n : Int)).sum = ((xs.sum : Nat) : Int) := fun xs => by
    induction xs with
    | nil => rfl
    | cons x r ih => rw [List.map_cons, List.sum_cons, List.sum_cons, ih, Int.natCast_add]
  rw [e]
  exact q
theorem index_nats {xs : List Nat} {j y : Nat} (h : xs[j]? = some y) (h2 : ∀ i, i < j → xs[i]? ≠ some y) (q : Q (.int ((j : Nat) : Int))) : bmS .index (.lst (xs.map fun n : Nat => .int (n : Int))) (.int (y : Int)) Q := by
  refine .inl ⟨_, _, j, rfl, ints_nats, ?_, fun i hi e => ?_, q⟩
  · rw [List.getElem?_map, h]
    rfl
  · rw [List.getElem?_map] at e
    rcases hg : xs[i]? with _ | x
    · rw [hg] at e
      cases e
    · rw [hg] at e
      have e : some (x : Int) = some (y : Int) := e
      have : x = y := by
        have := Option.some.inj e
        omega
      exact h2 i hi (by rw [hg, this])
theorem for_cons {tg : Tg} {b : Cm} {D : DE} {x : DV} {xs : List DV} {Γ : Env} : forW (fun Γ x K => stT tg Γ x K) (fun Γ' D' => ex Sm b Γ' D') D (x :: xs) Γ = stT tg Γ x (fun Γ' => ex Sm b Γ' { nx := forW (fun Γ x K => stT tg Γ x K) (fun Γ' D' => ex Sm b Γ' D') D xs, rt := D.rt, ro := D.ro, bk := D.nx, ct := forW (fun Γ x K => stT tg Γ x K) (fun Γ' D' => ex Sm b Γ' D') D xs }) := rfl
theorem for_nil {tg : Tg} {b : Cm} {D : DE} {Γ : Env} : forW (fun Γ x K => stT tg Γ x K) (fun Γ' D' => ex Sm b Γ' D') D [] Γ = D.nx Γ := rfl
end
theorem q_som {α : Type} {x : α} {R : α → Prop} : (∃ d, some x = some d ∧ R d) = R x := by simp
theorem bi_max3 {i j l : Int} : biS .max [.int i, .int j, .int l] Q = Q (.int (if l > (if j > i then j else i) then l else (if j > i then j else i))) := rfl
theorem idx_t2 {Q : DV → Prop} {a b c : DV} {r : List DV} : idxS (.tup (a :: b :: c :: r)) (.int 2) Q = Q c := by
  have := idx_tupN (Q := Q) (s := a :: b :: c :: r) (i := 2)
  rw [show (((2 : Nat) : Int)) = 2 from rfl] at this
  rw [this]
  simp
theorem idx_l2 {Q : DV → Prop} {a b c : DV} {r : List DV} : idxS (.lst (a :: b :: c :: r)) (.int 2) Q = Q c := by
  have := idx_lstN (Q := Q) (s := a :: b :: c :: r) (i := 2)
  rw [show (((2 : Nat) : Int)) = 2 from rfl] at this
  rw [this]
  simp
theorem isLT_l {nc : Nat} {xs : List DV} {R : Bool → Prop} : (∃ b, isLT nc (.lst xs) = some b ∧ R b) = R true := by simp [isLT]
theorem isLT_t {nc : Nat} {xs : List DV} {R : Bool → Prop} : (∃ b, isLT nc (.tup xs) = some b ∧ R b) = R true := by simp [isLT]
theorem inD_bls {b : Bool} : ∀ {xs : List Bool}, inD (.bl b) (xs.map DV.bl) = decide (b ∈ xs)
  | [] => rfl
  | x :: r => by
    show (decide (x = b) || inD (.bl b) (r.map DV.bl)) = _
    rw [inD_bls]
    cases x <;> cases b <;> simp
theorem same_bls {b : Bool} {xs : List Bool} : ((xs.map DV.bl).all fun z => sameKind z (.bl b)) = true := by
  rw [List.all_eq_true]
  intro z hz
  obtain ⟨x, _, rfl⟩ := List.mem_map.1 hz
  rfl
theorem pds_bls : ∀ {xs : List Bool}, pd.pds (xs.map DV.bl) = some (xs.map PyData.bool)
  | [] => rfl
  | x :: r => by
    rw [List.map_cons, pd.pds, pds_bls]
    rfl
theorem eqv_bl (x b : Bool) : PyData.eqv (.bool x) (.bool b) = decide (x = b) := by cases x <;> cases b <;> simp [PyData.eqv]
theorem any_bls {b : Bool} : ∀ {xs : List Bool}, ((xs.map PyData.bool).any fun z => PyData.eqv z (.bool b)) = decide (b ∈ xs)
  | [] => rfl
  | x :: r => by
    rw [List.map_cons, List.any_cons, any_bls, eqv_bl]
    cases x <;> cases b <;> simp
theorem in_bls {b : Bool} {xs : List Bool} : cmpS Sm .In (.bl b) (.lst (xs.map DV.bl)) Q = Q (.bl (decide (b ∈ xs))) := by
  refine propext ⟨fun h => ?_, fun q => .inl ⟨_, .inl rfl, rfl, same_bls, by rw [inD_bls]; exact q⟩⟩
  rcases h with ⟨ys, e, _, _, q⟩ | ⟨c, s, e, _⟩ | ⟨c, vs, f, e, _⟩ | ⟨a, ds, t, e1, e2, _, _, q⟩
  · rcases e with e | e <;> cases e
    rw [inD_bls] at q
    exact q
  · cases e
  · cases e
  · have e2 : (pd.pds (xs.map DV.bl)).map PyData.list = some (seqP t ds) := e2
    rw [pds_bls] at e2
    cases e1
    cases t
    · cases e2
      rw [any_bls] at q
      exact q
    · cases Option.some.inj e2
theorem nin_bls {b : Bool} {xs : List Bool} : cmpS Sm .NotIn (.bl b) (.lst (xs.map DV.bl)) Q = Q (.bl (!decide (b ∈ xs))) := by
  refine propext ⟨fun h => ?_, fun q => .inl ⟨_, .inl rfl, rfl, same_bls, by rw [inD_bls]; exact q⟩⟩
  rcases h with ⟨ys, e, _, _, q⟩ | ⟨c, s, e, _⟩ | ⟨c, vs, f, e, _⟩ | ⟨a, ds, t, e1, e2, _, _, q⟩
  · rcases e with e | e <;> cases e
    rw [inD_bls] at q
    exact q
  · cases e
  · cases e
  · have e2 : (pd.pds (xs.map DV.bl)).map PyData.list = some (seqP t ds) := e2
    rw [pds_bls] at e2
    cases e1
    cases t
    · cases e2
      rw [any_bls] at q
      exact q
    · cases Option.some.inj e2
/-- a list made by a comprehension without a test -/
theorem idx_strG {s : List Nat} {i : Nat} (hz : s.length ≤ sizeLine) (h : i < s.length) (q : Q (.str [s.getD i 0])) : idxS (.str s) (.int (i : Int)) Q := by
  refine idx_str (c := s.getD i 0) hz ?_ q
  rw [List.getD_eq_getElem?_getD, List.getElem?_eq_getElem h]
  rfl
/-- a def that hands back its own list, fresh or not -/
theorem run_o {P : Prg} {k f : Nat} {ds : List DV} {d : FDef} (e : P.fs[f]? = some d) (hl : ds.length = d.ar) (h : ∀ D : DE, D.ro = (fun xs => Q (.lst xs)) → ex (sem P k) d.body (args0 ds d.nsl) D) : (sem P (k + 1)).F f ds Q :=
  ⟨d, e, hl, h (ends0 (P.fresh f) Q) rfl⟩
end Vg


set_option Elab.async false
set_option linter.all false
set_option maxRecDepth 100000
/-! plain facts of periodic texts -/
namespace Gk
open Vg

def cyc (c : List Nat) (n : Nat) : Nat := c.getD (n % c.length) 0
def bitAt (p c : List Nat) (n : Nat) : Nat := if n < p.length then p.getD n 0 else cyc c n
def Bits (s : List Nat) : Prop := ∀ x ∈ s, x = 48 ∨ x = 49
def Prim (c : List Nat) : Prop := ∀ d, 0 < d → d < c.length → c.length % d = 0 → c ≠ rep (c.take d) (c.length / d)
def Red (p c : List Nat) : Prop := ∀ n, p.length = n + 1 → p.getD n 0 ≠ cyc c n
structure Canon (p c l0 l1 : List Nat) : Prop where
  bp : Bits p
  bc : Bits c
  ne : 0 < c.length
  dvd : c.length ∣ l1.length
  le : p.length ≤ l0.length
  eq : ∀ n, bitAt p c n = bitAt l0 l1 n
  prim : Prim c
  red : Red p c
structure LC (w c : List Nat) : Prop where
  ne : 0 < c.length
  dvd : c.length ∣ w.length
  rp : w = rep c (w.length / c.length)
  prim : Prim c
structure LP (w cy p : List Nat) : Prop where
  le : p.length ≤ w.length
  tk : p = w.take p.length
  ps : ∀ n, p.length ≤ n → n < w.length → w.getD n 0 = cyc cy n
  red : Red p cy

theorem rep_len {α : Type} (w : List α) : ∀ k, (rep w k).length = k * w.length
  | 0 => by simp [rep]
  | k + 1 => by
    rw [rep, List.length_append, rep_len w k, Nat.succ_mul, Nat.add_comm]
theorem rep_get (w : List Nat) : ∀ k n, n < k * w.length → (rep w k).getD n 0 = w.getD (n % w.length) 0
  | 0, n, h => by omega
  | k + 1, n, h => by
    rw [rep]
    by_cases hn : n < w.length
    · rw [Nat.mod_eq_of_lt hn, List.getD_eq_getElem?_getD, List.getD_eq_getElem?_getD, List.getElem?_append_left hn]
    · have hk : n - w.length < k * w.length := by
        rw [Nat.succ_mul] at h
        omega
      have e : n % w.length = (n - w.length) % w.length := Nat.mod_eq_sub_mod (by omega)
      rw [e, ← rep_get w k _ hk, List.getD_eq_getElem?_getD, List.getD_eq_getElem?_getD, List.getElem?_append_right (by omega)]
theorem rep_mem {w : List Nat} {x : Nat} : ∀ k, x ∈ rep w k → x ∈ w
  | 0, h => by simp [rep] at h
  | k + 1, h => by
    rw [rep, List.mem_append] at h
    rcases h with h | h
    · exact h
    · exact rep_mem k h
theorem rep_rep {α : Type} (w : List α) (a : Nat) : ∀ b, rep (rep w a) b = rep w (b * a)
  | 0 => by simp [rep]
  | b + 1 => by
    have add : ∀ a c, rep w a ++ rep w c = rep w (a + c) := by
      intro a
      induction a with
      | zero => intro c; simp [rep]
      | succ a ih => intro c; rw [rep, List.append_assoc, ih, Nat.succ_add, rep]
    rw [rep, rep_rep w a b, add, Nat.succ_mul, Nat.add_comm]
theorem rep_take {w : List Nat} {d k : Nat} (hd : d ≤ w.length) (hk : 0 < k) : (rep w k).take d = w.take d := by
  cases k with
  | zero => omega
  | succ k => rw [rep, List.take_append_of_le_length hd]
theorem cyc_rep {w c : List Nat} (hc : 0 < c.length) (dv : c.length ∣ w.length) (hw : 0 < w.length) (e : w = rep c (w.length / c.length)) (n : Nat) : cyc w n = cyc c n := by
  unfold cyc
  have hn : n % w.length < w.length := Nat.mod_lt _ hw
  have h2 : w.length / c.length * c.length = w.length := Nat.div_mul_cancel dv
  have := rep_get c (w.length / c.length) (n % w.length) (by omega)
  rw [← e, Nat.mod_mod_of_dvd _ dv] at this
  exact this
theorem Bits.mono {s t : List Nat} (h : Bits t) (e : ∀ x ∈ s, x ∈ t) : Bits s := fun x hx => h x (e x hx)
theorem canon_init {l0 l1 c p : List Nat} (b0 : Bits l0) (b1 : Bits l1) (h : 0 < l1.length) (hc : LC l1 c) (hp : LP l0 c p) : Canon p c l0 l1 := by
  refine ⟨b0.mono fun x hx => ?_, b1.mono fun x hx => ?_, hc.ne, hc.dvd, hp.le, fun n => ?_, hc.prim, hp.red⟩
  · rw [hp.tk] at hx
    exact List.mem_of_mem_take hx
  · rw [hc.rp]
    have : 0 < l1.length / c.length := Nat.div_pos (Nat.le_of_dvd h hc.dvd) hc.ne
    cases e : l1.length / c.length with
    | zero => omega
    | succ k =>
      rw [rep]
      exact List.mem_append_left _ hx
  · unfold bitAt
    rw [cyc_rep hc.ne hc.dvd h hc.rp n]
    by_cases h1 : n < p.length
    · rw [if_pos h1, if_pos (Nat.lt_of_lt_of_le h1 hp.le)]
      have := congrArg (fun z => z.getD n 0) hp.tk
      simp only [List.getD_eq_getElem?_getD, List.getElem?_take_of_lt h1] at this ⊢
      exact this
    · rw [if_neg h1]
      by_cases h2 : n < l0.length
      · rw [if_pos h2, hp.ps n (by omega) h2]
      · rw [if_neg h2]
theorem Canon.trans {p c m0 m1 d0 d1 : List Nat} (h : Canon p c m0 m1) (dv : m1.length ∣ d1.length) (le : m0.length ≤ d0.length) (e : ∀ n, bitAt m0 m1 n = bitAt d0 d1 n) : Canon p c d0 d1 :=
  ⟨h.bp, h.bc, h.ne, Nat.dvd_trans h.dvd dv, Nat.le_trans h.le le, fun n => (h.eq n).trans (e n), h.prim, h.red⟩
theorem bit_mk {s per : Nat} {f g h : Nat → Nat} (hf : ∀ n, n < s → f n = h n) (hg : ∀ n, s ≤ n → g (n % per) = h n) (hp : 0 < per) (n : Nat) :
    bitAt ((List.range s).map f) ((List.range per).map g) n = h n := by
  unfold bitAt cyc
  simp only [List.length_map, List.length_range]
  by_cases h1 : n < s
  · rw [if_pos h1, ← hf n h1, List.getD_eq_getElem?_getD, List.getElem?_map, List.getElem?_range h1]
    rfl
  · rw [if_neg h1, ← hg n (by omega), List.getD_eq_getElem?_getD, List.getElem?_map, List.getElem?_range (Nat.mod_lt _ hp)]
    rfl
theorem bitAt_bits {p c : List Nat} (bp : Bits p) (bc : Bits c) (h : 0 < c.length) (n : Nat) : bitAt p c n = 48 ∨ bitAt p c n = 49 := by
  unfold bitAt cyc
  split
  · rename_i h1
    rw [List.getD_eq_getElem?_getD, List.getElem?_eq_getElem h1]
    exact bp _ (List.getElem_mem h1)
  · have h1 := Nat.mod_lt n h
    rw [List.getD_eq_getElem?_getD, List.getElem?_eq_getElem h1]
    exact bc _ (List.getElem_mem h1)
theorem lc_first {w : List Nat} {d : Nat} (h0 : 0 < d) (hd : d < w.length) (hm : w.length % d = 0) (e : w = rep (w.take d) (w.length / d)) (no : ∀ j, 0 < j → j < d → w.length % j = 0 → w ≠ rep (w.take j) (w.length / j)) : LC w (w.take d) := by
  have hl : (w.take d).length = d := by rw [List.length_take]; omega
  refine ⟨by omega, by rw [hl]; exact Nat.dvd_of_mod_eq_zero hm, by rw [hl]; exact e, fun j j0 jd jm je => ?_⟩
  rw [hl] at jd jm je
  have hdv : d ∣ w.length := Nat.dvd_of_mod_eq_zero hm
  have jdv : j ∣ d := Nat.dvd_of_mod_eq_zero jm
  refine no j j0 jd (Nat.mod_eq_zero_of_dvd (Nat.dvd_trans jdv hdv)) ?_
  rw [List.take_take, Nat.min_eq_left (by omega)] at je
  rw [je, rep_rep, Nat.div_mul_div_comm hdv jdv, Nat.mul_comm d j, Nat.mul_div_mul_right _ _ h0] at e
  exact e
theorem lc_self {w : List Nat} (h : 0 < w.length) (no : ∀ j, 0 < j → j < w.length → w.length % j = 0 → w ≠ rep (w.take j) (w.length / j)) : LC w w :=
  ⟨h, Nat.dvd_refl _, by rw [Nat.div_self h]; simp [rep], no⟩
theorem lp_of {w cy : List Nat} {k : Nat} (hk : k ≤ w.length) (ps : ∀ n, k ≤ n → n < w.length → w.getD n 0 = cyc cy n) (red : ∀ n, k = n + 1 → w.getD n 0 ≠ cyc cy n) : LP w cy (w.take k) := by
  have hl : (w.take k).length = k := by rw [List.length_take]; omega
  refine ⟨by omega, by rw [hl], by rw [hl]; exact ps, fun n hn => ?_⟩
  rw [hl] at hn
  rw [List.getD_eq_getElem?_getD, List.getElem?_take_of_lt (by omega), ← List.getD_eq_getElem?_getD]
  exact red n hn
end Gk


set_option Elab.async false
set_option linter.all false
set_option maxRecDepth 100000
/-! plain facts of counts -/
namespace Gk
open Vg

def has (p c : List Nat) (n : Nat) : Bool := decide (bitAt p c n = 49)
def rk (f : Nat → Bool) : Nat → Nat
  | 0 => 0
  | n + 1 => rk f n + (if f n = true then 1 else 0)
theorem rk_congr {f g : Nat → Bool} (h : ∀ n, f n = g n) : ∀ m, rk f m = rk g m
  | 0 => rfl
  | m + 1 => by rw [rk, rk, rk_congr h m, h m]
theorem rk_step {f : Nat → Bool} (n : Nat) : rk f n ≤ rk f (n + 1) := by
  rw [rk]
  omega
theorem rk_mono {f : Nat → Bool} {m : Nat} : ∀ {n : Nat}, m ≤ n → rk f m ≤ rk f n
  | 0, h => by
    have : m = 0 := by omega
    rw [this]
    exact Nat.le_refl _
  | n + 1, h => by
    by_cases e : m = n + 1
    · rw [e]
      exact Nat.le_refl _
    · exact Nat.le_trans (rk_mono (by omega)) (rk_step n)
theorem rk_lt {f : Nat → Bool} {m n : Nat} (hf : f m = true) (h : m < n) : rk f m < rk f n := by
  have h1 : rk f (m + 1) ≤ rk f n := rk_mono (by omega)
  rw [rk, if_pos hf] at h1
  omega
theorem rk_none {f : Nat → Bool} {a : Nat} : ∀ {b : Nat}, (∀ n, a ≤ n → n < b → f n = false) → a ≤ b → rk f b = rk f a
  | 0, _, h => by
    have : a = 0 := by omega
    rw [this]
  | b + 1, hf, h => by
    by_cases e : a = b + 1
    · rw [e]
    · rw [rk, hf b (by omega) (by omega), rk_none (fun n h1 h2 => hf n h1 (by omega)) (by omega)]
      simp
theorem rk_ext {f g : Nat → Bool} {s : Nat} (h : ∀ n, s ≤ n → f n = g n) : ∀ m, rk f (s + m) + rk g s = rk f s + rk g (s + m)
  | 0 => rfl
  | m + 1 => by
    have := rk_ext h m
    rw [← Nat.add_assoc, rk, rk, h (s + m) (by omega)]
    omega
theorem rk_ext0 {f g : Nat → Bool} : ∀ {m : Nat}, (∀ n, n < m → f n = g n) → rk f m = rk g m
  | 0, _ => rfl
  | m + 1, h => by rw [rk, rk, rk_ext0 fun n hn => h n (by omega), h m (by omega)]
theorem rk_per {g : Nat → Bool} {L : Nat} (h : ∀ n, g (n + L) = g n) : ∀ a, rk g (a + L) = rk g a + rk g L
  | 0 => by simp [rk]
  | a + 1 => by
    have := rk_per h a
    rw [show a + 1 + L = a + L + 1 by omega, rk, rk, h a]
    omega
theorem rk_pers {g : Nat → Bool} {L : Nat} (h : ∀ n, g (n + L) = g n) (a : Nat) : ∀ t, rk g (a + t * L) = rk g a + t * rk g L
  | 0 => by simp
  | t + 1 => by
    have := rk_pers h a t
    rw [Nat.succ_mul, Nat.succ_mul, ← Nat.add_assoc, rk_per h, this]
    omega
theorem countOne_take {s : List Nat} : ∀ {m : Nat}, m ≤ s.length → countOne 49 (s.take m) = rk (fun n => decide (s.getD n 0 = 49)) m
  | 0, _ => rfl
  | m + 1, h => by
    have := countOne_take (s := s) (m := m) (by omega)
    have hm : m < s.length := by omega
    rw [rk, ← this, List.take_succ, List.getD_eq_getElem?_getD, List.getElem?_eq_getElem hm]
    unfold countOne
    rw [List.filter_append, List.length_append]
    congr 1
    by_cases e : s[m] = 49
    · simp [e]
    · simp [e]
theorem countOne_all {s : List Nat} : countOne 49 s = rk (fun n => decide (s.getD n 0 = 49)) s.length := by
  have := countOne_take (s := s) (m := s.length) (Nat.le_refl _)
  rw [List.take_length] at this
  exact this
theorem countOne_pos {s : List Nat} : (49 ∈ s) ↔ 0 < countOne 49 s := by
  unfold countOne
  rw [List.length_pos_iff_exists_mem]
  constructor
  · intro h
    exact ⟨49, List.mem_filter.2 ⟨h, by decide⟩⟩
  · rintro ⟨x, hx⟩
    have := List.mem_filter.1 hx
    have e : x = 49 := by simpa using this.2
    rw [← e]
    exact this.1
section
variable {p c : List Nat}
theorem has_lt {n : Nat} (h : n < p.length) : has p c n = decide (p.getD n 0 = 49) := by
  unfold has bitAt
  rw [if_pos h]
theorem has_ge {n : Nat} (h : p.length ≤ n) : has p c n = decide (cyc c n = 49) := by
  unfold has bitAt
  rw [if_neg (by omega)]
theorem rk_pre {m : Nat} (h : m ≤ p.length) : rk (has p c) m = countOne 49 (p.take m) := by
  rw [countOne_take h]
  exact rk_ext0 fun n hn => has_lt (by omega)
theorem rk_head : rk (has p c) p.length = countOne 49 p := by
  rw [rk_pre (Nat.le_refl _), List.take_length]
theorem cyc_per (n : Nat) : cyc c (n + c.length) = cyc c n := by
  unfold cyc
  rw [Nat.add_mod_right]
theorem rk_cyc : rk (fun n => decide (cyc c n = 49)) c.length = countOne 49 c := by
  rw [countOne_all]
  exact rk_ext0 fun n hn => by
    unfold cyc
    rw [Nat.mod_eq_of_lt hn]
theorem rk_turns (t : Nat) : rk (has p c) (p.length + t * c.length) = countOne 49 p + t * countOne 49 c := by
  have h1 := rk_ext (f := has p c) (g := fun n => decide (cyc c n = 49)) (s := p.length) (fun n hn => has_ge hn) (t * c.length)
  have h2 := rk_pers (g := fun n => decide (cyc c n = 49)) (L := c.length) (fun n => by rw [cyc_per]) p.length t
  rw [rk_cyc] at h2
  rw [rk_head] at h1
  omega
theorem no_ones (h : ¬ 49 ∈ c) {n : Nat} (hc : 0 < c.length) (hn : p.length ≤ n) : has p c n = false := by
  rw [has_ge hn]
  have := Nat.mod_lt n hc
  have e : ¬ cyc c n = 49 := fun z => h (by
    rw [← z]
    unfold cyc
    rw [List.getD_eq_getElem?_getD, List.getElem?_eq_getElem this]
    exact List.getElem_mem this)
  simpa using e
theorem rk_fin (h : ¬ 49 ∈ c) {n : Nat} (hc : 0 < c.length) (hn : p.length ≤ n) : rk (has p c) n = countOne 49 p := by
  rw [rk_none (fun m h1 _ => no_ones h hc h1) hn, rk_head]
theorem rk_finle (h : ¬ 49 ∈ c) (hc : 0 < c.length) (n : Nat) : rk (has p c) n ≤ countOne 49 p := by
  by_cases hn : p.length ≤ n
  · rw [rk_fin h hc hn]
    exact Nat.le_refl _
  · rw [← rk_head (p := p) (c := c)]
    exact rk_mono (by omega)
theorem rk_inf (h : 49 ∈ c) (t : Nat) : t ≤ rk (has p c) (p.length + t * c.length) := by
  rw [rk_turns]
  have := countOne_pos.1 h
  have : t * 1 ≤ t * countOne 49 c := Nat.mul_le_mul_left _ this
  omega
end
theorem rk_le {f : Nat → Bool} : ∀ s, rk f s ≤ s
  | 0 => Nat.le_refl _
  | s + 1 => by
    have := rk_le (f := f) s
    rw [rk]
    split <;> omega
theorem has_red {p c : List Nat} {t m n : Nat} (hd : c.length ∣ t) (ht : 0 < t) (h1 : p.length ≤ m) (h2 : m ≤ n) : has p c (m + (n - m) % t) = has p c n := by
  rw [has_ge (by omega), has_ge (by omega)]
  have e : cyc c (m + (n - m) % t) = cyc c n := by
    have e2 := Nat.div_add_mod (n - m) t
    obtain ⟨w, rfl⟩ := hd
    unfold cyc
    have e3 : n = m + (n - m) % (c.length * w) + c.length * (w * ((n - m) / (c.length * w))) := by
      rw [← Nat.mul_assoc]
      omega
    conv => rhs; rw [e3]
    rw [Nat.add_mul_mod_self_left]
  rw [e]

/-- the least number from s on -/
def Nxt (f : Nat → Bool) (s : Nat) : Option Nat → Prop
  | none => ∀ n, s ≤ n → f n = false
  | some c => s ≤ c ∧ f c = true ∧ ∀ n, s ≤ n → n < c → f n = false
/-- the number with i members below it -/
def Num (f : Nat → Bool) (i : Nat) : Option Nat → Prop
  | none => ∀ n, rk f n ≤ i
  | some c => f c = true ∧ rk f c = i
theorem nxt_none {p c : List Nat} {s : Nat} (hc : 0 < c.length) (h : ∀ n, s ≤ n → n < max s p.length + c.length → has p c n = false) : Nxt (has p c) s none := fun n hn => by
  by_cases h1 : n < max s p.length + c.length
  · exact h n hn h1
  · rw [← has_red (t := c.length) (m := max s p.length) (Nat.dvd_refl _) hc (by omega) (by omega)]
    have := Nat.mod_lt (n - max s p.length) hc
    exact h _ (by omega) (by omega)
theorem list1 {x : Nat} : decide (([x] : List Nat) = [49]) = decide (x = 49) := by simp
structure Enum (f : Nat → Bool) (ms : List Nat) : Prop where
  at' : ∀ j x, ms[j]? = some x → f x = true ∧ rk f x = j
def oI : Option Nat → DV
  | none => .non
  | some c => .int (c : Int)
theorem Enum.filter {f : Nat → Bool} : ∀ n, Enum f ((List.range n).filter f) ∧ ((List.range n).filter f).length = rk f n ∧ ∀ x ∈ (List.range n).filter f, x < n
  | 0 => ⟨⟨fun j x h => by simp at h⟩, rfl, fun x h => by simp at h⟩
  | n + 1 => by
    obtain ⟨⟨h1⟩, h2, h3⟩ := Enum.filter (f := f) n
    rw [List.range_succ, List.filter_append, rk]
    by_cases hf : f n = true
    · have e : [n].filter f = [n] := by simp [hf]
      rw [e, if_pos hf]
      refine ⟨⟨fun j x h => ?_⟩, by simp [h2], fun x hx => ?_⟩
      · by_cases hj : j < ((List.range n).filter f).length
        · rw [List.getElem?_append_left hj] at h
          exact h1 j x h
        · rw [List.getElem?_append_right (by omega)] at h
          have e0 : j - ((List.range n).filter f).length = 0 := by
            rcases Nat.eq_zero_or_pos (j - ((List.range n).filter f).length) with z | z
            · exact z
            · rw [List.getElem?_eq_none (by simp; omega)] at h
              cases h
          rw [e0] at h
          simp at h
          subst h
          exact ⟨hf, by omega⟩
      · rcases List.mem_append.1 hx with hx | hx
        · exact Nat.lt_succ_of_lt (h3 x hx)
        · simp at hx
          omega
    · have e : [n].filter f = [] := by simp [hf]
      rw [e, List.append_nil, if_neg hf]
      exact ⟨⟨h1⟩, by omega, fun x hx => Nat.lt_succ_of_lt (h3 x hx)⟩
theorem Enum.take {f : Nat → Bool} {ms : List Nat} (h : Enum f ms) (k : Nat) : Enum f (ms.take k) := ⟨fun j x e => by
  rw [List.getElem?_take] at e
  split at e
  · exact h.at' j x e
  · cases e⟩
theorem Enum.lt {f : Nat → Bool} {ms : List Nat} (h : Enum f ms) {i j x y : Nat} (hi : ms[i]? = some x) (hj : ms[j]? = some y) (ij : i < j) : x < y := by
  obtain ⟨_, h1⟩ := h.at' _ _ hi
  obtain ⟨_, h2⟩ := h.at' _ _ hj
  rcases Nat.lt_or_ge x y with z | z
  · exact z
  · have := rk_mono (f := f) z
    omega
theorem Enum.len {f : Nat → Bool} {ms : List Nat} (h : Enum f ms) {t : Nat} (hb : ∀ n, rk f n ≤ t) : ms.length ≤ t := by
  rcases Nat.eq_zero_or_pos ms.length with z | z
  · omega
  · have e := List.getElem?_eq_getElem (l := ms) (i := ms.length - 1) (by omega)
    obtain ⟨h1, h2⟩ := h.at' _ _ e
    have := hb (ms[ms.length - 1] + 1)
    rw [rk, if_pos h1] at this
    omega
end Gk


set_option Elab.async false
set_option linter.all false
set_option maxRecDepth 100000
/-! a set has one least form -/
namespace Gk
open Vg
theorem cyc_gcd {a b : Nat} {g : Nat → Nat} (ha : ∀ n, g (n + a) = g n) (hb : ∀ n, g (n + b) = g n) : ∀ n, g (n + Nat.gcd a b) = g n := by
  have mul : ∀ {a : Nat}, (∀ n, g (n + a) = g n) → ∀ t n, g (n + t * a) = g n := fun {a} h t => by
    induction t with
    | zero => intro n; simp
    | succ t ih =>
      intro n
      rw [Nat.succ_mul, ← Nat.add_assoc, h, ih]
  induction a, b using Nat.gcd.induction with
  | H0 b =>
    rw [Nat.gcd_zero_left]
    exact hb
  | H1 a b h0 ih =>
    rw [Nat.gcd_rec]
    refine ih (fun n => ?_) ha
    have e := Nat.div_add_mod b a
    have h1 : g (n + b % a + b / a * a) = g (n + b % a) := mul ha _ _
    rw [← h1, Nat.add_assoc, show b % a + b / a * a = b by rw [Nat.mul_comm]; omega]
    exact hb n
theorem prim_min {c : List Nat} {g : Nat} (hc : 0 < c.length) (hp : Prim c) (hg : 0 < g) (hd : g ∣ c.length) (h : ∀ n, cyc c (n + g) = cyc c n) : g = c.length := by
  rcases Nat.lt_or_ge g c.length with z | z
  · exfalso
    refine hp g hg z (Nat.mod_eq_zero_of_dvd hd) (List.ext_getElem ?_ fun i h1 h2 => ?_)
    · rw [rep_len, List.length_take, Nat.min_eq_left (by omega), Nat.div_mul_cancel hd]
    · have hl : (c.take g).length = g := by rw [List.length_take]; omega
      have e1 : cyc c i = c[i] := by
        unfold cyc
        rw [Nat.mod_eq_of_lt h1, List.getD_eq_getElem?_getD, List.getElem?_eq_getElem h1]
        rfl
      have hper : ∀ t n, cyc c (n + t * g) = cyc c n := fun t => by
        induction t with
        | zero => intro n; simp
        | succ t ih =>
          intro n
          rw [Nat.succ_mul, ← Nat.add_assoc, h, ih]
      have hm := Nat.mod_lt i hg
      have e2 : cyc c i = cyc c (i % g) := by
        have e3 : i % g + i / g * g = i := by
          have := Nat.div_add_mod i g
          rw [Nat.mul_comm]
          omega
        conv => lhs; rw [← e3]
        exact hper _ _
      have e4 := rep_get (c.take g) (c.length / g) i (by rw [hl, Nat.div_mul_cancel hd]; exact h1)
      have e5 : (rep (c.take g) (c.length / g))[i] = (rep (c.take g) (c.length / g)).getD i 0 := by
        rw [List.getD_eq_getElem?_getD, List.getElem?_eq_getElem h2]
        rfl
      rw [e5, e4, hl, ← e1, e2]
      unfold cyc
      rw [Nat.mod_eq_of_lt (by omega), List.getD_eq_getElem?_getD, List.getD_eq_getElem?_getD, List.getElem?_take_of_lt hm]
  · have := Nat.le_of_dvd hc hd
    omega
theorem canon_uniq {p c p' c' l0 l1 m0 m1 : List Nat} (h : Canon p c l0 l1) (h' : Canon p' c' m0 m1) (e : ∀ n, bitAt l0 l1 n = bitAt m0 m1 n) : p = p' ∧ c = c' := by
  have eb : ∀ n, bitAt p c n = bitAt p' c' n := fun n => by rw [h.eq, h'.eq, e]
  have ec : ∀ n, cyc c n = cyc c' n := fun n => by
    have h1 : p.length + p'.length ≤ n + (p.length + p'.length) * (c.length * c'.length) := by
      have : (p.length + p'.length) * 1 ≤ (p.length + p'.length) * (c.length * c'.length) := Nat.mul_le_mul_left _ (Nat.mul_pos h.ne h'.ne)
      omega
    have h2 := eb (n + (p.length + p'.length) * (c.length * c'.length))
    unfold bitAt at h2
    rw [if_neg (by omega), if_neg (by omega)] at h2
    unfold cyc at h2 ⊢
    have e1 : (n + (p.length + p'.length) * (c.length * c'.length)) % c.length = n % c.length := by
      rw [show (p.length + p'.length) * (c.length * c'.length) = c.length * ((p.length + p'.length) * c'.length) by rw [Nat.mul_left_comm], Nat.add_mul_mod_self_left]
    have e2 : (n + (p.length + p'.length) * (c.length * c'.length)) % c'.length = n % c'.length := by
      rw [show (p.length + p'.length) * (c.length * c'.length) = c'.length * ((p.length + p'.length) * c.length) by rw [Nat.mul_comm c.length, Nat.mul_left_comm], Nat.add_mul_mod_self_left]
    rw [e1, e2] at h2
    exact h2
  have pa : ∀ n, cyc c (n + c.length) = cyc c n := cyc_per
  have pb : ∀ n, cyc c (n + c'.length) = cyc c n := fun n => by rw [ec, ec, cyc_per]
  have pg := cyc_gcd pa pb
  have g0 : 0 < Nat.gcd c.length c'.length := Nat.gcd_pos_of_pos_left _ h.ne
  have l1 := prim_min h.ne h.prim g0 (Nat.gcd_dvd_left _ _) pg
  have l2 := prim_min h'.ne h'.prim g0 (Nat.gcd_dvd_right _ _) (fun n => by rw [← ec, ← ec, pg])
  have lc : c.length = c'.length := by omega
  have hcc : c = c' := by
    refine List.ext_getElem lc fun i h1 h2 => ?_
    have := ec i
    unfold cyc at this
    rw [Nat.mod_eq_of_lt h1, Nat.mod_eq_of_lt h2, List.getD_eq_getElem?_getD, List.getElem?_eq_getElem h1, List.getD_eq_getElem?_getD, List.getElem?_eq_getElem h2] at this
    exact this
  refine ⟨?_, hcc⟩
  subst hcc
  have lp : p.length = p'.length := by
    rcases Nat.lt_trichotomy p.length p'.length with z | z | z
    · exfalso
      have h1 := eb (p'.length - 1)
      unfold bitAt at h1
      rw [if_neg (by omega), if_pos (by omega)] at h1
      exact h'.red (p'.length - 1) (by omega) h1.symm
    · exact z
    · exfalso
      have h1 := eb (p.length - 1)
      unfold bitAt at h1
      rw [if_pos (by omega), if_neg (by omega)] at h1
      exact h.red (p.length - 1) (by omega) h1
  refine List.ext_getElem lp fun i h1 h2 => ?_
  have := eb i
  unfold bitAt at this
  rw [if_pos h1, if_pos h2, List.getD_eq_getElem?_getD, List.getElem?_eq_getElem h1, List.getD_eq_getElem?_getD, List.getElem?_eq_getElem h2] at this
  exact this
/-- one more than the greatest -/
def topN (xs : List Nat) : Nat := xs.foldl (fun m x => max m (x + 1)) 0
theorem topN_take {xs : List Nat} {i x : Nat} (h : xs[i]? = some x) : topN (xs.take (i + 1)) = max (topN (xs.take i)) (x + 1) := by
  unfold topN
  rw [List.take_add_one, h, List.foldl_append]
  rfl
theorem topN_le {xs : List Nat} {t : Nat} : topN xs ≤ t ↔ ∀ x ∈ xs, x < t := by
  have key : ∀ (xs : List Nat) (m : Nat), xs.foldl (fun m x => max m (x + 1)) m ≤ t ↔ m ≤ t ∧ ∀ x ∈ xs, x < t := by
    intro xs
    induction xs with
    | nil => intro m; simp
    | cons x r ih =>
      intro m
      rw [List.foldl_cons, ih]
      simp only [List.mem_cons, forall_eq_or_imp]
      constructor
      · rintro ⟨h1, h2⟩
        exact ⟨by omega, by omega, h2⟩
      · rintro ⟨h1, h2, h3⟩
        exact ⟨by omega, h3⟩
  unfold topN
  rw [key]
  simp
def fwI (xs : List Nat) (i : Nat) : Nat := if i ∈ xs then 49 else 48
/-- the text of a finite set -/
def fw (xs : List Nat) : List Nat := (List.range (topN xs)).map (fwI xs)
/-- the text of chosen remainders -/
def rs (n : Nat) (xs : List Nat) : List Nat := (List.range n).map (fwI xs)
theorem fwI_bits (xs : List Nat) (i : Nat) : fwI xs i = 48 ∨ fwI xs i = 49 := by
  unfold fwI
  split
  · exact .inr rfl
  · exact .inl rfl
theorem fw_congr {xs ys : List Nat} (h : ∀ x, x ∈ xs ↔ x ∈ ys) : fw xs = fw ys := by
  have e : topN xs = topN ys := Nat.le_antisymm (topN_le.2 fun x hx => topN_le.1 (Nat.le_refl _) x ((h x).1 hx)) (topN_le.2 fun x hx => topN_le.1 (Nat.le_refl _) x ((h x).2 hx))
  unfold fw
  rw [e]
  have e2 : fwI xs = fwI ys := by
    funext i
    unfold fwI
    simp only [h i]
  rw [e2]
theorem rs_congr {n : Nat} {xs ys : List Nat} (h : ∀ x, x ∈ xs ↔ x ∈ ys) : rs n xs = rs n ys := by
  unfold rs
  have e2 : fwI xs = fwI ys := by
    funext i
    unfold fwI
    simp only [h i]
  rw [e2]
theorem fw_bits (xs : List Nat) : Bits (fw xs) := fun x hx => by
  obtain ⟨i, _, rfl⟩ := List.mem_map.1 hx
  exact fwI_bits _ _
theorem rs_bits (n : Nat) (xs : List Nat) : Bits (rs n xs) := fun x hx => by
  obtain ⟨i, _, rfl⟩ := List.mem_map.1 hx
  exact fwI_bits _ _
theorem fw_len (xs : List Nat) : (fw xs).length = topN xs := by
  unfold fw
  rw [List.length_map, List.length_range]
theorem rs_len (n : Nat) (xs : List Nat) : (rs n xs).length = n := by
  unfold rs
  rw [List.length_map, List.length_range]
theorem map_at {n i : Nat} {f : Nat → Nat} (h : i < n) : ((List.range n).map f).getD i 0 = f i := by
  rw [List.getD_eq_getElem?_getD, List.getElem?_map, List.getElem?_range h]
  rfl
theorem fw_at (xs : List Nat) (i : Nat) : bitAt (fw xs) [48] i = fwI xs i := by
  unfold bitAt
  rw [fw_len]
  split
  · rename_i h
    exact map_at h
  · rename_i h
    have hn : ¬ i ∈ xs := fun hi => h (topN_le.1 (Nat.le_refl _) i hi)
    have e : cyc [48] i = 48 := by
      unfold cyc
      rw [show i % ([48] : List Nat).length = 0 from Nat.mod_one i]
      rfl
    unfold fwI
    rw [e, if_neg hn]
theorem rs_at {n : Nat} (h : 0 < n) (xs : List Nat) (i : Nat) : bitAt [] (rs n xs) i = fwI xs (i % n) := by
  unfold bitAt cyc
  rw [if_neg (by simp), rs_len]
  exact map_at (Nat.mod_lt _ h)
end Gk


set_option Elab.async false
set_option linter.all false
set_option maxRecDepth 100000
set_option maxHeartbeats 8000000
namespace Gk07
open PySem L2 Vg
def top (i : Nat) : Stmt := PySem.Challenge.pw_nothingmadeup_k07_tails_and_spreads.main.body.getD i (.Pass ⟨0, 0, 0, 0⟩)
abbrev s__law_digits : Stmt := top 33
abbrev s__law_cell : Stmt := top 32
abbrev s__law_band : Stmt := top 35
abbrev s_checked_row : Stmt := top 21
abbrev s_is_bits : Stmt := top 3
abbrev s__law_right : Stmt := top 39
abbrev s__law_is_set : Stmt := top 37
abbrev s_least_cycle : Stmt := top 4
abbrev s_least_prefix : Stmt := top 5
abbrev s__law_in : Stmt := top 34
abbrev s__law_band_line : Stmt := top 36
abbrev s__law_numbers : Stmt := top 38
abbrev s_check_parts : Stmt := top 29
abbrev s_check_fixed : Stmt := top 28
abbrev s_unfolded : Stmt := top 7
abbrev s_has_bit : Stmt := top 6
abbrev s_combined : Stmt := top 9
abbrev s_merged : Stmt := top 8
abbrev s_Band___eq__ : Stmt := inClass (top 22) 1
abbrev s_Band_language : Stmt := inClass (top 22) 2
abbrev s_Band_tail : Stmt := inClass (top 22) 5
abbrev s_Band_spread : Stmt := inClass (top 22) 6
abbrev s_PeriodicSet___eq__ : Stmt := inClass (top 19) 1
abbrev s_PeriodicSet___contains__ : Stmt := inClass (top 19) 2
abbrev s_PeriodicSet___sub__ : Stmt := inClass (top 19) 5
abbrev s_PeriodicSet_is_infinite : Stmt := inClass (top 19) 8
abbrev s_PeriodicSet_within : Stmt := inClass (top 19) 15
abbrev s_Family___eq__ : Stmt := inClass (top 30) 1
abbrev s_Family_language : Stmt := inClass (top 30) 5
abbrev s_Band_first_number : Stmt := inClass (top 22) 4
abbrev s_Family_seat : Stmt := inClass (top 30) 3
abbrev s_law : Stmt := top 40
abbrev si_Band : Stmt := inClass (top 22) 0
abbrev si_PeriodicSet : Stmt := inClass (top 19) 0
abbrev si_Family : Stmt := inClass (top 30) 0
/-- _law_digits: slots 0=cell 1=sizes 2=row 3=rest 4=seed 5=k 6=size 7=twice -/
def b__law_digits : Cm :=
    (.seq (.asgO 2 (.lst .nil))
    (.seq (.asg 3 (.bi .int (.cons (.var 0) .nil)))
    (.seq (.ite (.cmp .GtE (.var 3) (.bin .Pow (.k (.int 10)) (.k (.int 18))))
    (.seq (.asg 3 (.bin .Sub (.var 3) (.bin .Pow (.k (.int 10)) (.k (.int 18)))))
    (.seq (.for_ (.one 6) (.var 1)
    (.seq (.app 2 (.bin .Mod (.bi .int (.cons (.var 3) .nil)) (.var 6)))
    (.asg 3 (.bin .FloorDiv (.bi .int (.cons (.var 3) .nil)) (.var 6)))))
    (.retO 2)))
    .nop)
    (.seq (.asg 4 (.bin .Mod (.bi .int (.cons (.var 3) .nil)) (.k (.int 2147483629))))
    (.seq (.for_ (.one 5) (.rng1 (.bi .len (.cons (.var 1) .nil)))
    (.seq (.asg 4 (.bin .Mod (.bi .int (.cons (.bin .Add (.bin .Add (.bin .Mult (.var 4) (.k (.int 48271))) (.bin .Mult (.k (.int 974711)) (.var 5))) (.k (.int 12345))) .nil)) (.k (.int 2147483647))))
    (.seq (.asg 7 (.bin .Mod (.bi .int (.cons (.bin .Mult (.var 4) (.bin .Add (.bin .FloorDiv (.var 4) (.k (.int 65537))) (.k (.int 3)))) .nil)) (.k (.int 2147483629))))
    (.app 2 (.bin .Mod (.bin .FloorDiv (.var 7) (.k (.int 19))) (.idx (.var 1) (.var 5)))))))
    (.retO 2))))))
abbrev i__law_digits : Nat := 0
/-- _law_cell: slots 0=script 1=k 2=seed 3=cell -/
def b__law_cell : Cm :=
    (.seq (.ite (.cmp .Lt (.var 1) (.bi .len (.cons (.var 0) .nil)))
    (.ret (.idx (.var 0) (.var 1)))
    .nop)
    (.seq (.asg 2 (.k (.int 17)))
    (.seq (.for_ (.one 3) (.var 0)
    (.asg 2 (.bin .Mod (.bi .int (.cons (.bin .Add (.bin .Mult (.var 2) (.k (.int 31))) (.bin .Mod (.bi .int (.cons (.var 3) .nil)) (.k (.int 1000003)))) .nil)) (.k (.int 1000003)))))
    (.ret (.bin .Mod (.bi .int (.cons (.bin .Mult (.bin .Mult (.bin .Add (.var 2) (.k (.int 7))) (.bin .Add (.var 1) (.k (.int 3)))) (.k (.int 69621))) .nil)) (.k (.int 2147483647)))))))
abbrev i__law_cell : Nat := 1
/-- _law_band: slots 0=period 1=row 2=rows 3=r 4=low 5=high 6=at 7=c 8=bit -/
def b__law_band : Cm :=
    (.seq (.asgO 2 (.lst .nil))
    (.seq (.for_ (.one 3) (.rng1 (.var 0))
    (.seq (.asgO 4 (.lc (.one 7) (.rng1 (.var 0)) .tt (.bi .int (.cons (.cmp .Gt (.idx (.var 1) (.bin .Add (.k (.int 1)) (.bin .Mult (.k (.int 2)) (.bin .Add (.bin .Mult (.var 3) (.var 0)) (.var 7))))) (.k (.int 0))) .nil))))
    (.seq (.asgO 5 (.lc (.one 7) (.rng1 (.var 0)) .tt (.idx (.var 1) (.bin .Add (.k (.int 2)) (.bin .Mult (.k (.int 2)) (.bin .Add (.bin .Mult (.var 3) (.var 0)) (.var 7)))))))
    (.seq (.asg 6 (.idx (.var 1) (.bin .Add (.bin .Add (.k (.int 1)) (.bin .Mult (.bin .Mult (.k (.int 2)) (.var 0)) (.var 0))) (.var 3))))
    (.seq (.ite (.cmp .LtE (.idx (.var 1) (.k (.int 0))) (.k (.int 3)))
    (.seq (.ite (.lend 4 (.cmp .Eq (.bi .sum (.cons (.var 4) .nil)) (.k (.int 0))))
    (.seti 4 (.var 3) (.k (.int 1)))
    .nop)
    (.seq (.asgO 5 (.lc (.one 7) (.rng1 (.var 0)) .tt (.bin .Mult (.idxO 5 (.var 7)) (.idxO 4 (.var 7)))))
    (.seq (.ite (.lend 5 (.bor (.cmp .Eq (.bi .sum (.cons (.var 5) .nil)) (.k (.int 0))) (.cmp .Eq (.idx (.var 1) (.k (.int 0))) (.k (.int 3)))))
    (.asgO 5 (.cpyO 4))
    .nop)
    (.asg 6 (.bin .Mult (.idx (.lst (.cons (.var 6) (.cons (.var 6) (.cons (.k (.int 1)) (.cons (.k (.int 0)) .nil))))) (.idx (.var 1) (.k (.int 0)))) (.idxO 4 (.var 3)))))))
    .nop)
    (.seq (.ite (.cmp .Eq (.idx (.var 1) (.k (.int 0))) (.k (.int 4)))
    (.asgO 4 (.lc (.one 7) (.rng1 (.var 0)) .tt (.bin .Mult (.idxO 4 (.var 7)) (.idxO 5 (.var 7)))))
    .nop)
    (.seq (.ite (.cmp .Eq (.idx (.var 1) (.k (.int 0))) (.k (.int 5)))
    (.asgO 4 (.lc (.one 7) (.rng1 (.var 0)) .tt (.k (.int 0))))
    .nop)
    (.seq (.ite (.lend 5 (.cmp .Eq (.bi .sum (.cons (.var 5) .nil)) (.k (.int 0))))
    (.seti 5 (.var 3) (.k (.int 1)))
    .nop)
    (.app 2 (.lst (.cons (.bm .join (.k (.str [])) (.lc (.one 8) (.ownI 4) .tt (.idx (.k (.str [48, 49])) (.var 8)))) (.cons (.idx (.k (.str [48, 49])) (.var 6)) (.cons (.bm .join (.k (.str [])) (.lc (.one 8) (.ownI 5) .tt (.idx (.k (.str [48, 49])) (.var 8)))) .nil)))))))))))))
    (.retO 2)))
abbrev i__law_band : Nat := 2
/-- checked_row: slots 0=row 1=period 2=bits -/
def b_checked_row : Cm :=
    (.seq (.ite (.bor (.bnot (.isLT (.var 0))) (.cmp .NotEq (.bi .len (.cons (.var 0) .nil)) (.k (.int 3))))
    .never
    .nop)
    (.seq (.for_ (.one 2) (.var 0)
    (.ite (.bnot (.call 4 (.cons (.var 2) .nil)))
    .never
    .nop))
    (.seq (.ite (.bor (.cmp .NotEq (.bi .len (.cons (.idx (.var 0) (.k (.int 0))) .nil)) (.var 1)) (.bor (.cmp .NotEq (.bi .len (.cons (.idx (.var 0) (.k (.int 1))) .nil)) (.k (.int 1))) (.bor (.cmp .NotEq (.bi .len (.cons (.idx (.var 0) (.k (.int 2))) .nil)) (.var 1)) (.cmp .NotIn (.k (.str [49])) (.idx (.var 0) (.k (.int 2)))))))
    .never
    .nop)
    (.ret (.tup (.cons (.idx (.var 0) (.k (.int 0))) (.cons (.idx (.var 0) (.k (.int 1))) (.cons (.idx (.var 0) (.k (.int 2))) .nil))))))))
abbrev i_checked_row : Nat := 3
/-- is_bits: slots 0=value 1=bit -/
def b_is_bits : Cm :=
    (.seq (.ite (.bnot (.isi (.var 0) .str))
    (.ret (.k (.bl false)))
    .nop)
    (.ret (.bi .all (.cons (.lc (.one 1) (.var 0) .tt (.cmp .In (.var 1) (.k (.str [48, 49])))) .nil))))
abbrev i_is_bits : Nat := 4
/-- _law_right: slots 0=data 1=band 2=r 3=start 4=far 5=tail 6=wide 7=window 8=x 9=one 10=have 11=n -/
def b__law_right : Cm :=
    (.seq (.asg 5 (.om 9 (.var 1) (.cons (.var 2) (.cons (.var 3) .nil))))
    (.seq (.asg 6 (.om 10 (.var 1) (.cons (.var 2) (.cons (.var 3) .nil))))
    (.seq (.ite (.bor (.bnot (.call 6 (.cons (.var 5) .nil))) (.bor (.bnot (.call 6 (.cons (.var 6) .nil))) (.bor (.cmp .NotEq (.bin .Mod (.idx (.var 0) (.k (.int 0))) (.bi .len (.cons (.fld (.var 5) 2) .nil))) (.k (.int 0))) (.cmp .NotEq (.bin .Mod (.idx (.var 0) (.k (.int 0))) (.bi .len (.cons (.fld (.var 6) 2) .nil))) (.k (.int 0))))))
    (.ret (.k (.bl false)))
    .nop)
    (.seq (.asg 7 (.bin .Add (.bi .max (.cons (.bi .len (.cons (.fld (.var 5) 3) .nil)) (.cons (.bi .len (.cons (.fld (.var 6) 3) .nil)) (.cons (.bin .Add (.var 3) (.idx (.var 0) (.k (.int 0)))) .nil)))) (.bin .Mult (.k (.int 2)) (.idx (.var 0) (.k (.int 0))))))
    (.seq (.for_ (.one 8) (.bin .Add (.lrg1 false (.var 7)) (.lst (.cons (.bin .Add (.var 7) (.var 4)) .nil)))
    (.seq (.asg 10 (.lc (.one 11) (.call 11 (.cons (.idx (.var 0) (.k (.int 0))) (.cons (.var 2) (.cons (.var 3) (.cons (.var 8) .nil))))) .tt (.call 9 (.cons (.call 10 (.cons (.var 0) (.cons (.k (.int 0)) (.cons (.var 11) .nil)))) (.cons (.var 8) .nil)))))
    (.ite (.bor (.cmp .NotEq (.cmp .In (.var 8) (.var 5)) (.cmp .NotIn (.k (.bl false)) (.var 10))) (.cmp .NotEq (.cmp .In (.var 8) (.var 6)) (.cmp .In (.k (.bl true)) (.var 10))))
    (.ret (.k (.bl false)))
    .nop)))
    (.seq (.asg 9 (.om 8 (.var 1) (.cons (.bin .Add (.bin .Add (.var 3) (.bin .Mod (.bi .int (.cons (.bin .Sub (.var 2) (.var 3)) .nil)) (.idx (.var 0) (.k (.int 0))))) (.bin .Mult (.idx (.var 0) (.k (.int 0))) (.var 4))) .nil)))
    (.ret (.band (.om 12 (.var 5) (.cons (.var 9) .nil)) (.band (.om 12 (.var 9) (.cons (.var 6) .nil)) (.band (.om 12 (.var 5) (.cons (.om 9 (.var 1) (.cons (.var 2) (.cons (.bin .Add (.var 3) (.k (.int 1))) .nil))) .nil)) (.om 12 (.om 10 (.var 1) (.cons (.var 2) (.cons (.bin .Add (.var 3) (.k (.int 1))) .nil))) (.cons (.var 6) .nil))))))))))))
abbrev i__law_right : Nat := 5
/-- _law_is_set: slots 0=told 1=x -/
def b__law_is_set : Cm :=
    (.seq (.ite (.bor (.bnot (.isi (.var 0) (.cls 1))) (.bor (.bnot (.isi (.fld (.var 0) 3) .str)) (.bnot (.isi (.fld (.var 0) 2) .str))))
    (.ret (.k (.bl false)))
    .nop)
    (.seq (.ite (.bor (.cmp .Gt (.bi .len (.cons (.fld (.var 0) 3) .nil)) (.k (.int 6000))) (.bor (.cmp .Eq (.bi .len (.cons (.fld (.var 0) 2) .nil)) (.k (.int 0))) (.bor (.cmp .Gt (.bi .len (.cons (.fld (.var 0) 2) .nil)) (.k (.int 12))) (.cmp .NotEq (.bin .Mod (.k (.int 12)) (.bi .len (.cons (.fld (.var 0) 2) .nil))) (.k (.int 0))))))
    (.ret (.k (.bl false)))
    .nop)
    (.ret (.cmp .Eq (.bi .len (.cons (.lc (.one 1) (.bin .Add (.fld (.var 0) 3) (.fld (.var 0) 2)) (.cmp .NotIn (.var 1) (.k (.str [48, 49]))) (.var 1)) .nil)) (.k (.int 0))))))
abbrev i__law_is_set : Nat := 6
/-- least_cycle: slots 0=cycle 1=length -/
def b_least_cycle : Cm :=
    (.seq (.for_ (.one 1) (.rng2 (.k (.int 1)) (.bi .len (.cons (.var 0) .nil)))
    (.ite (.band (.cmp .Eq (.bin .Mod (.bi .len (.cons (.var 0) .nil)) (.var 1)) (.k (.int 0))) (.cmp .Eq (.var 0) (.bin .Mult (.slc (.var 0) .nopart (.part (.var 1))) (.bin .FloorDiv (.bi .len (.cons (.var 0) .nil)) (.var 1)))))
    (.ret (.slc (.var 0) .nopart (.part (.var 1))))
    .nop))
    (.ret (.var 0)))
abbrev i_least_cycle : Nat := 7
/-- least_prefix: slots 0=prefix 1=cycle 2=size -/
def b_least_prefix : Cm :=
    (.seq (.asg 2 (.bi .len (.cons (.var 0) .nil)))
    (.seq (.while_ (.band (.cmp .Gt (.var 2) (.k (.int 0))) (.cmp .Eq (.idx (.var 0) (.bin .Sub (.var 2) (.k (.int 1)))) (.idx (.var 1) (.bin .Mod (.bin .Sub (.var 2) (.k (.int 1))) (.bi .len (.cons (.var 1) .nil))))))
    (.aug 2 .Sub (.k (.int 1))))
    (.ret (.slc (.var 0) .nopart (.part (.var 2))))))
abbrev i_least_prefix : Nat := 8
/-- _law_in: slots 0=line 1=x -/
def b__law_in : Cm :=
    (.seq (.ite (.cmp .Lt (.var 1) (.bi .len (.cons (.idx (.var 0) (.k (.int 0))) .nil)))
    (.ret (.cmp .Eq (.idx (.idx (.var 0) (.k (.int 0))) (.var 1)) (.k (.str [49]))))
    .nop)
    (.ret (.cmp .Eq (.idx (.idx (.var 0) (.k (.int 1))) (.bin .Mod (.bi .int (.cons (.var 1) .nil)) (.bi .len (.cons (.idx (.var 0) (.k (.int 1))) .nil)))) (.k (.str [49])))))
abbrev i__law_in : Nat := 9
/-- _law_band_line: slots 0=data 1=band 2=n 3=row 4=x -/
def b__law_band_line : Cm :=
    (.seq (.asg 3 (.idx (.idx (.idx (.var 0) (.k (.int 2))) (.var 1)) (.bin .Mod (.bi .int (.cons (.var 2) .nil)) (.idx (.var 0) (.k (.int 0))))))
    (.ret (.lst (.cons (.bin .Add (.bm .join (.k (.str [])) (.lc (.one 4) (.rng1 (.var 2)) .tt (.idx (.idx (.var 3) (.k (.int 0))) (.bin .Mod (.bi .int (.cons (.var 4) .nil)) (.idx (.var 0) (.k (.int 0))))))) (.idx (.var 3) (.k (.int 1)))) (.cons (.idx (.var 3) (.k (.int 2))) .nil)))))
abbrev i__law_band_line : Nat := 10
/-- _law_numbers: slots 0=period 1=r 2=start 3=upto 4=first 5=k -/
def b__law_numbers : Cm :=
    (.seq (.asg 4 (.bin .Add (.var 2) (.bin .Mod (.bi .int (.cons (.bin .Sub (.var 1) (.var 2)) .nil)) (.var 0))))
    (.ret (.lc (.one 5) (.rng1 (.bin .Add (.bin .FloorDiv (.bi .max (.cons (.k (.int 0)) (.cons (.bin .Sub (.var 3) (.var 4)) .nil))) (.var 0)) (.k (.int 3)))) .tt (.bin .Add (.var 4) (.bin .Mult (.var 0) (.var 5))))))
abbrev i__law_numbers : Nat := 11
/-- check_parts: slots 0=period 1=fixed 2=bands 3=language 4=band -/
def b_check_parts : Cm :=
    (.seq (.ite (.bor (.bnot (.isi (.var 0) .int)) (.bor (.isi (.var 0) .bool) (.bnot (.chain .LtE .LtE (.k (.int 1)) (.var 0) (.glb 0 (4))))))
    .never
    .nop)
    (.seq (.ite (.bor (.bnot (.isLT (.var 1))) (.bnot (.isLT (.var 2))))
    .never
    .nop)
    (.seq (.ite (.bor (.cmp .Gt (.bi .len (.cons (.var 1) .nil)) (.glb 1 (6))) (.bor (.cmp .Gt (.bi .len (.cons (.var 2) .nil)) (.glb 2 (2))) (.cmp .Eq (.bin .Add (.bi .len (.cons (.var 1) .nil)) (.bi .len (.cons (.var 2) .nil))) (.k (.int 0)))))
    .never
    .nop)
    (.seq (.for_ (.one 3) (.var 1)
    (.drop (.call 13 (.cons (.var 0) (.cons (.var 3) .nil)))))
    (.for_ (.one 4) (.var 2)
    (.ite (.bor (.bnot (.isi (.var 4) (.cls 0))) (.cmp .NotEq (.fld (.var 4) 0) (.var 0)))
    .never
    .nop))))))
abbrev i_check_parts : Nat := 12
/-- check_fixed: slots 0=period 1=language -/
def b_check_fixed : Cm :=
    (.seq (.ite (.bor (.bnot (.isi (.var 1) (.cls 1))) (.bnot (.om 11 (.var 1) .nil)))
    .never
    .nop)
    (.ite (.bor (.cmp .NotEq (.bin .Mod (.var 0) (.bi .len (.cons (.fld (.var 1) 2) .nil))) (.k (.int 0))) (.cmp .Gt (.bi .len (.cons (.fld (.var 1) 3) .nil)) (.glb 3 (12))))
    .never
    .nop))
abbrev i_check_fixed : Nat := 13
/-- unfolded: slots 0=prefix 1=cycle 2=length 3=repeated -/
def b_unfolded : Cm :=
    (.seq (.ite (.cmp .LtE (.var 2) (.bi .len (.cons (.var 0) .nil)))
    (.ret (.slc (.var 0) .nopart (.part (.var 2))))
    .nop)
    (.seq (.asg 3 (.bin .Mult (.var 1) (.bin .Add (.bin .FloorDiv (.var 2) (.bi .len (.cons (.var 1) .nil))) (.k (.int 1)))))
    (.ret (.bin .Add (.var 0) (.slc (.var 3) (.part (.bi .len (.cons (.var 0) .nil))) (.part (.var 2)))))))
abbrev i_unfolded : Nat := 14
/-- has_bit: slots 0=prefix 1=cycle 2=number -/
def b_has_bit : Cm :=
    (.seq (.ite (.cmp .Lt (.var 2) (.bi .len (.cons (.var 0) .nil)))
    (.ret (.cmp .Eq (.idx (.var 0) (.var 2)) (.k (.str [49]))))
    .nop)
    (.ret (.cmp .Eq (.idx (.var 1) (.bin .Mod (.var 2) (.bi .len (.cons (.var 1) .nil)))) (.k (.str [49])))))
abbrev i_has_bit : Nat := 15
/-- combined: slots 0=one 1=two 2=table 3=start 4=period 5=prefix 6=left 7=right -/
def b_combined : Cm :=
    (.seq (.asg 3 (.bi .max (.cons (.bi .len (.cons (.idx (.var 0) (.k (.int 0))) .nil)) (.cons (.bi .len (.cons (.idx (.var 1) (.k (.int 0))) .nil)) .nil))))
    (.seq (.asg 4 (.bi .lcm (.cons (.bi .len (.cons (.idx (.var 0) (.k (.int 1))) .nil)) (.cons (.bi .len (.cons (.idx (.var 1) (.k (.int 1))) .nil)) .nil))))
    (.seq (.asg 5 (.call 17 (.cons (.call 14 (.cons (.idx (.var 0) (.k (.int 0))) (.cons (.idx (.var 0) (.k (.int 1))) (.cons (.var 3) .nil)))) (.cons (.call 14 (.cons (.idx (.var 1) (.k (.int 0))) (.cons (.idx (.var 1) (.k (.int 1))) (.cons (.var 3) .nil)))) (.cons (.var 2) .nil)))))
    (.seq (.asg 6 (.bin .Mult (.idx (.var 0) (.k (.int 1))) (.bin .FloorDiv (.var 4) (.bi .len (.cons (.idx (.var 0) (.k (.int 1))) .nil)))))
    (.seq (.asg 7 (.bin .Mult (.idx (.var 1) (.k (.int 1))) (.bin .FloorDiv (.var 4) (.bi .len (.cons (.idx (.var 1) (.k (.int 1))) .nil)))))
    (.ret (.tup (.cons (.var 5) (.cons (.call 17 (.cons (.var 6) (.cons (.var 7) (.cons (.var 2) .nil)))) .nil)))))))))
abbrev i_combined : Nat := 16
/-- merged: slots 0=left 1=right 2=table 3=one 4=two -/
def b_merged : Cm :=
    (.ret (.bm .join (.k (.str [])) (.lc (.two 3 4) (.zip (.var 0) (.var 1)) .tt (.idx (.var 2) (.bin .Add (.bin .Mult (.k (.int 2)) (.bi .int (.cons (.var 3) .nil))) (.bi .int (.cons (.var 4) .nil)))))))
abbrev i_merged : Nat := 17
/-- Band___eq__: slots 0=self 1=other -/
def b_Band___eq__ : Cm :=
    (.ret (.band (.isi (.var 1) (.cls 0)) (.cmp .Eq (.fld (.var 0) 1) (.fld (.var 1) 1))))
abbrev i_Band___eq__ : Nat := 18
/-- Band_language: slots 0=self 1=n 2=row -/
def b_Band_language : Cm :=
    (.seq (.asg 2 (.idx (.fld (.var 0) 1) (.bin .Mod (.var 1) (.fld (.var 0) 0))))
    (.ret (.mk 1 (.cons (.bin .Add (.call 14 (.cons (.k (.str [])) (.cons (.idx (.var 2) (.k (.int 0))) (.cons (.var 1) .nil)))) (.idx (.var 2) (.k (.int 1)))) (.cons (.idx (.var 2) (.k (.int 2))) .nil)))))
abbrev i_Band_language : Nat := 19
/-- Band_tail: slots 0=self 1=residue 2=start 3=row 4=number 5=middle 6=cycle 7=place 8=stays -/
def b_Band_tail : Cm :=
    (.seq (.asg 3 (.idx (.fld (.var 0) 1) (.var 1)))
    (.seq (.asg 4 (.om 13 (.var 0) (.cons (.var 1) (.cons (.var 2) .nil))))
    (.seq (.asg 5 (.idx (.k (.str [48, 49])) (.bi .int (.cons (.band (.cmp .Eq (.idx (.idx (.var 3) (.k (.int 0))) (.var 1)) (.k (.str [49]))) (.cmp .Eq (.idx (.var 3) (.k (.int 1))) (.k (.str [49])))) .nil))))
    (.seq (.asg 6 (.k (.str [])))
    (.seq (.for_ (.one 7) (.rng1 (.fld (.var 0) 0))
    (.seq (.asg 8 (.band (.cmp .Eq (.idx (.idx (.var 3) (.k (.int 0))) (.var 7)) (.k (.str [49]))) (.cmp .Eq (.idx (.idx (.var 3) (.k (.int 2))) (.var 7)) (.k (.str [49])))))
    (.seq (.ite (.band (.cmp .Eq (.var 7) (.var 1)) (.cmp .Eq (.idx (.var 3) (.k (.int 1))) (.k (.str [48]))))
    (.asg 8 (.k (.bl false)))
    .nop)
    (.asg 6 (.bin .Add (.var 6) (.idx (.k (.str [48, 49])) (.bi .int (.cons (.var 8) .nil))))))))
    (.ret (.mk 1 (.cons (.bin .Add (.call 14 (.cons (.k (.str [])) (.cons (.idx (.var 3) (.k (.int 0))) (.cons (.var 4) .nil)))) (.var 5)) (.cons (.var 6) .nil)))))))))
abbrev i_Band_tail : Nat := 20
/-- Band_spread: slots 0=self 1=residue 2=start 3=row 4=number 5=middle 6=cycle 7=place 8=comes -/
def b_Band_spread : Cm :=
    (.seq (.asg 3 (.idx (.fld (.var 0) 1) (.var 1)))
    (.seq (.asg 4 (.om 13 (.var 0) (.cons (.var 1) (.cons (.var 2) .nil))))
    (.seq (.asg 5 (.idx (.k (.str [48, 49])) (.bi .int (.cons (.bor (.cmp .Eq (.idx (.idx (.var 3) (.k (.int 0))) (.var 1)) (.k (.str [49]))) (.cmp .Eq (.idx (.var 3) (.k (.int 1))) (.k (.str [49])))) .nil))))
    (.seq (.asg 6 (.k (.str [])))
    (.seq (.for_ (.one 7) (.rng1 (.fld (.var 0) 0))
    (.seq (.asg 8 (.bor (.cmp .Eq (.idx (.idx (.var 3) (.k (.int 0))) (.var 7)) (.k (.str [49]))) (.cmp .Eq (.idx (.idx (.var 3) (.k (.int 2))) (.var 7)) (.k (.str [49])))))
    (.seq (.ite (.band (.cmp .Eq (.var 7) (.var 1)) (.cmp .Eq (.idx (.var 3) (.k (.int 1))) (.k (.str [49]))))
    (.asg 8 (.k (.bl true)))
    .nop)
    (.asg 6 (.bin .Add (.var 6) (.idx (.k (.str [48, 49])) (.bi .int (.cons (.var 8) .nil))))))))
    (.ret (.mk 1 (.cons (.bin .Add (.call 14 (.cons (.k (.str [])) (.cons (.idx (.var 3) (.k (.int 0))) (.cons (.var 4) .nil)))) (.var 5)) (.cons (.var 6) .nil)))))))))
abbrev i_Band_spread : Nat := 21
/-- PeriodicSet___eq__: slots 0=self 1=other -/
def b_PeriodicSet___eq__ : Cm :=
    (.ret (.band (.isi (.var 1) (.cls 1)) (.band (.cmp .Eq (.fld (.var 0) 3) (.fld (.var 1) 3)) (.cmp .Eq (.fld (.var 0) 2) (.fld (.var 1) 2)))))
abbrev i_PeriodicSet___eq__ : Nat := 22
/-- PeriodicSet___contains__: slots 0=self 1=number -/
def b_PeriodicSet___contains__ : Cm :=
    (.ret (.call 15 (.cons (.fld (.var 0) 3) (.cons (.fld (.var 0) 2) (.cons (.var 1) .nil)))))
abbrev i_PeriodicSet___contains__ : Nat := 23
/-- PeriodicSet___sub__: slots 0=self 1=other 2=pair -/
def b_PeriodicSet___sub__ : Cm :=
    (.seq (.asg 2 (.call 16 (.cons (.tup (.cons (.fld (.var 0) 3) (.cons (.fld (.var 0) 2) .nil))) (.cons (.tup (.cons (.fld (.var 1) 3) (.cons (.fld (.var 1) 2) .nil))) (.cons (.k (.str [48, 48, 49, 48])) .nil)))))
    (.ret (.mk 1 (.cons (.idx (.var 2) (.k (.int 0))) (.cons (.idx (.var 2) (.k (.int 1))) .nil)))))
abbrev i_PeriodicSet___sub__ : Nat := 24
/-- PeriodicSet_is_infinite: slots 0=self -/
def b_PeriodicSet_is_infinite : Cm :=
    (.ret (.cmp .In (.k (.str [49])) (.fld (.var 0) 2)))
abbrev i_PeriodicSet_is_infinite : Nat := 25
/-- PeriodicSet_within: slots 0=self 1=other 2=pair -/
def b_PeriodicSet_within : Cm :=
    (.seq (.asg 2 (.call 16 (.cons (.tup (.cons (.fld (.var 0) 3) (.cons (.fld (.var 0) 2) .nil))) (.cons (.tup (.cons (.fld (.var 1) 3) (.cons (.fld (.var 1) 2) .nil))) (.cons (.k (.str [48, 48, 49, 48])) .nil)))))
    (.ret (.band (.cmp .NotIn (.k (.str [49])) (.idx (.var 2) (.k (.int 0)))) (.cmp .NotIn (.k (.str [49])) (.idx (.var 2) (.k (.int 1)))))))
abbrev i_PeriodicSet_within : Nat := 26
/-- Family___eq__: slots 0=self 1=other -/
def b_Family___eq__ : Cm :=
    (.seq (.ite (.bnot (.isi (.var 1) (.cls 2)))
    (.ret (.k (.bl false)))
    .nop)
    (.ret (.band (.cmp .Eq (.fld (.var 0) 0) (.fld (.var 1) 0)) (.band (.cmp .Eq (.fld (.var 0) 4) (.fld (.var 1) 4)) (.cmp .Eq (.fld (.var 0) 5) (.fld (.var 1) 5))))))
abbrev i_Family___eq__ : Nat := 27
/-- Family_language: slots 0=self 1=place 2=seat -/
def b_Family_language : Cm :=
    (.seq (.asg 2 (.om 14 (.var 0) (.cons (.var 1) .nil)))
    (.seq (.ite (.cmp .Eq (.idx (.var 2) (.k (.int 0))) (.k (.str [102, 105, 120, 101, 100])))
    (.ret (.idx (.fld (.var 0) 4) (.var 1)))
    .nop)
    (.ret (.om 8 (.idx (.fld (.var 0) 5) (.idx (.var 2) (.k (.int 1)))) (.cons (.idx (.var 2) (.k (.int 2))) .nil)))))
abbrev i_Family_language : Nat := 28
/-- Band_first_number: slots 0=self 1=residue 2=start -/
def b_Band_first_number : Cm :=
    (.ret (.bin .Add (.var 2) (.bin .Mod (.bin .Sub (.var 1) (.var 2)) (.fld (.var 0) 0))))
abbrev i_Band_first_number : Nat := 29
/-- Family_seat: slots 0=self 1=place 2=n 3=band -/
def b_Family_seat : Cm :=
    (.seq (.ite (.bor (.bnot (.isi (.var 1) .int)) (.bor (.isi (.var 1) .bool) (.cmp .Lt (.var 1) (.k (.int 0)))))
    .never
    .nop)
    (.seq (.ite (.band (.cmp .Eq (.bi .len (.cons (.fld (.var 0) 5) .nil)) (.k (.int 0))) (.cmp .GtE (.var 1) (.bi .len (.cons (.fld (.var 0) 4) .nil))))
    .never
    .nop)
    (.seq (.ite (.cmp .Lt (.var 1) (.bi .len (.cons (.fld (.var 0) 4) .nil)))
    (.ret (.tup (.cons (.k (.str [102, 105, 120, 101, 100])) (.cons (.var 1) .nil))))
    .nop)
    (.seq (.asg2 2 3 (.bi .divmod (.cons (.bin .Sub (.var 1) (.bi .len (.cons (.fld (.var 0) 4) .nil))) (.cons (.bi .len (.cons (.fld (.var 0) 5) .nil)) .nil))))
    (.ret (.tup (.cons (.k (.str [98, 97, 110, 100])) (.cons (.var 3) (.cons (.var 2) .nil)))))))))
abbrev i_Family_seat : Nat := 30
/-- law: slots 0=script 1=row 2=k 3=period 4=sizes 5=rows 6=band 7=data 8=r 9=family 10=start -/
def b_law : Cm :=
    (.seq (.asg 1 (.call 0 (.cons (.call 1 (.cons (.var 0) (.cons (.k (.int 0)) .nil))) (.cons (.lst (.cons (.k (.int 4)) (.cons (.k (.int 8)) (.cons (.k (.int 24)) (.cons (.k (.int 9)) (.cons (.k (.int 12)) (.cons (.k (.int 2)) (.cons (.k (.int 8)) .nil)))))))) .nil))))
    (.seq (.for_ (.one 2) (.rng1 (.k (.int 2)))
    (.seq (.asg 3 (.idx (.lst (.cons (.bin .Add (.k (.int 1)) (.idx (.var 1) (.k (.int 0)))) (.cons (.bin .Add (.k (.int 3)) (.idx (.var 1) (.k (.int 5)))) .nil))) (.var 2)))
    (.seq (.asg 4 (.bin .Add (.bin .Add (.lst (.cons (.k (.int 8)) .nil)) (.bin .Mult (.lst (.cons (.k (.int 3)) (.cons (.k (.int 2)) .nil))) (.bin .Mult (.var 3) (.var 3)))) (.bin .Mult (.lst (.cons (.k (.int 2)) .nil)) (.var 3))))
    (.seq (.asg 5 (.call 2 (.cons (.var 3) (.cons (.bin .Add (.lst (.cons (.idx (.var 1) (.bin .Add (.k (.int 1)) (.bin .Mult (.k (.int 5)) (.var 2)))) .nil)) (.slc (.call 0 (.cons (.call 1 (.cons (.var 0) (.cons (.bin .Add (.k (.int 1)) (.var 2)) .nil))) (.cons (.var 4) .nil))) (.part (.k (.int 1))) .nopart)) .nil))))
    (.seq (.asg 6 (.mk 0 (.cons (.var 5) .nil)))
    (.seq (.asg 7 (.lst (.cons (.var 3) (.cons (.lst .nil) (.cons (.lst (.cons (.var 5) .nil)) .nil)))))
    (.seq (.for_ (.one 8) (.rng1 (.var 3))
    (.for_ (.one 10) (.slc (.lst (.cons (.k (.int 0)) (.cons (.idx (.var 1) (.k (.int 2))) (.cons (.bin .Add (.idx (.var 1) (.k (.int 2))) (.k (.int 1))) (.cons (.var 8) (.cons (.bin .Mult (.k (.int 3)) (.var 3)) .nil)))))) .nopart (.part (.bin .Sub (.k (.int 5)) (.bin .Mult (.k (.int 2)) (.var 2)))))
    (.ite (.bnot (.call 5 (.cons (.var 7) (.cons (.var 6) (.cons (.var 8) (.cons (.var 10) (.cons (.idx (.var 1) (.k (.int 3))) .nil)))))))
    (.ret (.k (.bl false)))
    .nop)))
    (.seq (.asg 9 (.mk 2 (.cons (.var 3) (.cons (.tup .nil) (.cons (.tup (.cons (.var 6) .nil)) .nil)))))
    (.ite (.bor (.cmp .NotEq (.idx (.fld (.var 9) 5) (.k (.int 0))) (.var 6)) (.bnot (.call 5 (.cons (.var 7) (.cons (.idx (.fld (.var 9) 5) (.k (.int 0))) (.cons (.bin .Mod (.bi .int (.cons (.idx (.var 1) (.k (.int 4))) .nil)) (.var 3)) (.cons (.bin .Add (.k (.int 40)) (.idx (.var 1) (.k (.int 2)))) (.cons (.idx (.var 1) (.k (.int 3))) .nil))))))))
    (.ret (.k (.bl false)))
    .nop)))))))))
    (.ret (.k (.bl true)))))
abbrev i_law : Nat := 31
/-- Band.__init__: slots 0=self 1=rows 2=row -/
def bi_Band : Cm :=
    (.seq (.ite (.bor (.bnot (.isLT (.var 1))) (.bnot (.chain .LtE .LtE (.k (.int 1)) (.bi .len (.cons (.var 1) .nil)) (.k (.int 4)))))
    .never
    .nop)
    (.seq (.fset 0 0 (.bi .len (.cons (.var 1) .nil)))
    (.fset 0 1 (.bi .tuple (.cons (.lc (.one 2) (.var 1) .tt (.call 3 (.cons (.var 2) (.cons (.bi .len (.cons (.var 1) .nil)) .nil)))) .nil)))))
/-- PeriodicSet.__init__: slots 0=self 1=prefix 2=cycle -/
def bi_PeriodicSet : Cm :=
    (.seq (.ite (.bor (.bnot (.call 4 (.cons (.var 1) .nil))) (.bor (.bnot (.call 4 (.cons (.var 2) .nil))) (.cmp .Eq (.var 2) (.k (.str [])))))
    .never
    .nop)
    (.seq (.fset 0 2 (.call 7 (.cons (.var 2) .nil)))
    (.fset 0 3 (.call 8 (.cons (.var 1) (.cons (.fldO 0 2) .nil))))))
/-- Family.__init__: slots 0=self 1=period 2=fixed 3=bands -/
def bi_Family : Cm :=
    (.seq (.drop (.call 12 (.cons (.var 1) (.cons (.var 2) (.cons (.var 3) .nil)))))
    (.seq (.fset 0 0 (.var 1))
    (.seq (.fset 0 4 (.bi .tuple (.cons (.var 2) .nil)))
    (.fset 0 5 (.bi .tuple (.cons (.var 3) .nil))))))
abbrev c_Band : Nat := 0
abbrev c_PeriodicSet : Nat := 1
abbrev c_Family : Nat := 2
abbrev m___add__ : Nat := 0
abbrev m___sub__ : Nat := 1
abbrev m___and__ : Nat := 2
abbrev m___or__ : Nat := 3
abbrev m___xor__ : Nat := 4
abbrev m___contains__ : Nat := 5
abbrev m___invert__ : Nat := 6
abbrev m___eq__ : Nat := 7
abbrev m_language : Nat := 8
abbrev m_tail : Nat := 9
abbrev m_spread : Nat := 10
abbrev m_is_infinite : Nat := 11
abbrev m_within : Nat := 12
abbrev m_first_number : Nat := 13
abbrev m_seat : Nat := 14
abbrev f_period : Nat := 0
abbrev f_rows : Nat := 1
abbrev f_cycle : Nat := 2
abbrev f_prefix : Nat := 3
abbrev f_fixed : Nat := 4
abbrev f_bands : Nat := 5
def mt : List (List (Nat × Nat)) := [[(7, 18), (8, 19), (9, 20), (10, 21), (13, 29)], [(7, 22), (5, 23), (1, 24), (11, 25), (12, 26)], [(7, 27), (8, 28), (14, 30)]]
def ft : List (List (Nat × Nat)) := [[(0, 0), (1, 1)], [(2, 0), (3, 1)], [(0, 0), (4, 1), (5, 2)]]
def fn : List (List Str) := [["period", "rows"], ["cycle", "prefix"], ["period", "fixed", "bands"]]
def P : Prg where
  fs := (⟨2, 8, b__law_digits⟩ :: ⟨2, 4, b__law_cell⟩ :: ⟨2, 9, b__law_band⟩ :: ⟨2, 3, b_checked_row⟩ :: ⟨1, 2, b_is_bits⟩ :: ⟨5, 12, b__law_right⟩ :: ⟨1, 2, b__law_is_set⟩ :: ⟨1, 2, b_least_cycle⟩ :: ⟨2, 3, b_least_prefix⟩ :: ⟨2, 2, b__law_in⟩ :: ⟨3, 5, b__law_band_line⟩ :: ⟨4, 6, b__law_numbers⟩ :: ⟨3, 5, b_check_parts⟩ :: ⟨2, 2, b_check_fixed⟩ :: ⟨3, 4, b_unfolded⟩ :: ⟨3, 3, b_has_bit⟩ :: ⟨3, 8, b_combined⟩ :: ⟨3, 5, b_merged⟩ :: ⟨2, 2, b_Band___eq__⟩ :: ⟨2, 3, b_Band_language⟩ :: ⟨3, 9, b_Band_tail⟩ :: ⟨3, 9, b_Band_spread⟩ :: ⟨2, 2, b_PeriodicSet___eq__⟩ :: ⟨2, 2, b_PeriodicSet___contains__⟩ :: ⟨2, 3, b_PeriodicSet___sub__⟩ :: ⟨1, 1, b_PeriodicSet_is_infinite⟩ :: ⟨2, 3, b_PeriodicSet_within⟩ :: ⟨2, 2, b_Family___eq__⟩ :: ⟨2, 3, b_Family_language⟩ :: ⟨3, 3, b_Band_first_number⟩ :: ⟨2, 4, b_Family_seat⟩ :: ⟨1, 11, b_law⟩ :: [])
  is := [⟨1, 3, bi_Band⟩, ⟨2, 3, bi_PeriodicSet⟩, ⟨3, 4, bi_Family⟩]
  nf := fun c => (fn.getD c []).length
  M := fun c m => (mt.getD c []).lookup m
  fx := fun c f => (ft.getD c []).lookup f
  nc := 3
  fresh := fun f => [].contains f
def T : Nm where
  fn := fun f => (["_law_digits", "_law_cell", "_law_band", "checked_row", "is_bits", "_law_right", "_law_is_set", "least_cycle", "least_prefix", "_law_in", "_law_band_line", "_law_numbers", "check_parts", "check_fixed", "unfolded", "has_bit", "combined", "merged"] : List Str)[f]?
  cn := fun c => (["Band", "PeriodicSet", "Family"] : List Str)[c]?
  mid := fun m => (["__add__", "__sub__", "__and__", "__or__", "__xor__", "__contains__", "__invert__", "__eq__", "language", "tail", "spread", "is_infinite", "within", "first_number", "seat"] : List Str).getD m "?"
  fid := fun f => (["period", "rows", "cycle", "prefix", "fixed", "bands"] : List Str).getD f "?"
  ar := arFn P
  fresh := P.fresh
  hasM := fun b => b == .lcm
  gn := fun j => ([("MOST_PERIOD", 4), ("MOST_FIXED", 6), ("MOST_BANDS", 2), ("LONGEST_PREFIX", 12)] : List (Str × Int))[j]?
def N0 : List Str := ["cell", "sizes", "row", "rest", "seed", "k", "size", "twice"]
theorem sc0 : FnScope N0 ["cell", "sizes"] (defScope s__law_digits) := ⟨rfl, rfl, rfl, by decide +kernel, rfl, by decide +kernel, by decide +kernel⟩
theorem ok0 : mS T N0 b__law_digits (defScope s__law_digits) (defBody s__law_digits) = true := by decide +kernel
def N1 : List Str := ["script", "k", "seed", "cell"]
theorem sc1 : FnScope N1 ["script", "k"] (defScope s__law_cell) := ⟨rfl, rfl, rfl, by decide +kernel, rfl, by decide +kernel, by decide +kernel⟩
theorem ok1 : mS T N1 b__law_cell (defScope s__law_cell) (defBody s__law_cell) = true := by decide +kernel
def N2 : List Str := ["period", "row", "rows", "r", "low", "high", "at", "c", "bit"]
theorem sc2 : FnScope N2 ["period", "row"] (defScope s__law_band) := ⟨rfl, rfl, rfl, by decide +kernel, rfl, by decide +kernel, by decide +kernel⟩
theorem ok2 : mS T N2 b__law_band (defScope s__law_band) (defBody s__law_band) = true := by decide +kernel
def N3 : List Str := ["row", "period", "bits"]
theorem sc3 : FnScope N3 ["row", "period"] (defScope s_checked_row) := ⟨rfl, rfl, rfl, by decide +kernel, rfl, by decide +kernel, by decide +kernel⟩
theorem ok3 : mS T N3 b_checked_row (defScope s_checked_row) (defBody s_checked_row) = true := by decide +kernel
def N4 : List Str := ["value", "bit"]
theorem sc4 : FnScope N4 ["value"] (defScope s_is_bits) := ⟨rfl, rfl, rfl, by decide +kernel, rfl, by decide +kernel, by decide +kernel⟩
theorem ok4 : mS T N4 b_is_bits (defScope s_is_bits) (defBody s_is_bits) = true := by decide +kernel
def N5 : List Str := ["data", "band", "r", "start", "far", "tail", "wide", "window", "x", "one", "have", "n"]
theorem sc5 : FnScope N5 ["data", "band", "r", "start", "far"] (defScope s__law_right) := ⟨rfl, rfl, rfl, by decide +kernel, rfl, by decide +kernel, by decide +kernel⟩
theorem ok5 : mS T N5 b__law_right (defScope s__law_right) (defBody s__law_right) = true := by decide +kernel
def N6 : List Str := ["told", "x"]
theorem sc6 : FnScope N6 ["told"] (defScope s__law_is_set) := ⟨rfl, rfl, rfl, by decide +kernel, rfl, by decide +kernel, by decide +kernel⟩
theorem ok6 : mS T N6 b__law_is_set (defScope s__law_is_set) (defBody s__law_is_set) = true := by decide +kernel
def N7 : List Str := ["cycle", "length"]
theorem sc7 : FnScope N7 ["cycle"] (defScope s_least_cycle) := ⟨rfl, rfl, rfl, by decide +kernel, rfl, by decide +kernel, by decide +kernel⟩
theorem ok7 : mS T N7 b_least_cycle (defScope s_least_cycle) (defBody s_least_cycle) = true := by decide +kernel
def N8 : List Str := ["prefix", "cycle", "size"]
theorem sc8 : FnScope N8 ["prefix", "cycle"] (defScope s_least_prefix) := ⟨rfl, rfl, rfl, by decide +kernel, rfl, by decide +kernel, by decide +kernel⟩
theorem ok8 : mS T N8 b_least_prefix (defScope s_least_prefix) (defBody s_least_prefix) = true := by decide +kernel
def N9 : List Str := ["line", "x"]
theorem sc9 : FnScope N9 ["line", "x"] (defScope s__law_in) := ⟨rfl, rfl, rfl, by decide +kernel, rfl, by decide +kernel, by decide +kernel⟩
theorem ok9 : mS T N9 b__law_in (defScope s__law_in) (defBody s__law_in) = true := by decide +kernel
def N10 : List Str := ["data", "band", "n", "row", "x"]
theorem sc10 : FnScope N10 ["data", "band", "n"] (defScope s__law_band_line) := ⟨rfl, rfl, rfl, by decide +kernel, rfl, by decide +kernel, by decide +kernel⟩
theorem ok10 : mS T N10 b__law_band_line (defScope s__law_band_line) (defBody s__law_band_line) = true := by decide +kernel
def N11 : List Str := ["period", "r", "start", "upto", "first", "k"]
theorem sc11 : FnScope N11 ["period", "r", "start", "upto"] (defScope s__law_numbers) := ⟨rfl, rfl, rfl, by decide +kernel, rfl, by decide +kernel, by decide +kernel⟩
theorem ok11 : mS T N11 b__law_numbers (defScope s__law_numbers) (defBody s__law_numbers) = true := by decide +kernel
def N12 : List Str := ["period", "fixed", "bands", "language", "band"]
theorem sc12 : FnScope N12 ["period", "fixed", "bands"] (defScope s_check_parts) := ⟨rfl, rfl, rfl, by decide +kernel, rfl, by decide +kernel, by decide +kernel⟩
theorem ok12 : mS T N12 b_check_parts (defScope s_check_parts) (defBody s_check_parts) = true := by decide +kernel
def N13 : List Str := ["period", "language"]
theorem sc13 : FnScope N13 ["period", "language"] (defScope s_check_fixed) := ⟨rfl, rfl, rfl, by decide +kernel, rfl, by decide +kernel, by decide +kernel⟩
theorem ok13 : mS T N13 b_check_fixed (defScope s_check_fixed) (defBody s_check_fixed) = true := by decide +kernel
def N14 : List Str := ["prefix", "cycle", "length", "repeated"]
theorem sc14 : FnScope N14 ["prefix", "cycle", "length"] (defScope s_unfolded) := ⟨rfl, rfl, rfl, by decide +kernel, rfl, by decide +kernel, by decide +kernel⟩
theorem ok14 : mS T N14 b_unfolded (defScope s_unfolded) (defBody s_unfolded) = true := by decide +kernel
def N15 : List Str := ["prefix", "cycle", "number"]
theorem sc15 : FnScope N15 ["prefix", "cycle", "number"] (defScope s_has_bit) := ⟨rfl, rfl, rfl, by decide +kernel, rfl, by decide +kernel, by decide +kernel⟩
theorem ok15 : mS T N15 b_has_bit (defScope s_has_bit) (defBody s_has_bit) = true := by decide +kernel
def N16 : List Str := ["one", "two", "table", "start", "period", "prefix", "left", "right"]
theorem sc16 : FnScope N16 ["one", "two", "table"] (defScope s_combined) := ⟨rfl, rfl, rfl, by decide +kernel, rfl, by decide +kernel, by decide +kernel⟩
theorem ok16 : mS T N16 b_combined (defScope s_combined) (defBody s_combined) = true := by decide +kernel
def N17 : List Str := ["left", "right", "table", "one", "two"]
theorem sc17 : FnScope N17 ["left", "right", "table"] (defScope s_merged) := ⟨rfl, rfl, rfl, by decide +kernel, rfl, by decide +kernel, by decide +kernel⟩
theorem ok17 : mS T N17 b_merged (defScope s_merged) (defBody s_merged) = true := by decide +kernel
def N18 : List Str := ["self", "other"]
theorem sc18 : FnScope N18 ["self", "other"] (defScope s_Band___eq__) := ⟨rfl, rfl, rfl, by decide +kernel, rfl, by decide +kernel, by decide +kernel⟩
theorem ok18 : mS T N18 b_Band___eq__ (defScope s_Band___eq__) (defBody s_Band___eq__) = true := by decide +kernel
def N19 : List Str := ["self", "n", "row"]
theorem sc19 : FnScope N19 ["self", "n"] (defScope s_Band_language) := ⟨rfl, rfl, rfl, by decide +kernel, rfl, by decide +kernel, by decide +kernel⟩
theorem ok19 : mS T N19 b_Band_language (defScope s_Band_language) (defBody s_Band_language) = true := by decide +kernel
def N20 : List Str := ["self", "residue", "start", "row", "number", "middle", "cycle", "place", "stays"]
theorem sc20 : FnScope N20 ["self", "residue", "start"] (defScope s_Band_tail) := ⟨rfl, rfl, rfl, by decide +kernel, rfl, by decide +kernel, by decide +kernel⟩
theorem ok20 : mS T N20 b_Band_tail (defScope s_Band_tail) (defBody s_Band_tail) = true := by decide +kernel
def N21 : List Str := ["self", "residue", "start", "row", "number", "middle", "cycle", "place", "comes"]
theorem sc21 : FnScope N21 ["self", "residue", "start"] (defScope s_Band_spread) := ⟨rfl, rfl, rfl, by decide +kernel, rfl, by decide +kernel, by decide +kernel⟩
theorem ok21 : mS T N21 b_Band_spread (defScope s_Band_spread) (defBody s_Band_spread) = true := by decide +kernel
def N22 : List Str := ["self", "other"]
theorem sc22 : FnScope N22 ["self", "other"] (defScope s_PeriodicSet___eq__) := ⟨rfl, rfl, rfl, by decide +kernel, rfl, by decide +kernel, by decide +kernel⟩
theorem ok22 : mS T N22 b_PeriodicSet___eq__ (defScope s_PeriodicSet___eq__) (defBody s_PeriodicSet___eq__) = true := by decide +kernel
def N23 : List Str := ["self", "number"]
theorem sc23 : FnScope N23 ["self", "number"] (defScope s_PeriodicSet___contains__) := ⟨rfl, rfl, rfl, by decide +kernel, rfl, by decide +kernel, by decide +kernel⟩
theorem ok23 : mS T N23 b_PeriodicSet___contains__ (defScope s_PeriodicSet___contains__) (defBody s_PeriodicSet___contains__) = true := by decide +kernel
def N24 : List Str := ["self", "other", "pair"]
theorem sc24 : FnScope N24 ["self", "other"] (defScope s_PeriodicSet___sub__) := ⟨rfl, rfl, rfl, by decide +kernel, rfl, by decide +kernel, by decide +kernel⟩
theorem ok24 : mS T N24 b_PeriodicSet___sub__ (defScope s_PeriodicSet___sub__) (defBody s_PeriodicSet___sub__) = true := by decide +kernel
def N25 : List Str := ["self"]
theorem sc25 : FnScope N25 ["self"] (defScope s_PeriodicSet_is_infinite) := ⟨rfl, rfl, rfl, by decide +kernel, rfl, by decide +kernel, by decide +kernel⟩
theorem ok25 : mS T N25 b_PeriodicSet_is_infinite (defScope s_PeriodicSet_is_infinite) (defBody s_PeriodicSet_is_infinite) = true := by decide +kernel
def N26 : List Str := ["self", "other", "pair"]
theorem sc26 : FnScope N26 ["self", "other"] (defScope s_PeriodicSet_within) := ⟨rfl, rfl, rfl, by decide +kernel, rfl, by decide +kernel, by decide +kernel⟩
theorem ok26 : mS T N26 b_PeriodicSet_within (defScope s_PeriodicSet_within) (defBody s_PeriodicSet_within) = true := by decide +kernel
def N27 : List Str := ["self", "other"]
theorem sc27 : FnScope N27 ["self", "other"] (defScope s_Family___eq__) := ⟨rfl, rfl, rfl, by decide +kernel, rfl, by decide +kernel, by decide +kernel⟩
theorem ok27 : mS T N27 b_Family___eq__ (defScope s_Family___eq__) (defBody s_Family___eq__) = true := by decide +kernel
def N28 : List Str := ["self", "place", "seat"]
theorem sc28 : FnScope N28 ["self", "place"] (defScope s_Family_language) := ⟨rfl, rfl, rfl, by decide +kernel, rfl, by decide +kernel, by decide +kernel⟩
theorem ok28 : mS T N28 b_Family_language (defScope s_Family_language) (defBody s_Family_language) = true := by decide +kernel
def N29 : List Str := ["self", "residue", "start"]
theorem sc29 : FnScope N29 ["self", "residue", "start"] (defScope s_Band_first_number) := ⟨rfl, rfl, rfl, by decide +kernel, rfl, by decide +kernel, by decide +kernel⟩
theorem ok29 : mS T N29 b_Band_first_number (defScope s_Band_first_number) (defBody s_Band_first_number) = true := by decide +kernel
def N30 : List Str := ["self", "place", "n", "band"]
theorem sc30 : FnScope N30 ["self", "place"] (defScope s_Family_seat) := ⟨rfl, rfl, rfl, by decide +kernel, rfl, by decide +kernel, by decide +kernel⟩
theorem ok30 : mS T N30 b_Family_seat (defScope s_Family_seat) (defBody s_Family_seat) = true := by decide +kernel
def N31 : List Str := ["script", "row", "k", "period", "sizes", "rows", "band", "data", "r", "family", "start"]
theorem sc31 : FnScope N31 ["script"] (defScope s_law) := ⟨rfl, rfl, rfl, by decide +kernel, rfl, by decide +kernel, by decide +kernel⟩
theorem ok31 : mS T N31 b_law (defScope s_law) (defBody s_law) = true := by decide +kernel
def Ni0 : List Str := ["self", "rows", "row"]
theorem sci0 : FnScope Ni0 ["self", "rows"] (defScope si_Band) := ⟨rfl, rfl, rfl, by decide +kernel, rfl, by decide +kernel, by decide +kernel⟩
theorem oki0 : mS T Ni0 bi_Band (defScope si_Band) (defBody si_Band) = true := by decide +kernel
def Ni1 : List Str := ["self", "prefix", "cycle"]
theorem sci1 : FnScope Ni1 ["self", "prefix", "cycle"] (defScope si_PeriodicSet) := ⟨rfl, rfl, rfl, by decide +kernel, rfl, by decide +kernel, by decide +kernel⟩
theorem oki1 : mS T Ni1 bi_PeriodicSet (defScope si_PeriodicSet) (defBody si_PeriodicSet) = true := by decide +kernel
def Ni2 : List Str := ["self", "period", "fixed", "bands"]
theorem sci2 : FnScope Ni2 ["self", "period", "fixed", "bands"] (defScope si_Family) := ⟨rfl, rfl, rfl, by decide +kernel, rfl, by decide +kernel, by decide +kernel⟩
theorem oki2 : mS T Ni2 bi_Family (defScope si_Family) (defBody si_Family) = true := by decide +kernel
end Gk07


set_option Elab.async false
set_option linter.all false
set_option maxRecDepth 100000
set_option maxHeartbeats 8000000
namespace Gk07
open PySem L2 Vg Gk
variable {k : Nat} {Q : DV → Prop}
theorem sz : (sizeLine : Nat) = 16777216 := by decide
theorem get_lt {s : List Nat} {n : Nat} (h : n < s.length) : s[n]? = some (s.getD n 0) := by
  rw [List.getD_eq_getElem?_getD, List.getElem?_eq_getElem h]
  rfl
theorem has_bit {p c : List Nat} {n : Nat} (hc : 0 < c.length) (hp : p.length ≤ sizeLine) (hz : c.length ≤ sizeLine) (q : Q (.bl (decide (bitAt p c n = 49)))) : (sem P (k + 1)).F i_has_bit [.str p, .str c, .int n] Q := by
  refine run_f rfl rfl rfl ?_
  simp [-Bool.exists_bool, -Int.natCast_emod, b_has_bit, ex, ev, args0, endsN, fmod_nat hc, hp, hz]
  have hm := Nat.mod_lt n hc
  by_cases h : n < p.length
  · rw [if_pos h]
    refine ⟨_, get_lt h, ?_⟩
    simpa [bitAt, h] using q
  · rw [if_neg h]
    refine ⟨fun z => by subst z; simp at hc, _, get_lt hm, ?_⟩
    simpa [bitAt, h, cyc] using q
theorem law_in {p c : List Nat} {n : Nat} {r : List DV} (hc : 0 < c.length) (hp : p.length ≤ sizeLine) (hz : c.length ≤ sizeLine) (q : Q (.bl (decide (bitAt p c n = 49)))) : (sem P (k + 1)).F i__law_in [.lst (.str p :: .str c :: r), .int n] Q := by
  refine run_f rfl rfl rfl ?_
  simp [-Bool.exists_bool, -Int.natCast_emod, b__law_in, ex, ev, args0, endsN, fmod_nat hc, hp, hz]
  have hm := Nat.mod_lt n hc
  by_cases h : n < p.length
  · rw [if_pos h]
    refine ⟨_, get_lt h, ?_⟩
    simpa [bitAt, h] using q
  · rw [if_neg h]
    refine ⟨fun z => by subst z; simp at hc, _, get_lt hm, ?_⟩
    simpa [bitAt, h, cyc] using q
theorem is_bits {s : List Nat} (h : Bits s) (hz : s.length ≤ sizeLine) (q : Q (.bl true)) : (sem P (k + 1)).F i_is_bits [.str s] Q := by
  refine run_f rfl rfl rfl ?_
  simp [-Bool.exists_bool, -Int.natCast_emod, b_is_bits, ex, ev, args0, endsN, tyOk, tyS, itemsOf, wipeE, Tg.slots, stT]
  refine lc_mapA _ (fun _ => .bl true) (fun Γ' K h => h) (fun x hx K hk => hk _ fun K2 q2 => ?_) (by simpa using hz) ?_
  · have hx := h x hx
    simp [hx]
    exact q2
  · refine ⟨_, bls_map (f := fun _ => true), ?_⟩
    have e : (s.map fun _ => true).all id = true := by simp
    rw [e]
    exact q
def tx (b : Int) : Nat := if b = 1 then 49 else 48
def fl (x : Nat) : Nat := if x = 49 then 48 else 49
theorem fl_idx {x : Nat} (h : x = 48 ∨ x = 49) {K2 : DV → Prop} (q2 : K2 (.str [fl x])) : idxS (.str [49, 48]) (.int (bitI x)) K2 := by
  rcases h with rfl | rfl
  · exact ⟨by decide, _, rfl, q2⟩
  · exact ⟨by decide, _, rfl, q2⟩
def bn (x : Nat) : Nat := if x = 49 then 1 else 0
def tabF (tab : List Nat) (x y : Nat) : Nat := tab.getD (2 * bn x + bn y) 0
theorem bitI_bn (x : Nat) : bitI x = (bn x : Int) := by
  unfold bitI bn
  split <;> rfl
theorem merged {l r tab : List Nat} (hl : Bits l) (hr : Bits r) (ht : tab.length = 4) (hz : l.length ≤ sizeLine) (q : Q (.str ((l.zip r).map fun p => tabF tab p.1 p.2))) : (sem P (k + 1)).F i_merged [.str l, .str r, .str tab] Q := by
  refine run_f rfl rfl rfl ?_
  simp [-Bool.exists_bool, -Int.natCast_emod, b_merged, ex, ev, args0, endsN, itemsOf, wipeE, Tg.slots, stT, bmTy]
  refine lc_mapA (fun p : Nat × Nat => DV.tup [.str [p.1], .str [p.2]]) (fun p => .str [tabF tab p.1 p.2]) (fun Γ' K h => h) (fun p hp K hk => ?_) (by simp; omega) ?_
  · have h1 := hl _ (List.of_mem_zip hp).1
    have h2 := hr _ (List.of_mem_zip hp).2
    refine ⟨_, _, rfl, hk _ fun K2 q2 => ?_⟩
    refine ⟨_, rfl, _, rfl, bi_bit h1 ?_⟩
    refine (show CMul _ _ ∧ _ from ⟨.inl ⟨by decide, by decide⟩, ?_⟩)
    refine ⟨_, rfl, bi_bit h2 ?_⟩
    rw [bin_add, bitI_bn, bitI_bn, show (2 : Int) * (bn p.1 : Int) + (bn p.2 : Int) = ((2 * bn p.1 + bn p.2 : Nat) : Int) by simp, idx_strN]
    have hb : ∀ x, bn x ≤ 1 := fun x => by unfold bn; split <;> omega
    have hlt : 2 * bn p.1 + bn p.2 < tab.length := by
      have := hb p.1
      have := hb p.2
      omega
    exact ⟨by rw [ht]; decide, _, get_lt hlt, q2⟩
  · exact bm_join1 (by simp; omega) q
theorem eq_range {s : List Nat} {n : Nat} {f : Nat → Nat} (hl : s.length = n) (h : ∀ i, i < n → s.getD i 0 = f i) : s = (List.range n).map f := by
  refine List.ext_getElem (by simp [hl]) fun i h1 h2 => ?_
  have := h i (by omega)
  rw [List.getD_eq_getElem?_getD, List.getElem?_eq_getElem h1] at this
  simpa using this
theorem unfolded {p c : List Nat} {n : Nat} (hc : 0 < c.length) (hp : p.length ≤ sizeLine) (hz : n + c.length ≤ sizeLine) (q : Q (.str ((List.range n).map (bitAt p c)))) : (sem P (k + 1)).F i_unfolded [.str p, .str c, .int n] Q := by
  have z := sz
  refine run_f rfl rfl rfl ?_
  have hc0 : (c.length : Int) ≠ 0 := by omega
  simp only [b_unfolded, ex, ev, args0, endsN, List.map, List.length, List.replicate, List.append, List.cons_append, List.nil_append, args_tup, part_non, part_int, bi_lenS, cmp_le]
  simp [-Bool.exists_bool, -Int.natCast_emod, hp]
  by_cases h : n ≤ p.length
  · rw [if_pos h]
    refine slc_to hp ?_
    have e : p.take n = (List.range n).map (bitAt p c) := eq_range (by rw [List.length_take]; omega) fun i hi => by
      rw [List.getD_eq_getElem?_getD, List.getElem?_take_of_lt hi, ← List.getD_eq_getElem?_getD, bitAt, if_pos (by omega)]
    rw [e]
    exact q
  · rw [if_neg h]
    have hdv : n / c.length * c.length ≤ n := Nat.div_mul_le_self n c.length
    have hlt : n < (n / c.length + 1) * c.length := by
      rw [Nat.succ_mul]
      have := Nat.div_add_mod n c.length
      have := Nat.mod_lt n hc
      have e2 : c.length * (n / c.length) = n / c.length * c.length := Nat.mul_comm _ _
      omega
    have hrl : (rep c (n / c.length + 1)).length = (n / c.length + 1) * c.length := rep_len _ _
    have hle : (n / c.length + 1) * c.length ≤ n + c.length := by rw [Nat.succ_mul]; omega
    have hq1 : n / c.length ≤ n := Nat.div_le_self _ _
    refine ⟨by omega, ⟨by omega, by omega⟩, ?_⟩
    rw [fdiv_nat, show ((n / c.length : Nat) : Int) + 1 = ((n / c.length + 1 : Nat) : Int) by simp, Int.toNat_natCast]
    have hm2 : n / c.length + 1 ≤ 16777217 := by omega
    refine ⟨by generalize n / c.length = m at *; omega, by generalize n / c.length = m at *; omega, by rw [Nat.mul_comm]; omega, ?_⟩
    refine ⟨by rw [hrl]; omega, ?_⟩
    rw [cut_both]
    have e : p ++ ((rep c (n / c.length + 1)).take n).drop p.length = (List.range n).map (bitAt p c) := eq_range (by rw [List.length_append, List.length_drop, List.length_take, hrl]; omega) fun i hi => by
      rw [List.getD_eq_getElem?_getD, bitAt]
      by_cases h1 : i < p.length
      · rw [if_pos h1, List.getElem?_append_left h1, ← List.getD_eq_getElem?_getD]
      · rw [if_neg h1, List.getElem?_append_right (by omega), List.getElem?_drop, List.getElem?_take_of_lt (by omega), show p.length + (i - p.length) = i by omega, ← List.getD_eq_getElem?_getD, rep_get c _ _ (by omega)]
        rfl
    refine ⟨rfl, ?_, ?_⟩
    · rw [List.length_drop, List.length_take, hrl]
      omega
    · rw [e]
      exact q
theorem mod0 {a b : Nat} (h : 0 < b) : decide ((a : Int).fmod (b : Int) = 0) = decide (a % b = 0) := by
  rw [fmod_nat h]
  exact decide_eq_decide.mpr (by omega)
theorem least_cycle {w : List Nat} (hw : 0 < w.length) (hz : w.length ≤ sizeLine) (q : ∀ c, LC w c → Q (.str c)) : (sem P (k + 1)).F i_least_cycle [.str w] Q := by
  have z := sz
  refine run_f rfl rfl rfl ?_
  show ex (sem P k) (.seq (.for_ (.one 1) _ _) _) [some (.val (.str w)), none] (endsN Q)
  rw [ex]
  refine ex_for ?_
  simp only [ev, args_tup, bi_lenS, List.getElem?_cons_zero, q_val]
  refine ⟨hz, 1, _, rfl, rfl, ⟨by decide, by decide, by omega, by omega⟩, _, rfl, ?_⟩
  refine for_one (fun i Γ => (∃ o, Γ = [some (.val (.str w)), o]) ∧ ∀ j, 0 < j → j < i + 1 → w.length % j = 0 → w ≠ rep (w.take j) (w.length / j)) ?_ ?_ ⟨⟨_, rfl⟩, fun j h1 h2 => by omega⟩
  · rintro i x Γ D' hx hi ⟨⟨o, rfl⟩, no⟩ e1 e2 e3 nx ct
    rw [List.length_map, List.length_range] at hi
    rw [List.getElem?_map, List.getElem?_range hi] at hx
    cases hx
    have hd : i + 1 < w.length := by omega
    have ex1 : (1 : Int) + (i : Nat) = ((i + 1 : Nat) : Int) := by omega
    have hdv : w.length / (i + 1) * (i + 1) ≤ w.length := Nat.div_mul_le_self _ _
    have hq1 : w.length / (i + 1) ≤ w.length := Nat.div_le_self _ _
    have tl : (w.take (i + 1)).length = i + 1 := by rw [List.length_take]; omega
    have hn : ((i + 1 : Nat) : Int) ≠ 0 := by omega
    have cdv : CDv (w.length : Int) ((i + 1 : Nat) : Int) := ⟨hn, by omega⟩
    simp only [ex, ev, args_tup, bi_lenS, List.set, List.getElem?_cons_zero, List.getElem?_cons_succ, q_val, part_non, part_int, ex1, q_int, cmp_eqI, q_bl, bin_mod, mod0 (show 0 < i + 1 by omega), e1]
    refine ⟨hz, hn, ?_⟩
    by_cases hm : w.length % (i + 1) = 0
    · rw [if_pos (decide_eq_true hm)]
      refine slc_to hz ?_
      refine ⟨hz, cdv, ?_⟩
      simp only [fdiv_nat, bin_rep, Int.toNat_natCast, tl, cmp_eqT, q_bl]
      refine ⟨by generalize w.length / (i + 1) = m at *; omega, by generalize w.length / (i + 1) = m at *; omega, by rw [Nat.mul_comm]; omega, ?_⟩
      by_cases he : w = rep (w.take (i + 1)) (w.length / (i + 1))
      · rw [if_pos (decide_eq_true he)]
        refine slc_to hz ?_
        exact q _ (lc_first (by omega) hd hm he no)
      · rw [if_neg (by simpa using he)]
        refine nx _ ⟨⟨_, rfl⟩, fun j h1 h2 h3 => ?_⟩
        by_cases hj : j = i + 1
        · subst hj; exact he
        · exact no j h1 (by omega) h3
    · rw [if_neg (by simpa using hm)]
      simp only [Bool.false_eq_true, if_false, q_bl]
      refine nx _ ⟨⟨_, rfl⟩, fun j h1 h2 h3 => ?_⟩
      by_cases hj : j = i + 1
      · subst hj; exact absurd h3 hm
      · exact no j h1 (by omega) h3
  · rintro Γ ⟨⟨o, rfl⟩, no⟩
    refine ⟨_, rfl, q w (lc_self hw fun j h1 h2 h3 => no j h1 ?_ h3)⟩
    simp
    omega
theorem least_prefix {w c : List Nat} (hc : 0 < c.length) (hw : w.length ≤ sizeLine) (hz : c.length ≤ sizeLine) (q : ∀ p, LP w c p → Q (.str p)) : (sem P (k + 1)).F i_least_prefix [.str w, .str c] Q := by
  refine run_f rfl rfl rfl ?_
  show ex (sem P k) (.seq _ (.seq (.while_ _ _) _)) [some (.val (.str w)), some (.val (.str c)), none] (endsN Q)
  rw [ex, ex]
  simp only [ev, args_tup, bi_lenS, List.getElem?_cons_zero, q_val]
  refine ⟨hw, ?_⟩
  rw [ex]
  refine while_one (m := w.length) (fun m Γ => Γ = [some (.val (.str w)), some (.val (.str c)), some (.val (.int m))] ∧ m ≤ w.length ∧ ∀ n, m ≤ n → n < w.length → w.getD n 0 = cyc c n) ?_ ⟨rfl, Nat.le_refl _, fun n h1 h2 => by omega⟩
  rintro m Γ D' ⟨rfl, hm, ps⟩ e1 e2 e3 nx ct
  simp only [ex, ev, args_tup, bi_lenS, List.set, List.getElem?_cons_zero, List.getElem?_cons_succ, q_val, part_non, part_int, q_int, q_bl, cmp_gt]
  have fin : (∀ n, m = n + 1 → w.getD n 0 ≠ cyc c n) → slcS (.str w) none (some (m : Int)) Q := fun h => slc_to hw (q _ (lp_of hm ps h))
  cases m with
  | zero =>
    rw [if_neg (by simp)]
    simp only [q_bl, Bool.false_eq_true, if_false]
    exact fin fun n h => by omega
  | succ n =>
    have e4 : ((n + 1 : Nat) : Int) - 1 = ((n : Nat) : Int) := by omega
    have hlt : n < w.length := by omega
    rw [if_pos (by simp)]
    simp only [bin_sub, e4, idx_strN, bin_mod, fmod_nat hc, cmp_eqT, q_bl]
    refine ⟨hw, _, get_lt hlt, hz, by omega, hz, _, get_lt (Nat.mod_lt n hc), ?_⟩
    by_cases he : w.getD n 0 = cyc c n
    · have he' : w.getD n 0 = c.getD (n % c.length) 0 := he
      rw [if_pos (by simpa using he')]
      refine ⟨_, rfl, ?_⟩
      rw [e4]
      refine nx n _ (by omega) ⟨rfl, by omega, fun j h1 h2 => ?_⟩
      by_cases hj : j = n
      · subst hj; exact he
      · exact ps j (by omega) h2
    · have he' : ¬ w.getD n 0 = c.getD (n % c.length) 0 := he
      rw [if_neg (by simpa using he')]
      exact fin fun j h => by
        have : j = n := by omega
        subst this
        exact he
/-- PeriodicSet(l0, l1) -/
theorem init {l0 l1 : List Nat} (b0 : Bits l0) (b1 : Bits l1) (h : 0 < l1.length) (z0 : l0.length ≤ sizeLine) (z1 : l1.length ≤ sizeLine) (q : ∀ p c, Canon p c l0 l1 → Q (.ins c_PeriodicSet [.str c, .str p])) : (sem P (k + 2)).I c_PeriodicSet [.str l0, .str l1] Q := by
  refine run_i rfl rfl ?_
  have hne : ¬ l1 = [] := fun e => by rw [e] at h; simp at h
  have A := fun {R : DV → Prop} (r : R (.bl true)) => is_bits (k := k) (Q := R) b0 z0 r
  have B := fun {R : DV → Prop} (r : R (.bl true)) => is_bits (k := k) (Q := R) b1 z1 r
  show ex (sem P (k + 1)) (.seq _ (.seq _ _)) [some (.obj c_PeriodicSet []), some (.val (.str l0)), some (.val (.str l1))] _
  simp only [ex, ev, args_tup, List.getElem?_cons_zero, List.getElem?_cons_succ, q_val]
  refine A ⟨true, rfl, _, rfl, ?_⟩
  simp only [Bool.not_true, Bool.false_eq_true, if_false]
  refine B ⟨true, rfl, _, rfl, ?_⟩
  simp only [Bool.not_true, Bool.false_eq_true, if_false, cmp_eqT, q_bl, hne, decide_false]
  refine least_cycle h z1 fun c hc => ?_
  refine ⟨_, _, rfl, rfl, ?_⟩
  have cl : c.length ≤ l1.length := Nat.le_of_dvd h hc.dvd
  refine ⟨_, rfl, _, _, _, _, rfl, rfl, rfl, least_prefix hc.ne z0 (by omega) fun p hp => ?_⟩
  refine ⟨_, _, rfl, rfl, ?_⟩
  exact ⟨_, rfl, rfl, q p c (canon_init b0 b1 h hc hp)⟩

theorem bits_map {α : Type} {xs : List α} {f : α → Nat} (h : ∀ x ∈ xs, f x = 48 ∨ f x = 49) : Bits (xs.map f) := fun y hy => by
  obtain ⟨x, hx, rfl⟩ := List.mem_map.mp hy
  exact h x hx
theorem max_cast (a b : Nat) : (if (b : Int) > (a : Int) then (b : Int) else (a : Int)) = ((max a b : Nat) : Int) := by
  split
  · rw [Nat.max_eq_right (by omega)]
  · rw [Nat.max_eq_left (by omega)]
theorem zip_range {n : Nat} {f g : Nat → Nat} {h : Nat → Nat → Nat} : (((List.range n).map f).zip ((List.range n).map g)).map (fun p => h p.1 p.2) = (List.range n).map fun i => h (f i) (g i) := by
  rw [List.zip_map', List.map_map]
  rfl
theorem rep_range {c : List Nat} {n : Nat} (hc : 0 < c.length) (hd : c.length ∣ n) : rep c (n / c.length) = (List.range n).map (cyc c) := by
  have e : n / c.length * c.length = n := Nat.div_mul_cancel hd
  exact eq_range (by rw [rep_len, e]) fun i hi => by rw [rep_get c _ _ (by rw [e]; exact hi)]; rfl
theorem cyc_bits {c : List Nat} (bc : Bits c) (h : 0 < c.length) (n : Nat) : cyc c n = 48 ∨ cyc c n = 49 := by
  unfold cyc
  have h1 := Nat.mod_lt n h
  rw [List.getD_eq_getElem?_getD, List.getElem?_eq_getElem h1]
  exact bc _ (List.getElem_mem h1)
theorem combined {p1 c1 p2 c2 tab : List Nat} (b1 : Bits p1) (d1 : Bits c1) (b2 : Bits p2) (d2 : Bits c2) (h1 : 0 < c1.length) (h2 : 0 < c2.length) (ht : tab.length = 4)
    (z1 : p1.length ≤ 100000) (z2 : p2.length ≤ 100000) (y1 : c1.length ≤ 100000) (y2 : c2.length ≤ 100000) (hL : Nat.lcm c1.length c2.length ≤ 100000)
    (q : Q (.tup [.str ((List.range (max p1.length p2.length)).map fun n => tabF tab (bitAt p1 c1 n) (bitAt p2 c2 n)), .str ((List.range (Nat.lcm c1.length c2.length)).map fun n => tabF tab (cyc c1 n) (cyc c2 n))])) :
    (sem P (k + 2)).F i_combined [.tup [.str p1, .str c1], .tup [.str p2, .str c2], .str tab] Q := by
  have z := sz
  have m1 : max p1.length p2.length ≤ 100000 := by omega
  have l1 : c1.length ∣ Nat.lcm c1.length c2.length := Nat.dvd_lcm_left _ _
  have l2 : c2.length ∣ Nat.lcm c1.length c2.length := Nat.dvd_lcm_right _ _
  refine run_f rfl rfl rfl ?_
  show ex (sem P (k + 1)) (.seq _ (.seq _ (.seq _ (.seq _ (.seq _ _))))) [some (.val (.tup [.str p1, .str c1])), some (.val (.tup [.str p2, .str c2])), some (.val (.str tab)), none, none, none, none, none] (endsN Q)
  simp only [ex, ev, args_tup, List.set, List.getElem?_cons_zero, List.getElem?_cons_succ, q_val, idx_t0, idx_t1, bi_lenS, bi_max2, bi_lcm, max_cast, Int.natAbs_natCast, bin_fdiv, fdiv_nat]
  refine ⟨by omega, by omega, by omega, by omega, by omega, by omega, ?_⟩
  refine unfolded (n := max p1.length p2.length) h1 (by omega) (by omega) ?_
  refine unfolded (n := max p1.length p2.length) h2 (by omega) (by omega) ?_
  refine merged (bits_map fun n _ => bitAt_bits b1 d1 h1 n) (bits_map fun n _ => bitAt_bits b2 d2 h2 n) ht (by simp; omega) ?_
  have hq1 : Nat.lcm c1.length c2.length / c1.length ≤ Nat.lcm c1.length c2.length := Nat.div_le_self _ _
  have hq2 : Nat.lcm c1.length c2.length / c2.length ≤ Nat.lcm c1.length c2.length := Nat.div_le_self _ _
  have e1 : Nat.lcm c1.length c2.length / c1.length * c1.length = Nat.lcm c1.length c2.length := Nat.div_mul_cancel l1
  have e2 : Nat.lcm c1.length c2.length / c2.length * c2.length = Nat.lcm c1.length c2.length := Nat.div_mul_cancel l2
  refine ⟨by omega, ⟨by omega, by omega⟩, ?_⟩
  rw [bin_rep, Int.toNat_natCast]
  refine ⟨by generalize Nat.lcm c1.length c2.length / c1.length = m at *; omega, by generalize Nat.lcm c1.length c2.length / c1.length = m at *; omega, by rw [Nat.mul_comm]; omega, ?_⟩
  refine ⟨by omega, ⟨by omega, by omega⟩, ?_⟩
  rw [bin_rep, Int.toNat_natCast]
  refine ⟨by generalize Nat.lcm c1.length c2.length / c2.length = m at *; omega, by generalize Nat.lcm c1.length c2.length / c2.length = m at *; omega, by rw [Nat.mul_comm]; omega, ?_⟩
  rw [rep_range h1 l1, rep_range h2 l2]
  refine merged (bits_map fun n _ => cyc_bits d1 h1 n) (bits_map fun n _ => cyc_bits d2 h2 n) ht (by simp; omega) ?_
  refine ⟨by show 2 ≤ sizeLine; decide, ?_⟩
  rw [zip_range, zip_range]
  exact q
theorem contains {p c : List Nat} {n : Nat} (hc : 0 < c.length) (hp : p.length ≤ sizeLine) (hz : c.length ≤ sizeLine) (q : Q (.bl (decide (bitAt p c n = 49)))) : (sem P (k + 2)).F i_PeriodicSet___contains__ [.ins c_PeriodicSet [.str c, .str p], .int n] Q := by
  refine run_f rfl rfl rfl ?_
  show ex (sem P (k + 1)) (.ret _) [some (.val (.ins c_PeriodicSet [.str c, .str p])), some (.val (.int n))] (endsN Q)
  simp only [ex, ev, args_tup, List.getElem?_cons_zero, List.getElem?_cons_succ, q_val]
  exact ⟨_, _, _, _, rfl, rfl, rfl, _, _, _, _, rfl, rfl, rfl, has_bit hc hp hz q⟩
def opB (w : Nat) (x y : Bool) : Bool := match w with
  | 0 => x || y
  | 1 => x && y
  | 2 => x && !y
  | _ => x != y
def opN (w : Nat) (x y : Nat) : Nat := if opB w (decide (x = 49)) (decide (y = 49)) = true then 49 else 48
def tabW (w : Nat) : List Nat := match w with
  | 0 => [48, 49, 49, 49]
  | 1 => [48, 48, 48, 49]
  | 2 => [48, 48, 49, 48]
  | _ => [48, 49, 49, 48]
theorem tab_op {w x y : Nat} (hw : w < 4) (hx : x = 48 ∨ x = 49) (hy : y = 48 ∨ y = 49) : tabF (tabW w) x y = opN w x y := by
  have hw' : w = 0 ∨ w = 1 ∨ w = 2 ∨ w = 3 := by omega
  rcases hw' with rfl | rfl | rfl | rfl <;> rcases hx with rfl | rfl <;> rcases hy with rfl | rfl <;> rfl
theorem opN_bits (w x y : Nat) : opN w x y = 48 ∨ opN w x y = 49 := by
  unfold opN
  split <;> simp
def Made (d : DV) (l0 l1 : List Nat) : Prop := ∃ p c, d = .ins c_PeriodicSet [.str c, .str p] ∧ Canon p c l0 l1
structure Line (L : Nat) (l0 l1 : List Nat) : Prop where
  b0 : Bits l0
  b1 : Bits l1
  ne : 0 < l1.length
  dv : l1.length ∣ L
  le : l0.length ≤ 2000
def farOf (a0 a1 b0 b1 : List Nat) : Nat := Nat.lcm a1.length b1.length * (max a0.length b0.length / Nat.lcm a1.length b1.length + 1)
def dueA (w : Nat) (a0 a1 b0 b1 : List Nat) : List Nat := (List.range (max a0.length b0.length)).map fun n => opN w (bitAt a0 a1 n) (bitAt b0 b1 n)
def dueB (w : Nat) (a0 a1 b0 b1 : List Nat) : List Nat := (List.range (Nat.lcm a1.length b1.length)).map fun j => opN w (bitAt a0 a1 (farOf a0 a1 b0 b1 + j)) (bitAt b0 b1 (farOf a0 a1 b0 b1 + j))
theorem due_line {L w : Nat} {a0 a1 b0 b1 : List Nat} (ha : Line L a0 a1) (hb : Line L b0 b1) : Line L (dueA w a0 a1 b0 b1) (dueB w a0 a1 b0 b1) := by
  refine ⟨bits_map fun n _ => opN_bits _ _ _, bits_map fun n _ => opN_bits _ _ _, ?_, ?_, ?_⟩
  · unfold dueB
    rw [List.length_map, List.length_range]
    exact Nat.lcm_pos ha.ne hb.ne
  · unfold dueB
    rw [List.length_map, List.length_range]
    exact Nat.lcm_dvd ha.dv hb.dv
  · unfold dueA
    rw [List.length_map, List.length_range]
    have := ha.le
    have := hb.le
    omega
theorem bitAt_far {a0 a1 : List Nat} {t f n : Nat} (hd : a1.length ∣ t) (hf : t ∣ f) (hfa : a0.length ≤ f) (hn : a0.length ≤ n) : bitAt a0 a1 (f + n % t) = bitAt a0 a1 n := by
  unfold bitAt cyc
  rw [if_neg (by omega), if_neg (by omega), Nat.add_mod, Nat.mod_eq_zero_of_dvd (Nat.dvd_trans hd hf), Nat.zero_add, Nat.mod_mod, Nat.mod_mod_of_dvd _ hd]
theorem due_bit {w : Nat} {a0 a1 b0 b1 : List Nat} (ha : 0 < a1.length) (hb : 0 < b1.length) (n : Nat) : bitAt (dueA w a0 a1 b0 b1) (dueB w a0 a1 b0 b1) n = opN w (bitAt a0 a1 n) (bitAt b0 b1 n) := by
  have hp := Nat.lcm_pos ha hb
  have hge : max a0.length b0.length ≤ farOf a0 a1 b0 b1 := by
    unfold farOf
    have h1 := Nat.div_add_mod (max a0.length b0.length) (Nat.lcm a1.length b1.length)
    have h2 := Nat.mod_lt (max a0.length b0.length) hp
    rw [Nat.mul_add, Nat.mul_one]
    omega
  refine bit_mk (h := fun n => opN w (bitAt a0 a1 n) (bitAt b0 b1 n)) (fun n _ => rfl) (fun n hn => ?_) hp n
  have hfd : Nat.lcm a1.length b1.length ∣ farOf a0 a1 b0 b1 := Nat.dvd_mul_right _ _
  show opN w _ _ = opN w _ _
  rw [bitAt_far (Nat.dvd_lcm_left _ _) hfd (by omega) (by omega), bitAt_far (Nat.dvd_lcm_right _ _) hfd (by omega) (by omega)]
theorem cyc_mod {c : List Nat} {t n : Nat} (h : c.length ∣ t) : cyc c (n % t) = cyc c n := by
  unfold cyc
  rw [Nat.mod_mod_of_dvd _ h]
theorem bitAt_ge {p c : List Nat} {n : Nat} (h : p.length ≤ n) : bitAt p c n = cyc c n := by
  unfold bitAt
  rw [if_neg (by omega)]
/-- the set that an operator makes -/
theorem made_op {w : Nat} (hw : w < 4) {a0 a1 b0 b1 p1 c1 p2 c2 p c : List Nat} (ha : Canon p1 c1 a0 a1) (hb : Canon p2 c2 b0 b1) (na : 0 < a1.length) (nb : 0 < b1.length)
    (h : Canon p c ((List.range (max p1.length p2.length)).map fun n => tabF (tabW w) (bitAt p1 c1 n) (bitAt p2 c2 n)) ((List.range (Nat.lcm c1.length c2.length)).map fun n => tabF (tabW w) (cyc c1 n) (cyc c2 n))) :
    Canon p c (dueA w a0 a1 b0 b1) (dueB w a0 a1 b0 b1) := by
  have hp := Nat.lcm_pos ha.ne hb.ne
  refine h.trans ?_ ?_ fun n => ?_
  · unfold dueB
    simp only [List.length_map, List.length_range]
    exact Nat.lcm_dvd (Nat.dvd_trans ha.dvd (Nat.dvd_lcm_left _ _)) (Nat.dvd_trans hb.dvd (Nat.dvd_lcm_right _ _))
  · unfold dueA
    simp only [List.length_map, List.length_range]
    have := ha.le
    have := hb.le
    omega
  · rw [due_bit na nb, ← ha.eq, ← hb.eq]
    refine bit_mk (h := fun n => opN w (bitAt p1 c1 n) (bitAt p2 c2 n)) (fun n _ => tab_op hw (bitAt_bits ha.bp ha.bc ha.ne n) (bitAt_bits hb.bp hb.bc hb.ne n)) (fun n hn => ?_) hp n
    show tabF _ _ _ = opN w _ _
    rw [cyc_mod (Nat.dvd_lcm_left _ _), cyc_mod (Nat.dvd_lcm_right _ _), bitAt_ge (by omega), bitAt_ge (by omega), tab_op hw (cyc_bits ha.bc ha.ne n) (cyc_bits hb.bc hb.ne n)]
theorem Canon.sizes {L : Nat} {p c l0 l1 : List Nat} (h : Canon p c l0 l1) (l : Line L l0 l1) (hL : 0 < L) (hL2 : L ≤ 2000) : p.length ≤ 2000 ∧ c.length ≤ 2000 ∧ c.length ∣ L :=
  ⟨Nat.le_trans h.le l.le, Nat.le_trans (Nat.le_of_dvd hL (Nat.dvd_trans h.dvd l.dv)) hL2, Nat.dvd_trans h.dvd l.dv⟩
theorem fl_bits {x : Nat} : fl x = 48 ∨ fl x = 49 := by
  unfold fl
  split <;> simp
theorem map_getD {s : List Nat} {n : Nat} (h : n < s.length) (f : Nat → Nat) : (s.map f).getD n 0 = f (s.getD n 0) := by
  rw [List.getD_eq_getElem?_getD, List.getD_eq_getElem?_getD, List.getElem?_map, List.getElem?_eq_getElem h]
  rfl
theorem fl_at {p c : List Nat} (h : 0 < c.length) (n : Nat) : bitAt (p.map fl) (c.map fl) n = fl (bitAt p c n) := by
  unfold bitAt cyc
  simp only [List.length_map]
  split
  · rename_i h1
    exact map_getD h1 fl
  · exact map_getD (Nat.mod_lt n h) fl
theorem fl_line {L : Nat} {l0 l1 : List Nat} (h : Line L l0 l1) : Line L (l0.map fl) (l1.map fl) :=
  ⟨bits_map fun _ _ => fl_bits, bits_map fun _ _ => fl_bits, by rw [List.length_map]; exact h.ne, by rw [List.length_map]; exact h.dv, by rw [List.length_map]; exact h.le⟩
theorem bitd {x : Nat} : (if decide (x = 49) = true then (1 : Int) else 0) = (bn x : Int) := by
  unfold bn
  by_cases h : x = 49 <;> simp [h]
theorem tx_b {b : Bool} : tx (if b = true then (1 : Int) else 0) = if b = true then 49 else 48 := by cases b <;> rfl
theorem count_bits : ∀ {s : List Nat}, Bits s → (countOne 48 s : Int) + (countOne 49 s : Int) = (s.length : Int)
  | [], _ => rfl
  | x :: s, h => by
    have ih := count_bits (s := s) (h.mono fun y hy => List.mem_cons_of_mem _ hy)
    unfold countOne at ih ⊢
    rcases h x List.mem_cons_self with rfl | rfl <;> simp <;> omega
theorem fld1 {a b : DV} {R : DV → Prop} : (∃ c vs j d, DV.ins c_PeriodicSet [a, b] = DV.ins c vs ∧ (sem P k).fx c f_prefix = some j ∧ vs[j]? = some d ∧ R d) = R b := by
  refine propext ⟨fun ⟨c, vs, j, d, e, e1, e2, hr⟩ => ?_, fun hr => ⟨c_PeriodicSet, [a, b], 1, b, rfl, by rw [fm_fx]; rfl, rfl, hr⟩⟩
  cases e
  rw [fm_fx] at e1
  cases e1
  cases e2
  exact hr
theorem fld0 {a b : DV} {R : DV → Prop} : (∃ c vs j d, DV.ins c_PeriodicSet [a, b] = DV.ins c vs ∧ (sem P k).fx c f_cycle = some j ∧ vs[j]? = some d ∧ R d) = R a := by
  refine propext ⟨fun ⟨c, vs, j, d, e, e1, e2, hr⟩ => ?_, fun hr => ⟨c_PeriodicSet, [a, b], 0, a, rfl, by rw [fm_fx]; rfl, rfl, hr⟩⟩
  cases e
  rw [fm_fx] at e1
  cases e1
  cases e2
  exact hr
theorem isi_ins {vs : List DV} {R : Bool → Prop} : (∃ b, tyOk (sem P k).nc (.cls c_PeriodicSet) = true ∧ tyS (sem P k).nc (.cls c_PeriodicSet) (.ins c_PeriodicSet vs) = some b ∧ R b) = R true := by
  rw [fm_nc]
  refine propext ⟨fun ⟨b, _, e, hr⟩ => ?_, fun hr => ⟨true, rfl, rfl, hr⟩⟩
  cases Option.some.inj e
  exact hr
theorem isi_str {s : List Nat} {R : Bool → Prop} : (∃ b, tyOk (sem P k).nc .str = true ∧ tyS (sem P k).nc .str (.str s) = some b ∧ R b) = R true := by
  rw [fm_nc]
  refine propext ⟨fun ⟨b, _, e, hr⟩ => ?_, fun hr => ⟨true, rfl, rfl, hr⟩⟩
  cases Option.some.inj e
  exact hr
theorem red_last {p c : List Nat} (h : Red p c) {n : Nat} (e : p.length = n + 1) : ¬ p.getD n 0 = c.getD (n % c.length) 0 := h n e
theorem fmod_ex (a : Int) {b : Nat} (h : 0 < b) : ∃ r : Nat, a.fmod (b : Int) = (r : Int) ∧ r < b := by
  have h1 := Int.emod_nonneg a (show (b : Int) ≠ 0 by omega)
  have h2 := Int.emod_lt_of_pos a (show (0 : Int) < b by omega)
  refine ⟨(a % (b : Int)).toNat, ?_, by omega⟩
  rw [Int.fmod_eq_emod_of_nonneg _ (by omega)]
  omega
theorem fmod_lit (a : Int) (b : Nat) (b' : Int) (e : (b : Int) = b') (h : 0 < b) : ∃ r : Nat, a.fmod b' = (r : Int) ∧ r < b := by
  subst e
  exact fmod_ex a h
abbrev nI (n : Nat) : DV := .int (n : Int)
theorem law_cell {ns : List Int} {j : Nat} (hj : j ≤ 1000) (q : ∀ i : Int, Q (.int i)) : (sem P (k + 1)).F i__law_cell [.scr ns, .int j] Q := by
  refine run_f rfl rfl rfl ?_
  show ex (sem P k) (.seq (.ite _ _ _) (.seq _ (.seq (.for_ _ _ _) _))) [some (.val (.scr ns)), some (.val (.int j)), none, none] (endsN Q)
  simp only [ex_seq, ex_ite, ex_nop, ex_ret, ex_asg, ev, args_tup, List.getElem?_cons_zero, List.getElem?_cons_succ, q_val, bi_lenC, cmp_lt, q_bl, List.set]
  by_cases h : j < ns.length
  · rw [if_pos (by simpa using h)]
    refine ⟨.int ns[j], ?_, q _⟩
    rw [atI_q, List.getElem?_map, List.getElem?_eq_getElem h]
    rfl
  · rw [if_neg (by simpa using h)]
    refine ex_for ?_
    simp only [ev, List.getElem?_cons_zero, List.getElem?_cons_succ, q_val]
    refine ⟨_, rfl, ?_⟩
    refine for_one (fun i Γ => ∃ (s : Nat) (o : Option Bd), Γ = [some (.val (.scr ns)), some (.val (.int j)), some (.val (.int s)), o]) ?_ ?_ ⟨17, _, rfl⟩
    · rintro i x Γ D' hx hi ⟨s, o, rfl⟩ e1 e2 e3 nx ct
      rw [List.length_map] at hi
      rw [List.getElem?_map, List.getElem?_eq_getElem hi] at hx
      cases hx
      simp only [ex_asg, ev, args_tup, List.set, List.getElem?_cons_zero, List.getElem?_cons_succ, q_val, bin_mul, bin_add, bin_mod, bi_intI]
      refine ⟨.inr ⟨by decide, by decide⟩, by decide, by decide, ?_⟩
      obtain ⟨r, hr, _⟩ := fmod_lit ((s : Int) * 31 + ns[i].fmod 1000003) 1000003 1000003 rfl (by decide)
      rw [hr]
      exact nx _ ⟨r, _, rfl⟩
    · rintro Γ ⟨s, o, rfl⟩
      simp only [ev, args_tup, List.getElem?_cons_zero, List.getElem?_cons_succ, q_val, bin_mul, bin_add, bin_mod, bi_intI]
      exact ⟨.inr ⟨by omega, by omega⟩, .inr ⟨by decide, by decide⟩, by decide, q _⟩
structure Row (sizes row : List Nat) : Prop where
  len : row.length = sizes.length
  lt : ∀ i r s : Nat, row[i]? = some r → sizes[i]? = some s → r < s
theorem row_app {sizes row : List Nat} {i r : Nat} (hl : row.length = i) (h : ∀ j r s : Nat, row[j]? = some r → sizes[j]? = some s → r < s) (hr : ∀ s : Nat, sizes[i]? = some s → r < s) : (row ++ [r]).length = i + 1 ∧ ∀ j r' s : Nat, (row ++ [r])[j]? = some r' → sizes[j]? = some s → r' < s := by
  refine ⟨by simp [hl], fun j r' s e1 e2 => ?_⟩
  rcases Nat.lt_trichotomy j row.length with q | q | q
  · rw [List.getElem?_append_left q] at e1
    exact h j r' s e1 e2
  · subst q
    rw [List.getElem?_append_right (Nat.le_refl _), Nat.sub_self] at e1
    cases e1
    exact hr s (by rw [← hl]; exact e2)
  · rw [List.getElem?_eq_none (by simp; omega)] at e1
    cases e1
theorem law_digits {cell : Int} {sizes : List Nat} (hs : ∀ s ∈ sizes, 0 < s ∧ s < 2 ^ 64) (hl : sizes.length ≤ 1000) (q : ∀ row, Row sizes row → Q (.lst (row.map nI))) : (sem P (k + 1)).F i__law_digits [.int cell, .lst (sizes.map nI)] Q := by
  have z := sz
  refine run_f rfl rfl rfl ?_
  show ex (sem P k) (.seq _ (.seq _ (.seq (.ite _ (.seq _ (.seq (.for_ _ _ _) _)) _) (.seq _ (.seq (.for_ _ _ _) _))))) [some (.val (.int cell)), some (.val (.lst (sizes.map nI))), none, none, none, none, none, none] (endsN Q)
  simp only [ex_seq, ex_ite, ex_nop, ex_ret, ex_asg, ex_asgO, ev, args_tup, List.getElem?_cons_zero, List.getElem?_cons_succ, q_val, q_bl, List.set, bi_intI, bin_pow, cmp_ge, bin_sub, bin_mod, bi_lenL]
  refine ⟨by show 0 ≤ sizeLine; decide, _, rfl, ⟨by decide, by decide, by decide⟩, ?_⟩
  by_cases hb : (10 : Int) ^ (18 : Int).toNat ≤ cell
  · rw [if_pos (by simpa using hb)]
    refine ⟨⟨by decide, by decide, by decide⟩, ?_⟩
    refine ex_for ?_
    simp only [ev, List.getElem?_cons_zero, List.getElem?_cons_succ, q_val]
    refine ⟨_, rfl, ?_⟩
    refine for_one (fun i Γ => ∃ (row : List Nat) (rest : Int) (o : Option Bd), Γ = [some (.val (.int cell)), some (.val (.lst (sizes.map nI))), some (.own (row.map nI)), some (.val (.int rest)), none, none, o, none] ∧ row.length = i ∧ ∀ j r s : Nat, row[j]? = some r → sizes[j]? = some s → r < s) ?_ ?_
      ⟨[], _, _, rfl, rfl, fun j r s e => by simp at e⟩
    · rintro i x Γ D' hx hi ⟨row, rest, o, rfl, hrl, hrow⟩ e1 e2 e3 nx ct
      rw [List.length_map] at hi
      have hx' : sizes[i]? = some sizes[i] := List.getElem?_eq_getElem hi
      rw [List.getElem?_map, hx'] at hx
      cases hx
      obtain ⟨p1, p2⟩ := hs _ (List.getElem_mem hi)
      simp only [ex_seq, ex_app, ex_asg, ev, args_tup, List.set, List.getElem?_cons_zero, List.getElem?_cons_succ, q_val, q_own, bin_mod, bin_fdiv, bi_intI]
      obtain ⟨r, hr, hlt⟩ := fmod_ex rest p1
      refine ⟨by omega, ?_⟩
      rw [hr]
      refine ⟨by rw [List.length_map]; omega, ⟨by omega, by omega⟩, ?_⟩
      obtain ⟨g1, g2⟩ := row_app hrl hrow (r := r) (fun s e => by rw [hx'] at e; cases e; exact hlt)
      refine nx _ ⟨row ++ [r], _, _, by rw [List.map_append]; rfl, g1, g2⟩
    · rintro Γ ⟨row, rest, o, rfl, hrl, hrow⟩
      rw [List.length_map] at hrl
      exact ⟨_, rfl, q row ⟨hrl, hrow⟩⟩
  · rw [if_neg (by simpa using hb)]
    refine ⟨by decide, ?_⟩
    refine ex_for ?_
    simp only [ev, args_tup, List.getElem?_cons_zero, List.getElem?_cons_succ, q_val, bi_lenL, List.length_map]
    refine ⟨_, rfl, by omega, by omega, _, rfl, ?_⟩
    obtain ⟨s0, hs0, _⟩ := fmod_lit cell 2147483629 2147483629 rfl (by decide)
    rw [hs0, Int.toNat_natCast]
    refine for_one (fun i Γ => ∃ (row : List Nat) (seed : Nat) (o5 o6 o7 : Option Bd), Γ = [some (.val (.int cell)), some (.val (.lst (sizes.map nI))), some (.own (row.map nI)), some (.val (.int cell)), some (.val (.int seed)), o5, o6, o7] ∧ row.length = i ∧ ∀ j r s : Nat, row[j]? = some r → sizes[j]? = some s → r < s) ?_ ?_
      ⟨[], s0, _, _, _, rfl, rfl, fun j r s e => by simp at e⟩
    · rintro i x Γ D' hx hi ⟨row, seed, o5, o6, o7, rfl, hrl, hrow⟩ e1 e2 e3 nx ct
      rw [List.length_map, List.length_range] at hi
      rw [List.getElem?_map, List.getElem?_range hi] at hx
      cases hx
      have hx' : sizes[i]? = some sizes[i] := List.getElem?_eq_getElem hi
      obtain ⟨p1, p2⟩ := hs _ (List.getElem_mem hi)
      simp only [ex_seq, ex_app, ex_asg, ev, args_tup, List.set, List.getElem?_cons_zero, List.getElem?_cons_succ, q_val, q_own, bin_mod, bin_fdiv, bi_intI, bin_mul, bin_add]
      refine ⟨.inr ⟨by decide, by decide⟩, .inl ⟨by decide, by decide⟩, by decide, ?_⟩
      obtain ⟨s1, hs1, hl1⟩ := fmod_lit ((seed : Int) * 48271 + 974711 * (i : Int) + 12345) 2147483647 2147483647 rfl (by decide)
      rw [hs1]
      refine ⟨⟨by decide, by decide⟩, .inl ⟨by omega, by omega⟩, by decide, ?_⟩
      obtain ⟨s2, hs2, hl2⟩ := fmod_lit ((s1 : Int) * ((s1 : Int).fdiv 65537 + 3)) 2147483629 2147483629 rfl (by decide)
      rw [hs2]
      refine ⟨⟨by decide, by decide⟩, ?_⟩
      rw [idx_lstN, List.getElem?_map, hx']
      refine ⟨_, rfl, ?_⟩
      rw [bin_mod]
      obtain ⟨r, hr, hlt⟩ := fmod_ex ((s2 : Int).fdiv 19) p1
      refine ⟨by omega, ?_⟩
      rw [hr]
      refine ⟨by rw [List.length_map]; omega, ?_⟩
      obtain ⟨g1, g2⟩ := row_app hrl hrow (r := r) (fun s e => by rw [hx'] at e; cases e; exact hlt)
      refine nx _ ⟨row ++ [r], s1, _, _, _, by rw [List.map_append]; rfl, g1, g2⟩
    · rintro Γ ⟨row, seed, o5, o6, o7, rfl, hrl, hrow⟩
      rw [List.length_map, List.length_range] at hrl
      exact ⟨_, rfl, q row ⟨hrl, hrow⟩⟩

theorem idx_l2 {a b c : DV} {r : List DV} : idxS (.lst (a :: b :: c :: r)) (.int 2) Q = Q c := by
  show (∃ d, atI (a :: b :: c :: r) 2 = some d ∧ Q d) = Q c
  rw [show atI (a :: b :: c :: r) 2 = some c from at_nat (i := 2) rfl]
  simp
theorem text_bits {bs : List Nat} : Bits ((bs.map fun n : Nat => (n : Int)).map tx) := by
  rw [List.map_map]
  exact bits_map fun n _ => by
    show tx _ = 48 ∨ tx _ = 49
    unfold tx
    split <;> simp
theorem fmod_int (a : Int) {b : Int} (h : 0 < b) : ∃ r : Nat, a.fmod b = (r : Int) ∧ (r : Int) < b := by
  obtain ⟨r, h1, h2⟩ := fmod_lit a b.toNat b (by omega) (by omega)
  exact ⟨r, h1, by omega⟩
theorem cut_to {α : Type} {s : List α} {n : Nat} : cut s none (some (n : Int)) = s.take n := by
  unfold cut
  rw [HT.sIx_none, HT.sIx_nat, List.drop_zero, Nat.sub_zero]
  rcases Nat.le_total n s.length with h | h
  · rw [Nat.min_eq_left h]
  · rw [Nat.min_eq_right h, List.take_length, List.take_of_length_le h]
theorem slc_lst {s : List DV} {lo hi : Option Int} : slcS (.lst s) lo hi Q = Q (.lst (cut s lo hi)) := rfl
theorem mul01 {a b c : Nat} (h1 : a < 2) (h2 : b < 2) (h3 : c < 2) : a * b * c < 2 := by
  have e1 : a = 0 ∨ a = 1 := by omega
  have e2 : b = 0 ∨ b = 1 := by omega
  have e3 : c = 0 ∨ c = 1 := by omega
  rcases e1 with rfl | rfl <;> rcases e2 with rfl | rfl <;> rcases e3 with rfl | rfl <;> decide
theorem rep48 : ∀ n, rep [48] n = List.replicate n 48
  | 0 => rfl
  | n + 1 => by rw [rep, rep48 n]; rfl
theorem cut3 {a b c : DV} {xs : List DV} (h : xs.length = 72) : cut (a :: b :: c :: xs) (some 3) (some 75) = xs := by
  show cut (a :: b :: c :: xs) (some ((3 : Nat) : Int)) (some ((75 : Nat) : Int)) = xs
  rw [cut_both, List.take_of_length_le (by simp [h])]
  rfl
def sizes0 : List Nat := 8 :: 61 :: 12 :: List.replicate 72 2
theorem two_str {a b : DV} : ([a, b] : List DV).length ≤ sizeLine := by show 2 ≤ sizeLine; decide
theorem lcm_two {a b c : Nat} (ha : 0 < a) (hb : 0 < b) (hc : 0 < c) (la : a ≤ 12) (lb : b ≤ 12 ∨ b = 2 * a) (lc : c ≤ 12) : 0 < Nat.lcm (Nat.lcm a b) c ∧ Nat.lcm (Nat.lcm a b) c ≤ 2000 := by
  have h1 : Nat.lcm a b ≤ 144 := by
    rcases lb with lb | rfl
    · have e : Nat.lcm a b ≤ a * b := Nat.div_le_self _ _
      have := Nat.mul_le_mul la lb
      omega
    · have e : Nat.lcm a (2 * a) ≤ 2 * a := Nat.le_of_dvd (by omega) (Nat.lcm_dvd (Nat.dvd_mul_left _ _) (Nat.dvd_refl _))
      omega
  have h2 : Nat.lcm (Nat.lcm a b) c ≤ Nat.lcm a b * c := Nat.div_le_self _ _
  have h3 := Nat.mul_le_mul h1 lc
  exact ⟨Nat.lcm_pos (Nat.lcm_pos ha hb) hc, by omega⟩
def sizes3 : List Nat := [6, 30, 4, 90, 90, 90, 24, 6, 1000]
abbrev Tr := DV × List Nat × List Nat
def ln (p : Tr) : DV := .lst [.str p.2.1, .str p.2.2]
def Good (L : Nat) (ps : List Tr) : Prop := ∀ p ∈ ps, Made p.1 p.2.1 p.2.2 ∧ Line L p.2.1 p.2.2
theorem at_ps {α : Type} {ps : List α} {f : α → DV} {j : Nat} (h : j < ps.length) {R : DV → Prop} (r : R (f ps[j])) : ∃ i d, DV.int (j : Int) = DV.int i ∧ atI (ps.map f) i = some d ∧ R d :=
  ⟨_, _, rfl, by rw [atI_q, List.getElem?_map, List.getElem?_eq_getElem h]; rfl, r⟩
abbrev G12 (ns : List Int) (far : List Nat) (ps : List Tr) (r : List (Option Bd)) : Vg.Env := some (.val (.scr ns)) :: some (.own (ps.map ln)) :: some (.val (.lst (far.map nI))) :: some (.own (ps.map (·.1))) :: r
theorem fl_fl {s : List Nat} (h : Bits s) : (s.map fl).map fl = s := by
  rw [List.map_map]
  have : s.map (fl ∘ fl) = s.map id := List.map_congr_left fun x hx => by
    rcases h x hx with rfl | rfl <;> rfl
  rw [this, List.map_id]
theorem q_dv {x : DV} {P : DV → Prop} : (∃ c, (some x : Option DV) = some c ∧ P c) = P x := by simp
def sizes6 : List Nat := [5, 9, 9, 5, 9, 9, 5, 9, 9, 5, 9, 9, 5, 9, 9, 5, 9, 9]
def sizesF : List Nat := [2000, 10 ^ 9, 10 ^ 18]
theorem has_bit' {p c : List Nat} {n : Nat} (hc : 0 < c.length) (hp : p.length ≤ sizeLine) (hz : c.length ≤ sizeLine) (q : Q (.bl (has p c n))) : (sem P (k + 1)).F i_has_bit [.str p, .str c, .int n] Q := has_bit hc hp hz q
theorem law_in' {p c : List Nat} {n : Nat} {r : List DV} (hc : 0 < c.length) (hp : p.length ≤ sizeLine) (hz : c.length ≤ sizeLine) (q : Q (.bl (has p c n))) : (sem P (k + 1)).F i__law_in [.lst (.str p :: .str c :: r), .int n] Q := law_in hc hp hz q
section
variable {a c : List Nat} {r : List DV}
theorem no_of_nxt {s : Nat} (hc : 0 < c.length) (h : Nxt (has a c) s none) : ¬ 49 ∈ c := fun hin => by
  have h1 := rk_inf (p := a) hin (s + 1)
  have hb : rk (has a c) (a.length + (s + 1) * c.length) ≤ s := by
    have le : s + 1 ≤ (s + 1) * c.length := Nat.le_mul_of_pos_right _ hc
    rw [rk_none (fun n h1 _ => h n h1) (show s ≤ a.length + (s + 1) * c.length by omega)]
    exact rk_le s
  omega
end
section
variable {p c : List Nat}
def firstTail : Cm :=
    (.seq (.asg 4 (.call i_unfolded (.cons (.fld (.var 0) f_prefix) (.cons (.fld (.var 0) f_cycle) (.cons (.var 2) .nil)))))
      (.seq (.asg 5 (.lc (.one 6) (.rng1 (.var 2)) (.cmp .Eq (.idx (.var 4) (.var 6)) (.k (.str [49]))) (.var 6)))
      (.ret (.bi .tuple (.cons (.slc (.var 5) .nopart (.part (.var 1))) .nil)))))
end

def Sub (f g : Nat → Bool) : Prop := ∀ n, f n = true → g n = true
theorem tab_sub {x y : Nat} (hx : x = 48 ∨ x = 49) (hy : y = 48 ∨ y = 49) : tabF [48, 48, 49, 48] x y = 49 ↔ x = 49 ∧ ¬ y = 49 := by
  rcases hx with rfl | rfl <;> rcases hy with rfl | rfl <;> decide
theorem lcm_le {a b : Nat} (ha : 0 < a) (hb : 0 < b) (la : a ≤ 300) (lb : b ≤ 300) : Nat.lcm a b ≤ 90000 ∧ 0 < Nat.lcm a b := by
  refine ⟨Nat.le_trans (Nat.le_of_dvd (Nat.mul_pos ha hb) (Nat.lcm_dvd_mul a b)) ?_, Nat.lcm_pos ha hb⟩
  exact Nat.le_trans (Nat.mul_le_mul la lb) (by decide)
section
variable {p1 c1 p2 c2 : List Nat}
theorem ps_within (b1 : Bits p1) (d1 : Bits c1) (b2 : Bits p2) (d2 : Bits c2) (h1 : 0 < c1.length) (h2 : 0 < c2.length) (z1 : p1.length ≤ 100000) (z2 : p2.length ≤ 100000) (y1 : c1.length ≤ 300) (y2 : c2.length ≤ 300)
    (q : ∀ b : Bool, (b = true ↔ Sub (has p1 c1) (has p2 c2)) → Q (.bl b)) : (sem P (k + 3)).F i_PeriodicSet_within [.ins c_PeriodicSet [.str c1, .str p1], .ins c_PeriodicSet [.str c2, .str p2]] Q := by
  obtain ⟨hl, hl0⟩ := lcm_le h1 h2 y1 y2
  refine run_f rfl rfl rfl ?_
  show ex (sem P (k + 2)) (.seq _ _) [some (.val (.ins c_PeriodicSet [.str c1, .str p1])), some (.val (.ins c_PeriodicSet [.str c2, .str p2])), none] (endsN Q)
  simp only [ex_seq, ex_asg, ex_asgO, ex_ite, ex_nop, ex_ret, ex_retO, ex_retF, ex_app, ex_frz, ex_seti, ev, args_tup, List.set, List.getElem?_cons_zero, List.getElem?_cons_succ, q_val, q_own, q_bl, q_int, q_lst, part_non, part_int, bi_lenS, bi_lenL, bi_lenT, bi_lenC, bi_intI, bi_intB, bi_max2, bi_max3, bi_min2, cmp_lt, cmp_le, cmp_gt, cmp_ge, cmp_eqI, cmp_eqT, cmp_eqB, cmp_neI, cmp_neT, cmp_neB, cmp_inT, cmp_ninT, sqD_l, sqD_t, bi_tupL, bi_tupT, bi_listL, bi_listT, isN_non, isN_int, isN_lst, isN_tup, isN_ins, isi_int, isi_intB, isi_blB, isi_tup, isi_strS, cmp_is, cmp_isn, cmp_isB, cmp_isnB, bin_add, bin_sub, bin_mul, bin_fdiv, bin_mod, Vg.un_neg, idx_l0, idx_l1, idx_t0, idx_t1, idx_t2, idx_l2, isLT_l, isLT_t, count_str, bmTy, if_true, if_false, Bool.false_eq_true, Bool.not_true, Bool.not_false, true_and, and_true, decide_true, decide_false, fld0, fld1, two_str]
  refine combined (k := k) b1 d1 b2 d2 h1 h2 rfl z1 z2 (by omega) (by omega) (by omega) ?_
  simp only [ex_seq, ex_asg, ex_asgO, ex_ite, ex_nop, ex_ret, ex_retO, ex_retF, ex_app, ex_frz, ex_seti, ev, args_tup, List.set, List.getElem?_cons_zero, List.getElem?_cons_succ, q_val, q_own, q_bl, q_int, q_lst, part_non, part_int, bi_lenS, bi_lenL, bi_lenT, bi_lenC, bi_intI, bi_intB, bi_max2, bi_max3, bi_min2, cmp_lt, cmp_le, cmp_gt, cmp_ge, cmp_eqI, cmp_eqT, cmp_eqB, cmp_neI, cmp_neT, cmp_neB, cmp_inT, cmp_ninT, sqD_l, sqD_t, bi_tupL, bi_tupT, bi_listL, bi_listT, isN_non, isN_int, isN_lst, isN_tup, isN_ins, isi_int, isi_intB, isi_blB, isi_tup, isi_strS, cmp_is, cmp_isn, cmp_isB, cmp_isnB, bin_add, bin_sub, bin_mul, bin_fdiv, bin_mod, Vg.un_neg, idx_l0, idx_l1, idx_t0, idx_t1, idx_t2, idx_l2, isLT_l, isLT_t, count_str, bmTy, if_true, if_false, Bool.false_eq_true, Bool.not_true, Bool.not_false, true_and, and_true, decide_true, decide_false]
  generalize hA : List.map (fun n => tabF [48, 48, 49, 48] (bitAt p1 c1 n) (bitAt p2 c2 n)) (List.range (max p1.length p2.length)) = A
  generalize hB : List.map (fun n => tabF [48, 48, 49, 48] (cyc c1 n) (cyc c2 n)) (List.range (Nat.lcm c1.length c2.length)) = B
  have key : (¬ 49 ∈ A ∧ ¬ 49 ∈ B) ↔ Sub (has p1 c1) (has p2 c2) := by
    subst hA hB
    simp only [List.mem_map, List.mem_range, not_exists, not_and]
    constructor
    · rintro ⟨ha, hb⟩ n hn
      rcases Bool.eq_false_or_eq_true (has p2 c2 n) with e | e
      · exact e
      · exfalso
        by_cases hm : n < max p1.length p2.length
        · refine ha n hm ((tab_sub (bitAt_bits b1 d1 h1 n) (bitAt_bits b2 d2 h2 n)).2 ⟨by simpa [has] using hn, by simpa [has] using e⟩)
        · rw [has_ge (by omega)] at hn e
          refine hb (n % Nat.lcm c1.length c2.length) (Nat.mod_lt _ hl0) ?_
          rw [cyc_mod (Nat.dvd_lcm_left _ _), cyc_mod (Nat.dvd_lcm_right _ _)]
          exact (tab_sub (cyc_bits d1 h1 n) (cyc_bits d2 h2 n)).2 ⟨by simpa using hn, by simpa using e⟩
    · intro h
      refine ⟨fun n hn e => ?_, fun n hn e => ?_⟩
      · obtain ⟨e1, e2⟩ := (tab_sub (bitAt_bits b1 d1 h1 n) (bitAt_bits b2 d2 h2 n)).1 e
        have := h n (by simpa [has] using e1)
        exact e2 (by simpa [has] using this)
      · obtain ⟨e1, e2⟩ := (tab_sub (cyc_bits d1 h1 n) (cyc_bits d2 h2 n)).1 e
        have hge : max p1.length p2.length ≤ n + Nat.lcm c1.length c2.length * max p1.length p2.length := by
          have := Nat.le_mul_of_pos_left (max p1.length p2.length) hl0
          omega
        have hc1 : cyc c1 (n + Nat.lcm c1.length c2.length * max p1.length p2.length) = cyc c1 n := by
          rw [← cyc_mod (t := Nat.lcm c1.length c2.length) (Nat.dvd_lcm_left _ _), Nat.add_mul_mod_self_left, cyc_mod (Nat.dvd_lcm_left _ _)]
        have hc2 : cyc c2 (n + Nat.lcm c1.length c2.length * max p1.length p2.length) = cyc c2 n := by
          rw [← cyc_mod (t := Nat.lcm c1.length c2.length) (Nat.dvd_lcm_right _ _), Nat.add_mul_mod_self_left, cyc_mod (Nat.dvd_lcm_right _ _)]
        have := h (n + Nat.lcm c1.length c2.length * max p1.length p2.length) (by rw [has_ge (by omega), hc1]; simpa using e1)
        rw [has_ge (by omega), hc2] at this
        exact e2 (by simpa using this)
  by_cases hA1 : 49 ∈ A
  · simp only [ex_seq, ex_asg, ex_asgO, ex_ite, ex_nop, ex_ret, ex_retO, ex_retF, ex_app, ex_frz, ex_seti, ev, args_tup, List.set, List.getElem?_cons_zero, List.getElem?_cons_succ, q_val, q_own, q_bl, q_int, q_lst, part_non, part_int, bi_lenS, bi_lenL, bi_lenT, bi_lenC, bi_intI, bi_intB, bi_max2, bi_max3, bi_min2, cmp_lt, cmp_le, cmp_gt, cmp_ge, cmp_eqI, cmp_eqT, cmp_eqB, cmp_neI, cmp_neT, cmp_neB, cmp_inT, cmp_ninT, sqD_l, sqD_t, bi_tupL, bi_tupT, bi_listL, bi_listT, isN_non, isN_int, isN_lst, isN_tup, isN_ins, isi_int, isi_intB, isi_blB, isi_tup, isi_strS, cmp_is, cmp_isn, cmp_isB, cmp_isnB, bin_add, bin_sub, bin_mul, bin_fdiv, bin_mod, Vg.un_neg, idx_l0, idx_l1, idx_t0, idx_t1, idx_t2, idx_l2, isLT_l, isLT_t, count_str, bmTy, if_true, if_false, Bool.false_eq_true, Bool.not_true, Bool.not_false, true_and, and_true, decide_true, decide_false, hA1]
    refine q false ⟨fun z => (by cases z), fun z => absurd hA1 (key.2 z).1⟩
  · simp only [ex_seq, ex_asg, ex_asgO, ex_ite, ex_nop, ex_ret, ex_retO, ex_retF, ex_app, ex_frz, ex_seti, ev, args_tup, List.set, List.getElem?_cons_zero, List.getElem?_cons_succ, q_val, q_own, q_bl, q_int, q_lst, part_non, part_int, bi_lenS, bi_lenL, bi_lenT, bi_lenC, bi_intI, bi_intB, bi_max2, bi_max3, bi_min2, cmp_lt, cmp_le, cmp_gt, cmp_ge, cmp_eqI, cmp_eqT, cmp_eqB, cmp_neI, cmp_neT, cmp_neB, cmp_inT, cmp_ninT, sqD_l, sqD_t, bi_tupL, bi_tupT, bi_listL, bi_listT, isN_non, isN_int, isN_lst, isN_tup, isN_ins, isi_int, isi_intB, isi_blB, isi_tup, isi_strS, cmp_is, cmp_isn, cmp_isB, cmp_isnB, bin_add, bin_sub, bin_mul, bin_fdiv, bin_mod, Vg.un_neg, idx_l0, idx_l1, idx_t0, idx_t1, idx_t2, idx_l2, isLT_l, isLT_t, count_str, bmTy, if_true, if_false, Bool.false_eq_true, Bool.not_true, Bool.not_false, true_and, and_true, decide_true, decide_false, hA1]
    by_cases hB1 : 49 ∈ B
    · simp only [ex_seq, ex_asg, ex_asgO, ex_ite, ex_nop, ex_ret, ex_retO, ex_retF, ex_app, ex_frz, ex_seti, ev, args_tup, List.set, List.getElem?_cons_zero, List.getElem?_cons_succ, q_val, q_own, q_bl, q_int, q_lst, part_non, part_int, bi_lenS, bi_lenL, bi_lenT, bi_lenC, bi_intI, bi_intB, bi_max2, bi_max3, bi_min2, cmp_lt, cmp_le, cmp_gt, cmp_ge, cmp_eqI, cmp_eqT, cmp_eqB, cmp_neI, cmp_neT, cmp_neB, cmp_inT, cmp_ninT, sqD_l, sqD_t, bi_tupL, bi_tupT, bi_listL, bi_listT, isN_non, isN_int, isN_lst, isN_tup, isN_ins, isi_int, isi_intB, isi_blB, isi_tup, isi_strS, cmp_is, cmp_isn, cmp_isB, cmp_isnB, bin_add, bin_sub, bin_mul, bin_fdiv, bin_mod, Vg.un_neg, idx_l0, idx_l1, idx_t0, idx_t1, idx_t2, idx_l2, isLT_l, isLT_t, count_str, bmTy, if_true, if_false, Bool.false_eq_true, Bool.not_true, Bool.not_false, true_and, and_true, decide_true, decide_false, hB1]
      refine q false ⟨fun z => (by cases z), fun z => absurd hB1 (key.2 z).2⟩
    · simp only [ex_seq, ex_asg, ex_asgO, ex_ite, ex_nop, ex_ret, ex_retO, ex_retF, ex_app, ex_frz, ex_seti, ev, args_tup, List.set, List.getElem?_cons_zero, List.getElem?_cons_succ, q_val, q_own, q_bl, q_int, q_lst, part_non, part_int, bi_lenS, bi_lenL, bi_lenT, bi_lenC, bi_intI, bi_intB, bi_max2, bi_max3, bi_min2, cmp_lt, cmp_le, cmp_gt, cmp_ge, cmp_eqI, cmp_eqT, cmp_eqB, cmp_neI, cmp_neT, cmp_neB, cmp_inT, cmp_ninT, sqD_l, sqD_t, bi_tupL, bi_tupT, bi_listL, bi_listT, isN_non, isN_int, isN_lst, isN_tup, isN_ins, isi_int, isi_intB, isi_blB, isi_tup, isi_strS, cmp_is, cmp_isn, cmp_isB, cmp_isnB, bin_add, bin_sub, bin_mul, bin_fdiv, bin_mod, Vg.un_neg, idx_l0, idx_l1, idx_t0, idx_t1, idx_t2, idx_l2, isLT_l, isLT_t, count_str, bmTy, if_true, if_false, Bool.false_eq_true, Bool.not_true, Bool.not_false, true_and, and_true, decide_true, decide_false, hB1]
      exact q true ⟨fun _ => key.1 ⟨hA1, hB1⟩, fun _ => rfl⟩
end
/-- a line of the law and its set -/
structure Ln (l0 l1 : List Nat) : Prop where
  b0 : Bits l0
  b1 : Bits l1
  ne : 0 < l1.length
  z0 : l0.length ≤ 1400
  z1 : l1.length ≤ 24
theorem Canon.has {p c l0 l1 : List Nat} (h : Canon p c l0 l1) : has p c = has l0 l1 := by
  funext n
  unfold Gk.has
  rw [h.eq n]
theorem inf_iff {p c : List Nat} (hc : 0 < c.length) : 49 ∈ c ↔ ∀ t, ∃ n, t ≤ rk (has p c) n := by
  constructor
  · exact fun h t => ⟨_, rk_inf h t⟩
  · intro h
    rcases Classical.em (49 ∈ c) with e | e
    · exact e
    · obtain ⟨n, hn⟩ := h (countOne 49 p + 1)
      have := rk_finle (p := p) e hc n
      omega
theorem Canon.inf {p c l0 l1 : List Nat} (h : Canon p c l0 l1) (hl : 0 < l1.length) : (49 ∈ c) = (49 ∈ l1) := by
  rw [inf_iff (p := p) h.ne, inf_iff (p := l0) hl, Canon.has h]
theorem Canon.cnt {p c l0 l1 : List Nat} (h : Canon p c l0 l1) (hl : 0 < l1.length) (hn : ¬ 49 ∈ l1) : countOne 49 p = countOne 49 l0 := by
  have h1 := rk_fin (p := l0) (n := max p.length l0.length) hn hl (by omega)
  have h2 := rk_fin (p := p) (n := max p.length l0.length) (by rw [Canon.inf h hl]; exact hn) h.ne (by omega)
  rw [Canon.has h] at h2
  omega
theorem Canon.sz {p c l0 l1 : List Nat} (h : Canon p c l0 l1) (l : Ln l0 l1) : p.length ≤ 1400 ∧ c.length ≤ 24 ∧ 0 < c.length :=
  ⟨Nat.le_trans h.le l.z0, Nat.le_trans (Nat.le_of_dvd l.ne h.dvd) l.z1, h.ne⟩
section
variable {d : DV} {l0 l1 : List Nat} {r : List DV}
theorem ps_is_infinite {p c : List Nat} (q : Q (.bl (decide (49 ∈ c)))) : (sem P (k + 1)).F i_PeriodicSet_is_infinite [.ins c_PeriodicSet [.str c, .str p]] Q := by
  refine run_f rfl rfl rfl ?_
  show ex (sem P k) (.ret _) [some (.val (.ins c_PeriodicSet [.str c, .str p]))] (endsN Q)
  simp only [ex_seq, ex_asg, ex_asgO, ex_ite, ex_nop, ex_ret, ex_retO, ex_retF, ex_app, ex_frz, ex_seti, ev, args_tup, List.set, List.getElem?_cons_zero, List.getElem?_cons_succ, q_val, q_own, q_bl, q_int, q_lst, part_non, part_int, bi_lenS, bi_lenL, bi_lenT, bi_lenC, bi_intI, bi_intB, bi_max2, bi_max3, bi_min2, cmp_lt, cmp_le, cmp_gt, cmp_ge, cmp_eqI, cmp_eqT, cmp_eqB, cmp_neI, cmp_neT, cmp_neB, cmp_inT, cmp_ninT, sqD_l, sqD_t, bi_tupL, bi_tupT, bi_listL, bi_listT, isN_non, isN_int, isN_lst, isN_tup, isN_ins, isi_int, isi_intB, isi_blB, isi_tup, isi_strS, cmp_is, cmp_isn, cmp_isB, cmp_isnB, bin_add, bin_sub, bin_mul, bin_fdiv, bin_mod, Vg.un_neg, idx_l0, idx_l1, idx_t0, idx_t1, idx_t2, idx_l2, isLT_l, isLT_t, count_str, bmTy, if_true, if_false, Bool.false_eq_true, Bool.not_true, Bool.not_false, true_and, and_true, decide_true, decide_false, fld0]
  exact q
end

theorem row_lt {sizes row : List Nat} (h : Row sizes row) {n s : Nat} (e : sizes[n]? = some s) : row.getD n 0 < s := by
  obtain ⟨hl, hlt⟩ := h
  have hn : n < row.length := by
    have := (List.getElem?_eq_some_iff.mp e).1
    omega
  exact hlt n _ s (get_lt hn) e
theorem row_idx {sizes row : List Nat} (h : Row sizes row) {n s : Nat} (e : sizes[n]? = some s) : idxS (.lst (row.map nI)) (.int (OfNat.ofNat n)) Q = Q (nI (row.getD n 0)) := by
  obtain ⟨hl, hlt⟩ := h
  have hn : n < row.length := by
    have := (List.getElem?_eq_some_iff.mp e).1
    omega
  have e2 : (OfNat.ofNat n : Int) = ((n : Nat) : Int) := rfl
  rw [e2, idx_lstN, List.getElem?_map, get_lt hn]
  simp
def szR : List Nat := [90, 90, 90, 40, 70, 300, 90, 1000, 2]
def szF : List Nat := [1000, 10 ^ 8, 10 ^ 15]
section
variable {l0 l1 : List Nat} {r : List DV} {row far : List Nat} {d : DV}
theorem far_lt (h : Row szF far) : ∀ x ∈ far, x ≤ 10 ^ 15 := fun x hx => by
  obtain ⟨hl, hlt⟩ := h
  obtain ⟨n, hn⟩ := List.getElem?_of_mem hx
  have hn3 : n < 3 := by
    have := (List.getElem?_eq_some_iff.mp hn).1
    rw [hl] at this
    exact this
  have : n = 0 ∨ n = 1 ∨ n = 2 := by omega
  rcases this with rfl | rfl | rfl
  · have := hlt 0 x 1000 hn rfl
    omega
  · have := hlt 1 x (10 ^ 8) hn rfl
    omega
  · have := hlt 2 x (10 ^ 15) hn rfl
    omega
end

theorem en_asc {f : Nat → Bool} {ms : List Nat} (h : Enum f ms) : ∀ i x y, ms[i]? = some x → ms[i + 1]? = some y → x < y := fun i x y h1 h2 => h.lt h1 h2 (Nat.lt_succ_self i)
section
variable {l0 l1 : List Nat} {r : List DV} {row far : List Nat} {d : DV}
/-- for x in told: each is in the line -/
def inLoop : Cm :=
    (.ite (.bnot (.call i__law_in (.cons (.var 1) (.cons (.var 8) .nil))))
    (.ret (.k (.bl false)))
    .nop)
def inLoop2 : Cm :=
    (.ite (.bor (.cmp .GtE (.var 8) (.var 5)) (.bnot (.call i__law_in (.cons (.var 1) (.cons (.var 8) .nil)))))
    (.ret (.k (.bl false)))
    .nop)
abbrev G9 (p c l0 l1 : List Nat) (r : List DV) (row : List Nat) (t : List (Option Bd)) : Vg.Env := some (.val (.ins c_PeriodicSet [.str c, .str p])) :: some (.val (.lst (.str l0 :: .str l1 :: r))) :: some (.val (.lst (row.map nI))) :: some (.val (nI (countOne 49 l0))) :: t
theorem first_len {ms : List Nat} {m : Nat} (hn : 0 < l1.length) (h1 : Enum (has l0 l1) ms) (h2 : ms.length ≤ m) (h3 : ms.length < m → ∀ n, rk (has l0 l1) n ≤ ms.length) : ms.length = if 49 ∈ l1 then m else min m (countOne 49 l0) := by
  split
  · rename_i he
    rcases Nat.lt_or_ge ms.length m with z | z
    · obtain ⟨n, hn⟩ := (inf_iff (p := l0) hn).1 he (ms.length + 1)
      have := h3 z n
      omega
    · omega
  · rename_i he
    have h4 := h1.len (rk_finle he hn)
    rcases Nat.lt_or_ge ms.length m with z | z
    · have := h3 z l0.length
      rw [rk_head] at this
      omega
    · omega
end

theorem row_take {s t row : List Nat} (h : Row (s ++ t) row) : Row s (row.take s.length) := by
  obtain ⟨hl, hlt⟩ := h
  rw [List.length_append] at hl
  refine ⟨by rw [List.length_take]; omega, fun j r x e1 e2 => ?_⟩
  have hj := (List.getElem?_eq_some_iff.mp e2).1
  rw [List.getElem?_take_of_lt hj] at e1
  exact hlt j r x e1 (by rw [List.getElem?_append_left hj]; exact e2)
theorem row_idx' {sizes row : List Nat} (h : Row sizes row) {n s : Nat} (e : sizes[n]? = some s) (q : Q (nI (row.getD n 0))) : idxS (.lst (row.map nI)) (.int ((n : Nat) : Int)) Q := by
  obtain ⟨hl, hlt⟩ := h
  have hn : n < row.length := by
    have := (List.getElem?_eq_some_iff.mp e).1
    omega
  rw [idx_lstN, List.getElem?_map, get_lt hn]
  exact ⟨_, rfl, q⟩
theorem bits_app {a b : List Nat} (ha : Bits a) (hb : Bits b) : Bits (a ++ b) := fun x hx => by
  rcases List.mem_append.1 hx with h | h
  · exact ha x h
  · exact hb x h
theorem bits_rep (n : Nat) : Bits (rep [48] n) := fun x hx => by
  rw [rep48, List.mem_replicate] at hx
  exact .inl hx.2
theorem len_rep (n : Nat) : (rep [48] n).length = n := by
  rw [rep48, List.length_replicate]
theorem bits_drop {a : List Nat} (n : Nat) (ha : Bits a) : Bits (a.drop n) := ha.mono fun x hx => List.mem_of_mem_drop hx
theorem bits_take {a : List Nat} (n : Nat) (ha : Bits a) : Bits (a.take n) := ha.mono fun x hx => List.mem_of_mem_take hx
theorem bits1 : Bits [49] := fun x hx => by
  simp at hx
  exact .inr hx
theorem bits0 : Bits [48] := fun x hx => by
  simp at hx
  exact .inl hx
structure Ls (l0 l1 : List Nat) : Prop where
  b0 : Bits l0
  b1 : Bits l1
  ne : 0 < l1.length
  z0 : l0.length ≤ 1100
  z1 : l1.length ≤ 12
theorem Ls.ln {l0 l1 : List Nat} (h : Ls l0 l1) : Ln l0 l1 := ⟨h.b0, h.b1, h.ne, Nat.le_trans h.z0 (by decide), Nat.le_trans h.z1 (by decide)⟩
def szL : List Nat := sizes0 ++ [6, 8, 1000]
def szN : List Nat := 9 :: 12 :: 24 :: List.replicate 96 4
theorem szN_at {j : Nat} (h : j < 96) : szN[3 + j]? = some 4 := by
  rw [show 3 + j = j + 1 + 1 + 1 by omega]
  show (List.replicate 96 4)[j]? = some 4
  rw [List.getElem?_replicate, if_pos h]
def nearC : Cm :=
    (.seq (.asg 8 (.bin .Mod (.bi .int (.cons (.idx (.var 2) (.k (.int 2))) .nil)) (.bi .len (.cons (.var 4) .nil))))
    (.ret (.lst (.cons (.var 5) (.cons (.var 7) (.cons (.lst (.cons (.var 3) (.cons (.bin .Add (.bin .Add (.slc (.var 4) .nopart (.part (.var 8))) (.k (.str [48]))) (.slc (.var 4) (.part (.bin .Add (.var 8) (.k (.int 1)))) .nopart)) .nil))) .nil))))))
structure Lm (l0 l1 : List Nat) : Prop where
  b0 : Bits l0
  b1 : Bits l1
  ne : 0 < l1.length
  z0 : l0.length ≤ 1110
  z1 : l1.length ≤ 24
theorem Lm.ln {l0 l1 : List Nat} (h : Lm l0 l1) : Ln l0 l1 := ⟨h.b0, h.b1, h.ne, Nat.le_trans h.z0 (by decide), h.z1⟩
section
variable {s0 s1 : DV} {row near word ms : List Nat}
theorem near_c {D : DE} {m0 m1 : List Nat} {o6 o8 o9 o10 : Option Bd} (hr : Row szN row) (l : Lm near word) (lm : Ln m0 m1) (q : ∀ a b c d e f, Ln a b → Ln c d → Ln e f → D.rt (.lst [.lst [.str a, .str b], .lst [.str c, .str d], .lst [.str e, .str f]])) :
    ex (sem P (k + 2)) nearC [some (.val s0), some (.val s1), some (.val (.lst (row.map nI))), some (.val (.str near)), some (.val (.str word)), some (.val (.lst [.str near, .str word])), o6, some (.val (.lst [.str m0, .str m1])), o8, o9, o10] D := by
  have z := sz
  have nz := l.ne
  have z1 := l.z1
  have zw : word.length ≤ sizeLine := by omega
  have hne : (word.length : Int) ≠ 0 := by omega
  have hlt := Nat.mod_lt (row.getD 2 0) nz
  simp only [ex_seq, ex_asg, ex_asgO, ex_ite, ex_nop, ex_ret, ex_retO, ex_retF, ex_app, ex_frz, ex_seti, ev, args_tup, List.set, List.getElem?_cons_zero, List.getElem?_cons_succ, q_val, q_own, q_bl, q_int, q_lst, part_non, part_int, bi_lenS, bi_lenL, bi_lenT, bi_lenC, bi_intI, bi_intB, bi_max2, bi_max3, bi_min2, cmp_lt, cmp_le, cmp_gt, cmp_ge, cmp_eqI, cmp_eqT, cmp_eqB, cmp_neI, cmp_neT, cmp_neB, cmp_inT, cmp_ninT, sqD_l, sqD_t, bi_tupL, bi_tupT, bi_listL, bi_listT, isN_non, isN_int, isN_lst, isN_tup, isN_ins, isi_int, isi_intB, isi_blB, isi_tup, isi_strS, cmp_is, cmp_isn, cmp_isB, cmp_isnB, bin_add, bin_sub, bin_mul, bin_fdiv, bin_mod, Vg.un_neg, idx_l0, idx_l1, idx_t0, idx_t1, idx_t2, idx_l2, isLT_l, isLT_t, count_str, bmTy, if_true, if_false, Bool.false_eq_true, Bool.not_true, Bool.not_false, true_and, and_true, decide_true, decide_false, nearC, row_idx hr (n := 2) rfl, zw, hne, ne_eq, not_false_eq_true, fmod_nat nz]
  generalize row.getD 2 0 % word.length = x at *
  refine slc_to zw ?_
  simp only [ex_seq, ex_asg, ex_asgO, ex_ite, ex_nop, ex_ret, ex_retO, ex_retF, ex_app, ex_frz, ex_seti, ev, args_tup, List.set, List.getElem?_cons_zero, List.getElem?_cons_succ, q_val, q_own, q_bl, q_int, q_lst, part_non, part_int, bi_lenS, bi_lenL, bi_lenT, bi_lenC, bi_intI, bi_intB, bi_max2, bi_max3, bi_min2, cmp_lt, cmp_le, cmp_gt, cmp_ge, cmp_eqI, cmp_eqT, cmp_eqB, cmp_neI, cmp_neT, cmp_neB, cmp_inT, cmp_ninT, sqD_l, sqD_t, bi_tupL, bi_tupT, bi_listL, bi_listT, isN_non, isN_int, isN_lst, isN_tup, isN_ins, isi_int, isi_intB, isi_blB, isi_tup, isi_strS, cmp_is, cmp_isn, cmp_isB, cmp_isnB, bin_add, bin_sub, bin_mul, bin_fdiv, bin_mod, Vg.un_neg, idx_l0, idx_l1, idx_t0, idx_t1, idx_t2, idx_l2, isLT_l, isLT_t, count_str, bmTy, if_true, if_false, Bool.false_eq_true, Bool.not_true, Bool.not_false, true_and, and_true, decide_true, decide_false, bin_cat]
  have el : (word.take x ++ [48]).length = x + 1 := by rw [List.length_append, List.length_take]; simp; omega
  refine ⟨by rw [List.length_take]; simp; omega, ?_⟩
  refine slc_from (n := x + 1) zw ?_
  simp only [ex_seq, ex_asg, ex_asgO, ex_ite, ex_nop, ex_ret, ex_retO, ex_retF, ex_app, ex_frz, ex_seti, ev, args_tup, List.set, List.getElem?_cons_zero, List.getElem?_cons_succ, q_val, q_own, q_bl, q_int, q_lst, part_non, part_int, bi_lenS, bi_lenL, bi_lenT, bi_lenC, bi_intI, bi_intB, bi_max2, bi_max3, bi_min2, cmp_lt, cmp_le, cmp_gt, cmp_ge, cmp_eqI, cmp_eqT, cmp_eqB, cmp_neI, cmp_neT, cmp_neB, cmp_inT, cmp_ninT, sqD_l, sqD_t, bi_tupL, bi_tupT, bi_listL, bi_listT, isN_non, isN_int, isN_lst, isN_tup, isN_ins, isi_int, isi_intB, isi_blB, isi_tup, isi_strS, cmp_is, cmp_isn, cmp_isB, cmp_isnB, bin_add, bin_sub, bin_mul, bin_fdiv, bin_mod, Vg.un_neg, idx_l0, idx_l1, idx_t0, idx_t1, idx_t2, idx_l2, isLT_l, isLT_t, count_str, bmTy, if_true, if_false, Bool.false_eq_true, Bool.not_true, Bool.not_false, true_and, and_true, decide_true, decide_false, bin_cat]
  refine ⟨by rw [el, List.length_drop]; omega, two_str, by show 3 ≤ sizeLine; decide, ?_⟩
  refine q _ _ _ _ _ _ l.ln lm ⟨l.b0, bits_app (bits_app (bits_take _ l.b1) bits0) (bits_drop _ l.b1), ?_, Nat.le_trans l.z0 (by decide), ?_⟩
  · rw [List.length_append, el]
    omega
  · rw [List.length_append, el, List.length_drop]
    omega
def gN (near row : List Nat) (i : Nat) : Nat := if near.getD i 0 = 49 ∨ row.getD (3 + i % 72) 0 = 0 then 1 else 0
def gW (word row : List Nat) (i : Nat) : Nat := if word.getD i 0 = 49 ∨ row.getD (75 + i) 0 = 0 then 1 else 0
end

def Goo (ps : List Tr) : Prop := ∀ p ∈ ps, Made p.1 p.2.1 p.2.2 ∧ Ln p.2.1 p.2.2
theorem init' {a b : List Nat} (l : Ln a b) (q : ∀ d, Made d a b → Q d) : (sem P (k + 2)).I c_PeriodicSet [.str a, .str b] Q := by
  have z := sz
  have h0 := l.z0
  have h1 := l.z1
  exact init l.b0 l.b1 l.ne (by omega) (by omega) fun p c hc => q _ ⟨p, c, rfl, hc⟩
abbrev G9' (ns : List Int) (row far : List Nat) (ps : List Tr) (r : List (Option Bd)) : Vg.Env := some (.val (.scr ns)) :: some (.val (.lst (ps.map ln))) :: some (.val (.lst (row.map nI))) :: some (.val (.lst (far.map nI))) :: some (.val (.lst (ps.map (·.1)))) :: r
theorem at_lst {α : Type} {ps : List α} {f : α → DV} {j : Nat} (h : j < ps.length) {R : DV → Prop} (r : R (f ps[j])) : idxS (.lst (ps.map f)) (nI j) R := by
  rw [show nI j = DV.int (j : Int) from rfl, idx_lstN, List.getElem?_map, List.getElem?_eq_getElem h]
  exact ⟨_, rfl, r⟩
theorem strs_one {α : Type} {xs : List α} {f : α → Nat} : (xs.map fun x => DV.str [f x]) = (xs.map f).map fun x => DV.str [x] := by
  rw [List.map_map]
  rfl
theorem set_map {n i : Nat} {f g : Nat → Nat} {h : Nat → DV} (hi : i < n) (hg : g i = f i ∨ True) (e : ∀ j, j < n → g j = if j = i then g i else f j) : (((List.range n).map f).map h).set i (h (g i)) = ((List.range n).map g).map h := by
  refine List.ext_getElem (by simp) fun j h1 h2 => ?_
  simp only [List.length_set, List.length_map, List.length_range] at h1
  rw [List.getElem_set]
  simp only [List.getElem_map, List.getElem_range]
  rw [e j h1]
  by_cases z : i = j
  · subst z
    simp
  · rw [if_neg z, if_neg (fun w => z w.symm)]
/-- the greatest and one: the first loop of finite and of _law_few -/
def topBody : Cm := (.asg 1 (.bi .max (.cons (.var 1) (.cons (.bin .Add (.var 2) (.k (.int 1))) .nil))))
theorem top_loop {d : DV} {xs : List Nat} {D : DE} (hd : itemsOf d = some (xs.map nI)) (q : ∀ o, D.nx [some (.val d), some (.val (nI (topN xs))), o, none]) :
    ex (sem P k) (.for_ (.one 2) (.var 0) topBody) [some (.val d), some (.val (.int 0)), none, none] D := by
  refine ex_for ?_
  simp only [ev, args_tup, List.set, List.getElem?_cons_zero, List.getElem?_cons_succ, q_val, q_own, q_bl, q_int, q_lst, part_non, part_int, bi_lenS, bi_lenL, bi_lenT, bi_lenC, bi_intI, bi_intB, bi_max2, bi_max3, bi_min2, cmp_lt, cmp_le, cmp_gt, cmp_ge, cmp_eqI, cmp_eqT, cmp_eqB, cmp_neI, cmp_neT, cmp_neB, cmp_inT, cmp_ninT, sqD_l, sqD_t, bi_tupL, bi_tupT, bi_listL, bi_listT, isN_non, isN_int, isN_lst, isN_tup, isN_ins, isi_int, isi_intB, isi_blB, isi_tup, isi_strS, cmp_is, cmp_isn, cmp_isB, cmp_isnB, bin_add, bin_sub, bin_mul, bin_fdiv, bin_mod, Vg.un_neg, idx_l0, idx_l1, idx_t0, idx_t1, idx_t2, idx_l2, isLT_l, isLT_t, count_str, bmTy, if_true, if_false, Bool.false_eq_true, Bool.not_true, Bool.not_false, true_and, and_true, decide_true, decide_false]
  refine ⟨_, hd, ?_⟩
  refine for_one (fun i Γ => ∃ o, Γ = [some (.val d), some (.val (nI (topN (xs.take i)))), o, none]) ?_ ?_ ⟨_, rfl⟩
  · rintro i x Γ D' hx hi ⟨o, rfl⟩ e1 e2 e3 nx ct
    rw [List.length_map] at hi
    have hg := List.getElem?_eq_getElem hi
    rw [List.getElem?_map, hg] at hx
    cases hx
    simp only [ex_seq, ex_asg, ex_asgO, ex_ite, ex_nop, ex_ret, ex_retO, ex_retF, ex_app, ex_frz, ex_seti, ev, args_tup, List.set, List.getElem?_cons_zero, List.getElem?_cons_succ, q_val, q_own, q_bl, q_int, q_lst, part_non, part_int, bi_lenS, bi_lenL, bi_lenT, bi_lenC, bi_intI, bi_intB, bi_max2, bi_max3, bi_min2, cmp_lt, cmp_le, cmp_gt, cmp_ge, cmp_eqI, cmp_eqT, cmp_eqB, cmp_neI, cmp_neT, cmp_neB, cmp_inT, cmp_ninT, sqD_l, sqD_t, bi_tupL, bi_tupT, bi_listL, bi_listT, isN_non, isN_int, isN_lst, isN_tup, isN_ins, isi_int, isi_intB, isi_blB, isi_tup, isi_strS, cmp_is, cmp_isn, cmp_isB, cmp_isnB, bin_add, bin_sub, bin_mul, bin_fdiv, bin_mod, Vg.un_neg, idx_l0, idx_l1, idx_t0, idx_t1, idx_t2, idx_l2, isLT_l, isLT_t, count_str, bmTy, if_true, if_false, Bool.false_eq_true, Bool.not_true, Bool.not_false, true_and, and_true, decide_true, decide_false, topBody]
    have e : (if ((xs[i] : Nat) : Int) + 1 > ((topN (xs.take i) : Nat) : Int) then ((xs[i] : Nat) : Int) + 1 else ((topN (xs.take i) : Nat) : Int)) = ((topN (xs.take (i + 1)) : Nat) : Int) := by
      rw [topN_take hg]
      split <;> omega
    rw [e]
    exact nx _ ⟨_, rfl⟩
  · rintro Γ ⟨o, rfl⟩
    rw [List.length_map, List.take_length]
    exact q _
theorem fwI_take {xs : List Nat} {i : Nat} (hi : i < xs.length) (j : Nat) : fwI (xs.take (i + 1)) j = if j = xs[i] then 49 else fwI (xs.take i) j := by
  unfold fwI
  rw [List.take_add_one, List.getElem?_eq_getElem hi]
  simp only [Option.toList, List.mem_append, List.mem_cons, List.not_mem_nil, or_false]
  by_cases h : j = xs[i]
  · rw [if_pos (.inr h), if_pos h]
  · rw [if_neg h]
    by_cases h2 : j ∈ xs.take i
    · rw [if_pos (.inl h2), if_pos h2]
    · rw [if_neg (by rintro (z | z); exact h2 z; exact h z), if_neg h2]
/-- the second loop: what is there gets its mark -/
theorem set_loop {d : DV} {xs : List Nat} {D : DE} {o : Option Bd} {g : Nat → DV} {e : E} {o2 : DV} (he : ∀ Γ (R : DV → Prop), R (g 49) → ev (sem P k) e Γ R) (hd : itemsOf d = some (xs.map nI)) (q : ∀ o, D.nx [some (.val d), some (.val (nI (topN xs))), o, some (.own ((fw xs).map g))]) :
    ex (sem P k) (.for_ (.one 2) (.var 0) (.seti 3 (.var 2) e)) [some (.val d), some (.val (nI (topN xs))), o, some (.own (rep [g 48] (topN xs)))] D := by
  refine ex_for ?_
  simp only [ev, args_tup, List.set, List.getElem?_cons_zero, List.getElem?_cons_succ, q_val, q_own, q_bl, q_int, q_lst, part_non, part_int, bi_lenS, bi_lenL, bi_lenT, bi_lenC, bi_intI, bi_intB, bi_max2, bi_max3, bi_min2, cmp_lt, cmp_le, cmp_gt, cmp_ge, cmp_eqI, cmp_eqT, cmp_eqB, cmp_neI, cmp_neT, cmp_neB, cmp_inT, cmp_ninT, sqD_l, sqD_t, bi_tupL, bi_tupT, bi_listL, bi_listT, isN_non, isN_int, isN_lst, isN_tup, isN_ins, isi_int, isi_intB, isi_blB, isi_tup, isi_strS, cmp_is, cmp_isn, cmp_isB, cmp_isnB, bin_add, bin_sub, bin_mul, bin_fdiv, bin_mod, Vg.un_neg, idx_l0, idx_l1, idx_t0, idx_t1, idx_t2, idx_l2, isLT_l, isLT_t, count_str, bmTy, if_true, if_false, Bool.false_eq_true, Bool.not_true, Bool.not_false, true_and, and_true, decide_true, decide_false]
  refine ⟨_, hd, ?_⟩
  have e0 : rep [g 48] (topN xs) = ((List.range (topN xs)).map (fwI (xs.take 0))).map g := by
    have : ∀ n, rep [g 48] n = List.replicate n (g 48) := fun n => by
      induction n with
      | zero => rfl
      | succ n ih => rw [rep, ih]; rfl
    rw [this]
    refine List.ext_getElem (by simp) fun j h1 h2 => ?_
    simp [fwI]
  refine for_one (fun i Γ => ∃ o, Γ = [some (.val d), some (.val (nI (topN xs))), o, some (.own (((List.range (topN xs)).map (fwI (xs.take i))).map g))]) ?_ ?_ ⟨_, by rw [e0]⟩
  · rintro i x Γ D' hx hi ⟨o, rfl⟩ e1 e2 e3 nx ct
    rw [List.length_map] at hi
    have hg := List.getElem?_eq_getElem hi
    rw [List.getElem?_map, hg] at hx
    cases hx
    have hlt : xs[i] < topN xs := topN_le.1 (Nat.le_refl _) _ (List.getElem_mem hi)
    rw [ex_seti]
    refine he _ _ ⟨_, rfl, _, rfl, ?_⟩
    refine ⟨_, _, rfl, ixN_nat (by rw [List.length_map, List.length_map, List.length_range]; exact hlt), ?_⟩
    have e9 : g 49 = g (fwI (xs.take (i + 1)) xs[i]) := by rw [fwI_take hi, if_pos rfl]
    rw [e9, set_map (f := fwI (xs.take i)) (g := fwI (xs.take (i + 1))) hlt (.inr trivial) fun j _ => ?_]
    · exact nx _ ⟨_, rfl⟩
    · rw [fwI_take hi, fwI_take hi]
      by_cases z : j = xs[i]
      · rw [if_pos z, if_pos z, if_pos rfl]
      · rw [if_neg z, if_neg z]
  · rintro Γ ⟨o, rfl⟩
    rw [List.length_map, List.take_length]
    exact q _
theorem init2 {a b : List Nat} (b0 : Bits a) (b1 : Bits b) (ne : 0 < b.length) (z0 : a.length ≤ 100000) (z1 : b.length ≤ 100000) (q : ∀ d, Made d a b → Q d) : (sem P (k + 2)).I c_PeriodicSet [.str a, .str b] Q := by
  have z := sz
  exact init b0 b1 ne (by omega) (by omega) fun p c hc => q _ ⟨p, c, rfl, hc⟩
theorem noL_made {d : DV} {l0 l1 : List Nat} (m : Made d l0 l1) : noL d = true := by
  obtain ⟨p, c, rfl, _⟩ := m
  rfl
theorem lineF {xs : List Nat} (hb : ∀ x ∈ xs, x < 2000) : Line 1 (fw xs) [48] := ⟨fw_bits xs, bits0, by decide, by decide, by rw [fw_len]; exact topN_le.2 hb⟩
theorem lineR {n : Nat} {xs : List Nat} (hn : 0 < n) : Line n [] (rs n xs) := ⟨fun x hx => by simp at hx, rs_bits n xs, by rw [rs_len]; exact hn, by rw [rs_len]; exact Nat.dvd_refl n, by decide⟩
theorem made_in {d : DV} {l0 l1 : List Nat} {n : Nat} (m : Made d l0 l1) (z0 : l0.length ≤ 100000) (z1 : l1.length ≤ 100000) (ne : 0 < l1.length) (q : Q (.bl (decide (bitAt l0 l1 n = 49)))) : cmpS (sem P (k + 2)) .In (nI n) d Q := by
  have z := sz
  obtain ⟨p, c, rfl, h⟩ := m
  have hp := h.le
  have hc := Nat.le_of_dvd ne h.dvd
  refine in_own (c := c_PeriodicSet) (f := i_PeriodicSet___contains__) rfl ?_
  refine contains (k := k) h.ne (by omega) (by omega) ⟨_, rfl, ?_⟩
  rw [h.eq]
  exact q
theorem made_nin {d : DV} {l0 l1 : List Nat} {n : Nat} (m : Made d l0 l1) (z0 : l0.length ≤ 100000) (z1 : l1.length ≤ 100000) (ne : 0 < l1.length) (q : Q (.bl (!decide (bitAt l0 l1 n = 49)))) : cmpS (sem P (k + 2)) .NotIn (nI n) d Q := by
  have z := sz
  obtain ⟨p, c, rfl, h⟩ := m
  have hp := h.le
  have hc := Nat.le_of_dvd ne h.dvd
  refine .inr (.inr (.inl ⟨c_PeriodicSet, _, i_PeriodicSet___contains__, rfl, rfl, ?_⟩))
  refine contains (k := k) h.ne (by omega) (by omega) ⟨_, rfl, ?_⟩
  rw [h.eq]
  exact q
theorem canon_one {x : Nat} (hx : x = 48 ∨ x = 49) : Canon [] [x] [] [x] :=
  ⟨fun y hy => by simp at hy, fun y hy => by simp at hy; rw [hy]; exact hx, Nat.zero_lt_one, Nat.dvd_refl _, Nat.le_refl _, fun n => rfl, fun d h0 h1 => by simp at h1; omega, fun n hn => by simp at hn⟩
theorem made_one {d : DV} {l0 l1 : List Nat} {x : Nat} (hx : x = 48 ∨ x = 49) (m : Made d l0 l1) (e : ∀ n, bitAt l0 l1 n = x) : Made d [] [x] := by
  obtain ⟨p, c, rfl, h⟩ := m
  have hb : ∀ n, bitAt [] [x] n = x := fun n => by
    unfold bitAt cyc
    rw [if_neg (by simp), show n % ([x] : List Nat).length = 0 from Nat.mod_one n]
    rfl
  obtain ⟨rfl, rfl⟩ := canon_uniq h (canon_one hx) fun n => by rw [e, hb]
  exact ⟨_, _, rfl, canon_one hx⟩
theorem made_to {d : DV} {l0 l1 m0 m1 : List Nat} (m : Made d l0 l1) (dv : l1.length ∣ m1.length) (le : l0.length ≤ m0.length) (e : ∀ n, bitAt l0 l1 n = bitAt m0 m1 n) : Made d m0 m1 := by
  obtain ⟨p, c, rfl, h⟩ := m
  exact ⟨p, c, rfl, h.trans dv le e⟩
theorem made_eq {d d' : DV} {l0 l1 m0 m1 : List Nat} (m : Made d l0 l1) (m' : Made d' m0 m1) (e : ∀ n, bitAt l0 l1 n = bitAt m0 m1 n) (q : Q (.bl true)) : cmpS (sem P (k + 1)) .Eq d d' Q := by
  obtain ⟨p, c, rfl, h⟩ := m
  obtain ⟨p', c', rfl, h'⟩ := m'
  obtain ⟨rfl, rfl⟩ := canon_uniq h h' e
  refine .inr (.inr ⟨c_PeriodicSet, _, _, i_PeriodicSet___eq__, rfl, rfl, rfl, ?_⟩)
  refine run_f rfl rfl rfl ?_
  show ex (sem P k) (.ret _) [some (.val (.ins c_PeriodicSet [.str c, .str p])), some (.val (.ins c_PeriodicSet [.str c, .str p]))] (endsN Q)
  simp only [ex_seq, ex_asg, ex_asgO, ex_ite, ex_nop, ex_ret, ex_retO, ex_retF, ex_app, ex_frz, ex_seti, ev, args_tup, List.set, List.getElem?_cons_zero, List.getElem?_cons_succ, q_val, q_own, q_bl, q_int, q_lst, part_non, part_int, bi_lenS, bi_lenL, bi_lenT, bi_lenC, bi_intI, bi_intB, bi_max2, bi_max3, bi_min2, cmp_lt, cmp_le, cmp_gt, cmp_ge, cmp_eqI, cmp_eqT, cmp_eqB, cmp_neI, cmp_neT, cmp_neB, cmp_inT, cmp_ninT, sqD_l, sqD_t, bi_tupL, bi_tupT, bi_listL, bi_listT, isN_non, isN_int, isN_lst, isN_tup, isN_ins, isi_int, isi_intB, isi_blB, isi_tup, isi_strS, cmp_is, cmp_isn, cmp_isB, cmp_isnB, bin_add, bin_sub, bin_mul, bin_fdiv, bin_mod, Vg.un_neg, idx_l0, idx_l1, idx_t0, idx_t1, idx_t2, idx_l2, isLT_l, isLT_t, count_str, bmTy, if_true, if_false, Bool.false_eq_true, Bool.not_true, Bool.not_false, true_and, and_true, decide_true, decide_false, fld0, fld1, isi_ins]
  exact q
theorem fwI_eq {s : List Nat} (hs : Bits s) {i : Nat} (hi : i < s.length) : fwI ((List.range s.length).filter fun x => decide (s.getD x 0 = 49)) i = s.getD i 0 := by
  unfold fwI
  have hb : s.getD i 0 = 48 ∨ s.getD i 0 = 49 := by
    rw [List.getD_eq_getElem?_getD, List.getElem?_eq_getElem hi]
    exact hs _ (List.getElem_mem hi)
  by_cases h : s.getD i 0 = 49
  · rw [if_pos (List.mem_filter.2 ⟨List.mem_range.2 hi, decide_eq_true h⟩), h]
  · have hn : ¬ i ∈ (List.range s.length).filter fun x => decide (s.getD x 0 = 49) := fun z => h (by simpa using (List.mem_filter.1 z).2)
    rw [if_neg hn]
    rcases hb with e | e
    · exact e.symm
    · exact absurd e h
def szW : List Nat := 4 :: 60 :: 12 :: 5 :: 60 :: List.replicate 60 2
def wheelD : Cm :=
    (.seq (.ite (.cmp .Eq (.idx (.var 1) (.k (.int 0))) (.k (.int 2)))
    (.asg 4 (.lst (.cons (.bin .Mod (.bi .int (.cons (.idx (.var 1) (.k (.int 4))) .nil)) (.var 3)) .nil)))
    .nop)
    (.seq (.ite (.cmp .Eq (.idx (.var 1) (.k (.int 0))) (.k (.int 3)))
    (.asg 4 (.lc (.one 5) (.rng1 (.var 3)) (.cmp .NotEq (.var 5) (.bin .Mod (.bi .int (.cons (.idx (.var 1) (.k (.int 4))) .nil)) (.var 3))) (.var 5)))
    .nop)
    (.ret (.lst (.cons (.var 3) (.cons (.var 4) .nil))))))
theorem wheel_d {s0 o2 : Option Bd} {o5 : Option Bd} {row xs : List Nat} {n : Nat} {D : DE} (hr : Row szW row) (hn : 0 < n) (hn2 : n ≤ 60) (hl : xs.length ≤ 60) (q : ∀ xs : List Nat, xs.length ≤ 60 → D.rt (.lst [nI n, .lst (xs.map nI)])) :
    ex (sem P (k + 2)) wheelD [s0, some (.val (.lst (row.map nI))), o2, some (.val (nI n)), some (.val (.lst (xs.map nI))), o5] D := by
  have z := sz
  have hnz : (n : Int) ≠ 0 := by omega
  have r0 := row_lt (n := 0) hr rfl
  have fin : ∀ xs : List Nat, xs.length ≤ 60 → ([DV.int (n : Int), DV.lst (xs.map nI)] : List DV).length ≤ sizeLine ∧ D.rt (.lst [nI n, .lst (xs.map nI)]) := fun xs h => ⟨by show 2 ≤ sizeLine; decide, q xs h⟩
  have h1 : ∀ {a : DV}, ([a] : List DV).length ≤ sizeLine := fun {a} => by show 1 ≤ sizeLine; decide
  simp only [ex_seq, ex_asg, ex_asgO, ex_ite, ex_nop, ex_ret, ex_retO, ex_retF, ex_app, ex_frz, ex_seti, ev, args_tup, List.set, List.getElem?_cons_zero, List.getElem?_cons_succ, q_val, q_own, q_bl, q_int, q_lst, part_non, part_int, bi_lenS, bi_lenL, bi_lenT, bi_lenC, bi_intI, bi_intB, bi_max2, bi_max3, bi_min2, cmp_lt, cmp_le, cmp_gt, cmp_ge, cmp_eqI, cmp_eqT, cmp_eqB, cmp_neI, cmp_neT, cmp_neB, cmp_inT, cmp_ninT, sqD_l, sqD_t, bi_tupL, bi_tupT, bi_listL, bi_listT, isN_non, isN_int, isN_lst, isN_tup, isN_ins, isi_int, isi_intB, isi_blB, isi_tup, isi_strS, cmp_is, cmp_isn, cmp_isB, cmp_isnB, bin_add, bin_sub, bin_mul, bin_fdiv, bin_mod, Vg.un_neg, idx_l0, idx_l1, idx_t0, idx_t1, idx_t2, idx_l2, isLT_l, isLT_t, count_str, bmTy, if_true, if_false, Bool.false_eq_true, Bool.not_true, Bool.not_false, true_and, and_true, decide_true, decide_false, wheelD, row_idx hr (n := 0) rfl, row_idx hr (n := 4) rfl, hnz, ne_eq, not_false_eq_true, fmod_nat hn, h1]
  by_cases h2 : row.getD 0 0 = 2
  · rw [if_pos (decide_eq_true (by omega)), if_neg (nd (by omega))]
    exact fin [row.getD 4 0 % n] (by simp)
  · rw [if_neg (nd (by omega))]
    by_cases h3 : row.getD 0 0 = 3
    · rw [if_pos (decide_eq_true (by omega))]
      refine ⟨by omega, by omega, _, rfl, ?_⟩
      rw [Int.toNat_natCast]
      refine lc_filtA (fun n : Nat => nI n) (fun n => nI n) (fun x => !decide ((x : Int) = ((row.getD 4 0 % n : Nat) : Int))) (fun m hm K hk => hk _ (fun K2 q2 => ?_) (fun K2 q2 => ?_)) (by rw [List.length_range]; show 0 + _ ≤ sizeLine; omega) ?_
      · simp only [ex_seq, ex_asg, ex_asgO, ex_ite, ex_nop, ex_ret, ex_retO, ex_retF, ex_app, ex_frz, ex_seti, ev, args_tup, List.set, List.getElem?_cons_zero, List.getElem?_cons_succ, q_val, q_own, q_bl, q_int, q_lst, part_non, part_int, bi_lenS, bi_lenL, bi_lenT, bi_lenC, bi_intI, bi_intB, bi_max2, bi_max3, bi_min2, cmp_lt, cmp_le, cmp_gt, cmp_ge, cmp_eqI, cmp_eqT, cmp_eqB, cmp_neI, cmp_neT, cmp_neB, cmp_inT, cmp_ninT, sqD_l, sqD_t, bi_tupL, bi_tupT, bi_listL, bi_listT, isN_non, isN_int, isN_lst, isN_tup, isN_ins, isi_int, isi_intB, isi_blB, isi_tup, isi_strS, cmp_is, cmp_isn, cmp_isB, cmp_isnB, bin_add, bin_sub, bin_mul, bin_fdiv, bin_mod, Vg.un_neg, idx_l0, idx_l1, idx_t0, idx_t1, idx_t2, idx_l2, isLT_l, isLT_t, count_str, bmTy, if_true, if_false, Bool.false_eq_true, Bool.not_true, Bool.not_false, true_and, and_true, decide_true, decide_false, wipeE, Tg.slots, row_idx hr (n := 4) rfl, hnz, ne_eq, not_false_eq_true, fmod_nat hn]
        exact q2
      · simp only [ex_seq, ex_asg, ex_asgO, ex_ite, ex_nop, ex_ret, ex_retO, ex_retF, ex_app, ex_frz, ex_seti, ev, args_tup, List.set, List.getElem?_cons_zero, List.getElem?_cons_succ, q_val, q_own, q_bl, q_int, q_lst, part_non, part_int, bi_lenS, bi_lenL, bi_lenT, bi_lenC, bi_intI, bi_intB, bi_max2, bi_max3, bi_min2, cmp_lt, cmp_le, cmp_gt, cmp_ge, cmp_eqI, cmp_eqT, cmp_eqB, cmp_neI, cmp_neT, cmp_neB, cmp_inT, cmp_ninT, sqD_l, sqD_t, bi_tupL, bi_tupT, bi_listL, bi_listT, isN_non, isN_int, isN_lst, isN_tup, isN_ins, isi_int, isi_intB, isi_blB, isi_tup, isi_strS, cmp_is, cmp_isn, cmp_isB, cmp_isnB, bin_add, bin_sub, bin_mul, bin_fdiv, bin_mod, Vg.un_neg, idx_l0, idx_l1, idx_t0, idx_t1, idx_t2, idx_l2, isLT_l, isLT_t, count_str, bmTy, if_true, if_false, Bool.false_eq_true, Bool.not_true, Bool.not_false, true_and, and_true, decide_true, decide_false, wipeE, Tg.slots]
        exact q2
      rw [List.nil_append]
      exact fin _ (Nat.le_trans (List.length_filter_le _ _) (by rw [List.length_range]; exact hn2))
    · rw [if_neg (nd (by omega))]
      exact fin _ hl
def szM : List Nat := 41 :: 2 :: 3 :: 300 :: 1000 :: 1000 :: 4 :: List.replicate 40 1000
def numE : Cm :=
    (.seq (.asg 3 (.lc (.one 5) (.rng1 (.idx (.lst (.cons (.k (.int 12)) (.cons (.k (.int 12)) (.cons (.k (.int 30)) (.cons (.bin .Add (.k (.int 1)) (.idx (.var 1) (.k (.int 3)))) .nil))))) (.idx (.var 1) (.k (.int 6))))) .tt (.bin .Mod (.bi .int (.cons (.bin .Add (.bin .Mult (.idx (.var 1) (.k (.int 4))) (.var 5)) (.idx (.var 1) (.k (.int 5)))) .nil)) (.k (.int 1000)))))
    (.ret (.lst (.cons (.var 2) (.cons (.var 3) .nil)))))
theorem num_e {s0 o4 o5 : Option Bd} {row xs : List Nat} {D : DE} (hr : Row szM row) (q : ∀ ys : List Nat, (∀ y ∈ ys, y < 1000) → ys.length ≤ 300 → D.rt (.lst [.lst (xs.map nI), .lst (ys.map nI)])) :
    ex (sem P (k + 2)) numE [s0, some (.val (.lst (row.map nI))), some (.val (.lst (xs.map nI))), none, o4, o5] D := by
  have z := sz
  have r3 := row_lt (n := 3) hr rfl
  have r6 := row_lt (n := 6) hr rfl
  have r4 := row_lt (n := 4) hr rfl
  simp only [ex_seq, ex_asg, ex_asgO, ex_ite, ex_nop, ex_ret, ex_retO, ex_retF, ex_app, ex_frz, ex_seti, ev, args_tup, List.set, List.getElem?_cons_zero, List.getElem?_cons_succ, q_val, q_own, q_bl, q_int, q_lst, part_non, part_int, bi_lenS, bi_lenL, bi_lenT, bi_lenC, bi_intI, bi_intB, bi_max2, bi_max3, bi_min2, cmp_lt, cmp_le, cmp_gt, cmp_ge, cmp_eqI, cmp_eqT, cmp_eqB, cmp_neI, cmp_neT, cmp_neB, cmp_inT, cmp_ninT, sqD_l, sqD_t, bi_tupL, bi_tupT, bi_listL, bi_listT, isN_non, isN_int, isN_lst, isN_tup, isN_ins, isi_int, isi_intB, isi_blB, isi_tup, isi_strS, cmp_is, cmp_isn, cmp_isB, cmp_isnB, bin_add, bin_sub, bin_mul, bin_fdiv, bin_mod, Vg.un_neg, idx_l0, idx_l1, idx_t0, idx_t1, idx_t2, idx_l2, isLT_l, isLT_t, count_str, bmTy, if_true, if_false, Bool.false_eq_true, Bool.not_true, Bool.not_false, true_and, and_true, decide_true, decide_false, numE, row_idx hr (n := 3) rfl, row_idx hr (n := 6) rfl]
  refine ⟨by show 4 ≤ sizeLine; decide, ?_⟩
  have key : ∀ {R : DV → Prop}, (∀ m : Nat, m ≤ 300 → R (nI m)) → idxS (.lst [.int 12, .int 12, .int 30, .int (1 + ((row.getD 3 0 : Nat) : Int))]) (nI (row.getD 6 0)) R := fun {R} h => by
    have : row.getD 6 0 = 0 ∨ row.getD 6 0 = 1 ∨ row.getD 6 0 = 2 ∨ row.getD 6 0 = 3 := by omega
    rcases this with e | e | e | e <;> rw [e]
    · exact ⟨_, rfl, h 12 (by decide)⟩
    · exact ⟨_, rfl, h 12 (by decide)⟩
    · exact ⟨_, rfl, h 30 (by decide)⟩
    · refine ⟨_, rfl, ?_⟩
      have := h (1 + row.getD 3 0) (by omega)
      rw [show nI (1 + row.getD 3 0) = DV.int (1 + ((row.getD 3 0 : Nat) : Int)) by show DV.int _ = _; congr 1] at this
      exact this
  refine key fun m hm => ?_
  simp only [ex_seq, ex_asg, ex_asgO, ex_ite, ex_nop, ex_ret, ex_retO, ex_retF, ex_app, ex_frz, ex_seti, ev, args_tup, List.set, List.getElem?_cons_zero, List.getElem?_cons_succ, q_val, q_own, q_bl, q_int, q_lst, part_non, part_int, bi_lenS, bi_lenL, bi_lenT, bi_lenC, bi_intI, bi_intB, bi_max2, bi_max3, bi_min2, cmp_lt, cmp_le, cmp_gt, cmp_ge, cmp_eqI, cmp_eqT, cmp_eqB, cmp_neI, cmp_neT, cmp_neB, cmp_inT, cmp_ninT, sqD_l, sqD_t, bi_tupL, bi_tupT, bi_listL, bi_listT, isN_non, isN_int, isN_lst, isN_tup, isN_ins, isi_int, isi_intB, isi_blB, isi_tup, isi_strS, cmp_is, cmp_isn, cmp_isB, cmp_isnB, bin_add, bin_sub, bin_mul, bin_fdiv, bin_mod, Vg.un_neg, idx_l0, idx_l1, idx_t0, idx_t1, idx_t2, idx_l2, isLT_l, isLT_t, count_str, bmTy, if_true, if_false, Bool.false_eq_true, Bool.not_true, Bool.not_false, true_and, and_true, decide_true, decide_false]
  refine ⟨by omega, by omega, _, rfl, ?_⟩
  rw [Int.toNat_natCast]
  refine lc_mapA (fun n : Nat => nI n) (fun i => nI ((row.getD 4 0 * i + row.getD 5 0) % 1000)) (fun Γ' K h => h) (fun i hx K hk => hk _ fun K2 q2 => ?_) (by rw [List.length_range]; show 0 + m ≤ sizeLine; omega) ?_
  · have e : (((row.getD 4 0 : Nat) : Int) * (i : Int) + ((row.getD 5 0 : Nat) : Int)).fmod 1000 = (((row.getD 4 0 * i + row.getD 5 0) % 1000 : Nat) : Int) := by
      rw [← Int.natCast_mul, ← Int.natCast_add]
      exact fmod_nat (b := 1000) (by decide)
    simp only [ex_seq, ex_asg, ex_asgO, ex_ite, ex_nop, ex_ret, ex_retO, ex_retF, ex_app, ex_frz, ex_seti, ev, args_tup, List.set, List.getElem?_cons_zero, List.getElem?_cons_succ, q_val, q_own, q_bl, q_int, q_lst, part_non, part_int, bi_lenS, bi_lenL, bi_lenT, bi_lenC, bi_intI, bi_intB, bi_max2, bi_max3, bi_min2, cmp_lt, cmp_le, cmp_gt, cmp_ge, cmp_eqI, cmp_eqT, cmp_eqB, cmp_neI, cmp_neT, cmp_neB, cmp_inT, cmp_ninT, sqD_l, sqD_t, bi_tupL, bi_tupT, bi_listL, bi_listT, isN_non, isN_int, isN_lst, isN_tup, isN_ins, isi_int, isi_intB, isi_blB, isi_tup, isi_strS, cmp_is, cmp_isn, cmp_isB, cmp_isnB, bin_add, bin_sub, bin_mul, bin_fdiv, bin_mod, Vg.un_neg, idx_l0, idx_l1, idx_t0, idx_t1, idx_t2, idx_l2, isLT_l, isLT_t, count_str, bmTy, if_true, if_false, Bool.false_eq_true, Bool.not_true, Bool.not_false, true_and, and_true, decide_true, decide_false, wipeE, Tg.slots, row_idx hr (n := 4) rfl, row_idx hr (n := 5) rfl]
    refine ⟨.inl ⟨by omega, by omega⟩, by decide, ?_⟩
    rw [e]
    exact q2
  rw [List.nil_append, show ((List.range m).map fun i => nI ((row.getD 4 0 * i + row.getD 5 0) % 1000)) = ((List.range m).map fun i => (row.getD 4 0 * i + row.getD 5 0) % 1000).map nI by rw [List.map_map]; rfl]
  refine ⟨by show 2 ≤ sizeLine; decide, q _ (fun y hy => ?_) (by simp; omega)⟩
  obtain ⟨i, _, rfl⟩ := List.mem_map.1 hy
  exact Nat.mod_lt _ (by decide)
def szT : List Nat := [1000, 30, 10 ^ 12]

theorem from_at (a n : Nat) : bitAt (rep [48] a) [49] n = if n < a then 48 else 49 := by
  unfold bitAt
  rw [len_rep]
  split
  · rename_i h
    rw [rep48, List.getD_eq_getElem?_getD, List.getElem?_replicate, if_pos h]
    rfl
  · unfold cyc
    rw [show n % ([49] : List Nat).length = 0 from Nat.mod_one n]
    rfl
theorem rk_two {f : Nat → Bool} {a : Nat} (ha : 3 < a) (h : ∀ i, f i = true ↔ i = 3 ∨ i = a) : rk f 3 = 0 ∧ rk f a = 1 ∧ (∀ n, a < n → rk f n = 2) := by
  have f0 : ∀ i, ¬ i = 3 → ¬ i = a → f i = false := fun i h1 h2 => by
    rcases Bool.eq_false_or_eq_true (f i) with e | e
    · rcases (h i).1 e with z | z
      · exact absurd z h1
      · exact absurd z h2
    · exact e
  have h3 : rk f 3 = 0 := by
    rw [rk_none (a := 0) (fun n _ h2 => f0 n (by omega) (by omega)) (by omega)]
    rfl
  have h4 : rk f 4 = 1 := by
    rw [rk, h3, if_pos ((h 3).2 (.inl rfl))]
  have ha1 : rk f a = 1 := by
    rw [rk_none (a := 4) (fun n h1 h2 => f0 n (by omega) (by omega)) (by omega), h4]
  refine ⟨h3, ha1, fun n hn => ?_⟩
  rw [rk_none (a := a + 1) (fun n h1 h2 => f0 n (by omega) (by omega)) (by omega), rk, ha1, if_pos ((h a).2 (.inr rfl))]
theorem rk_all {f : Nat → Bool} (h : ∀ i, f i = true) : ∀ n, rk f n = n
  | 0 => rfl
  | n + 1 => by rw [rk, rk_all h n, if_pos (h n)]
/-- the set of the numbers of f: its cycle's length divides L, its prefix is no longer than z, its form the least -/
structure PSet (p c : List Nat) (f : Nat → Bool) (L z : Nat) : Prop where
  cn : Canon p c p c
  dv : c.length ∣ L
  le : p.length ≤ z
  fn : ∀ n, has p c n = f n
def PS (d : DV) (f : Nat → Bool) (L z : Nat) : Prop := ∃ p c, d = .ins c_PeriodicSet [.str c, .str p] ∧ PSet p c f L z
theorem PSet.of {p c l0 l1 : List Nat} (h : Canon p c l0 l1) : PSet p c (has l0 l1) l1.length l0.length :=
  ⟨⟨h.bp, h.bc, h.ne, Nat.dvd_refl _, Nat.le_refl _, fun _ => rfl, h.prim, h.red⟩, h.dvd, h.le, fun n => by
    unfold has
    rw [h.eq n]⟩
theorem PS.of {d : DV} {l0 l1 : List Nat} (h : Made d l0 l1) : PS d (has l0 l1) l1.length l0.length := by
  obtain ⟨p, c, rfl, h⟩ := h
  exact ⟨p, c, rfl, PSet.of h⟩
theorem PS.to {d : DV} {f g : Nat → Bool} {L z L' z' : Nat} (h : PS d f L z) (hL : L ∣ L') (hz : z ≤ z') (e : ∀ n, f n = g n) : PS d g L' z' := by
  obtain ⟨p, c, rfl, h⟩ := h
  exact ⟨p, c, rfl, h.cn, Nat.dvd_trans h.dv hL, Nat.le_trans h.le hz, fun n => (h.fn n).trans (e n)⟩
theorem PS.noL {d : DV} {f : Nat → Bool} {L z : Nat} (h : PS d f L z) : noL d = true := by
  obtain ⟨p, c, rfl, h⟩ := h
  rfl
theorem has_bit49 {p c p' c' : List Nat} (h : Canon p c p c) (h' : Canon p' c' p' c') (e : ∀ n, has p c n = has p' c' n) (n : Nat) : bitAt p c n = bitAt p' c' n := by
  have e := e n
  unfold has at e
  rcases bitAt_bits h.bp h.bc h.ne n with a | a <;> rcases bitAt_bits h'.bp h'.bc h'.ne n with b | b <;> rw [a, b] at e ⊢ <;> first | rfl | (exact absurd e (by decide))
theorem PS.uniq {d d' : DV} {f g : Nat → Bool} {L z L' z' : Nat} (h : PS d f L z) (h' : PS d' g L' z') (e : ∀ n, f n = g n) : d = d' := by
  obtain ⟨p, c, rfl, h⟩ := h
  obtain ⟨p', c', rfl, h'⟩ := h'
  obtain ⟨rfl, rfl⟩ := canon_uniq h.cn h'.cn (has_bit49 h.cn h'.cn fun n => by rw [h.fn, h'.fn, e])
  rfl
theorem PS_new {l0 l1 : List Nat} (b0 : Bits l0) (b1 : Bits l1) (ne : 0 < l1.length) (z0 : l0.length ≤ 100000) (z1 : l1.length ≤ 100000) (q : ∀ d, PS d (has l0 l1) l1.length l0.length → Q d) : (sem P (k + 2)).I c_PeriodicSet [.str l0, .str l1] Q :=
  init2 b0 b1 ne z0 z1 fun d m => q d (PS.of m)
theorem PS_in {d : DV} {f : Nat → Bool} {L z n : Nat} (h : PS d f L z) (hL : 0 < L) (hL2 : L ≤ 100000) (hz : z ≤ 100000) (q : Q (.bl (f n))) : cmpS (sem P (k + 2)) .In (nI n) d Q := by
  have zz := sz
  obtain ⟨p, c, rfl, h⟩ := h
  have := h.le
  have := Nat.le_of_dvd hL h.dv
  refine in_own (c := c_PeriodicSet) (f := i_PeriodicSet___contains__) rfl (contains (k := k) h.cn.ne (by omega) (by omega) ⟨_, rfl, ?_⟩)
  have e := h.fn n
  unfold has at e
  rw [e]
  exact q
theorem PS_nin {d : DV} {f : Nat → Bool} {L z n : Nat} (h : PS d f L z) (hL : 0 < L) (hL2 : L ≤ 100000) (hz : z ≤ 100000) (q : Q (.bl (!f n))) : cmpS (sem P (k + 2)) .NotIn (nI n) d Q := by
  have zz := sz
  obtain ⟨p, c, rfl, h⟩ := h
  have := h.le
  have := Nat.le_of_dvd hL h.dv
  refine .inr (.inr (.inl ⟨c_PeriodicSet, _, i_PeriodicSet___contains__, rfl, rfl, contains (k := k) h.cn.ne (by omega) (by omega) ⟨_, rfl, ?_⟩⟩))
  have e := h.fn n
  unfold has at e
  rw [e]
  exact q
/-- the body of |, &, -, ^ -/
def opBody (tab : List Nat) : Cm :=
    (.seq (.asg 2 (.call i_combined (.cons (.tup (.cons (.fld (.var 0) f_prefix) (.cons (.fld (.var 0) f_cycle) .nil))) (.cons (.tup (.cons (.fld (.var 1) f_prefix) (.cons (.fld (.var 1) f_cycle) .nil))) (.cons (.k (.str tab)) .nil)))))
    (.ret (.mk c_PeriodicSet (.cons (.idx (.var 2) (.k (.int 0))) (.cons (.idx (.var 2) (.k (.int 1))) .nil)))))
theorem op_body {tab : List Nat} (op : Bool → Bool → Bool) (ht : tab.length = 4) (tb : ∀ x y, (x = 48 ∨ x = 49) → (y = 48 ∨ y = 49) → (tabF tab x y = 48 ∨ tabF tab x y = 49) ∧ decide (tabF tab x y = 49) = op (decide (x = 49)) (decide (y = 49)))
    {p c p' c' : List Nat} {f g : Nat → Bool} {L z z' : Nat} (h : PSet p c f L z) (h' : PSet p' c' g L z') (hL : 0 < L) (hL2 : L ≤ 100000) (hz : z ≤ 100000) (hz' : z' ≤ 100000) (q : ∀ d, PS d (fun n => op (f n) (g n)) L (max z z') → Q d) :
    ex (sem P (k + 2)) (opBody tab) [some (.val (.ins c_PeriodicSet [.str c, .str p])), some (.val (.ins c_PeriodicSet [.str c', .str p'])), none] (endsN Q) := by
  have zz := sz
  have a1 := h.le
  have a2 := Nat.le_of_dvd hL h.dv
  have a3 := h'.le
  have a4 := Nat.le_of_dvd hL h'.dv
  have hlcm : Nat.lcm c.length c'.length ∣ L := Nat.lcm_dvd h.dv h'.dv
  have hle := Nat.le_of_dvd hL hlcm
  have hpos : 0 < Nat.lcm c.length c'.length := Nat.lcm_pos h.cn.ne h'.cn.ne
  simp only [ex_seq, ex_asg, ex_asgO, ex_ite, ex_nop, ex_ret, ex_retO, ex_retF, ex_app, ex_frz, ex_seti, ev, args_tup, List.set, List.getElem?_cons_zero, List.getElem?_cons_succ, q_val, q_own, q_bl, q_int, q_lst, part_non, part_int, bi_lenS, bi_lenL, bi_lenT, bi_lenC, bi_intI, bi_intB, bi_max2, bi_max3, bi_min2, cmp_lt, cmp_le, cmp_gt, cmp_ge, cmp_eqI, cmp_eqT, cmp_eqB, cmp_neI, cmp_neT, cmp_neB, cmp_inT, cmp_ninT, sqD_l, sqD_t, bi_tupL, bi_tupT, bi_listL, bi_listT, isN_non, isN_int, isN_lst, isN_tup, isN_ins, isi_int, isi_intB, isi_blB, isi_tup, isi_strS, cmp_is, cmp_isn, cmp_isB, cmp_isnB, bin_add, bin_sub, bin_mul, bin_fdiv, bin_mod, Vg.un_neg, idx_l0, idx_l1, idx_t0, idx_t1, idx_t2, idx_l2, isLT_l, isLT_t, count_str, bmTy, if_true, if_false, Bool.false_eq_true, Bool.not_true, Bool.not_false, true_and, and_true, decide_true, decide_false, opBody, fld0, fld1, two_str]
  refine combined (k := k) h.cn.bp h.cn.bc h'.cn.bp h'.cn.bc h.cn.ne h'.cn.ne ht (by omega) (by omega) (by omega) (by omega) (by omega) ?_
  simp only [ex_seq, ex_asg, ex_asgO, ex_ite, ex_nop, ex_ret, ex_retO, ex_retF, ex_app, ex_frz, ex_seti, ev, args_tup, List.set, List.getElem?_cons_zero, List.getElem?_cons_succ, q_val, q_own, q_bl, q_int, q_lst, part_non, part_int, bi_lenS, bi_lenL, bi_lenT, bi_lenC, bi_intI, bi_intB, bi_max2, bi_max3, bi_min2, cmp_lt, cmp_le, cmp_gt, cmp_ge, cmp_eqI, cmp_eqT, cmp_eqB, cmp_neI, cmp_neT, cmp_neB, cmp_inT, cmp_ninT, sqD_l, sqD_t, bi_tupL, bi_tupT, bi_listL, bi_listT, isN_non, isN_int, isN_lst, isN_tup, isN_ins, isi_int, isi_intB, isi_blB, isi_tup, isi_strS, cmp_is, cmp_isn, cmp_isB, cmp_isnB, bin_add, bin_sub, bin_mul, bin_fdiv, bin_mod, Vg.un_neg, idx_l0, idx_l1, idx_t0, idx_t1, idx_t2, idx_l2, isLT_l, isLT_t, count_str, bmTy, if_true, if_false, Bool.false_eq_true, Bool.not_true, Bool.not_false, true_and, and_true, decide_true, decide_false]
  refine PS_new (k := k) (bits_map fun n _ => (tb _ _ (bitAt_bits h.cn.bp h.cn.bc h.cn.ne n) (bitAt_bits h'.cn.bp h'.cn.bc h'.cn.ne n)).1) (bits_map fun n _ => (tb _ _ (cyc_bits h.cn.bc h.cn.ne n) (cyc_bits h'.cn.bc h'.cn.ne n)).1) (by simpa using hpos) (by simp; omega) (by simp; omega) fun d hd => ?_
  refine q d (hd.to (by simpa using hlcm) (by simp; omega) fun n => ?_)
  unfold has
  rw [bit_mk (h := fun n => tabF tab (bitAt p c n) (bitAt p' c' n)) (fun n _ => rfl) (fun n hn => ?_) hpos n]
  · rw [(tb _ _ (bitAt_bits h.cn.bp h.cn.bc h.cn.ne n) (bitAt_bits h'.cn.bp h'.cn.bc h'.cn.ne n)).2]
    have e1 := h.fn n
    have e2 := h'.fn n
    unfold has at e1 e2
    rw [e1, e2]
  · rw [cyc_mod (Nat.dvd_lcm_left _ _), cyc_mod (Nat.dvd_lcm_right _ _), bitAt_ge (by omega), bitAt_ge (by omega)]
theorem PS_sub {da db : DV} {f g : Nat → Bool} {L z z' : Nat} (h : PS da f L z) (h' : PS db g L z') (hL : 0 < L) (hL2 : L ≤ 100000) (hz : z ≤ 100000) (hz' : z' ≤ 100000) (q : ∀ d, PS d (fun n => f n && !g n) L (max z z') → Q d) : binS (sem P (k + 3)) .Sub da db Q := by
  obtain ⟨p, c, rfl, h⟩ := h
  obtain ⟨p', c', rfl, h'⟩ := h'
  refine bin_own (m := m___sub__) (f := i_PeriodicSet___sub__) rfl rfl (run_f rfl rfl rfl ?_)
  exact op_body (tab := [48, 48, 49, 48]) (fun a b => a && !b) rfl (fun x y hx hy => by rcases hx with rfl | rfl <;> rcases hy with rfl | rfl <;> decide) h h' hL hL2 hz hz' q
theorem PS_eq {d d' : DV} {f g : Nat → Bool} {L z L' z' : Nat} (h : PS d f L z) (h' : PS d' g L' z') (q : ∀ b : Bool, (b = true ↔ ∀ n, f n = g n) → Q (.bl b)) : cmpS (sem P (k + 1)) .Eq d d' Q := by
  obtain ⟨p, c, rfl, h⟩ := h
  obtain ⟨p', c', rfl, h'⟩ := h'
  refine .inr (.inr ⟨c_PeriodicSet, _, _, i_PeriodicSet___eq__, rfl, rfl, rfl, ?_⟩)
  refine run_f rfl rfl rfl ?_
  show ex (sem P k) (.ret _) [some (.val (.ins c_PeriodicSet [.str c, .str p])), some (.val (.ins c_PeriodicSet [.str c', .str p']))] (endsN Q)
  simp only [ex_seq, ex_asg, ex_asgO, ex_ite, ex_nop, ex_ret, ex_retO, ex_retF, ex_app, ex_frz, ex_seti, ev, args_tup, List.set, List.getElem?_cons_zero, List.getElem?_cons_succ, q_val, q_own, q_bl, q_int, q_lst, part_non, part_int, bi_lenS, bi_lenL, bi_lenT, bi_lenC, bi_intI, bi_intB, bi_max2, bi_max3, bi_min2, cmp_lt, cmp_le, cmp_gt, cmp_ge, cmp_eqI, cmp_eqT, cmp_eqB, cmp_neI, cmp_neT, cmp_neB, cmp_inT, cmp_ninT, sqD_l, sqD_t, bi_tupL, bi_tupT, bi_listL, bi_listT, isN_non, isN_int, isN_lst, isN_tup, isN_ins, isi_int, isi_intB, isi_blB, isi_tup, isi_strS, cmp_is, cmp_isn, cmp_isB, cmp_isnB, bin_add, bin_sub, bin_mul, bin_fdiv, bin_mod, Vg.un_neg, idx_l0, idx_l1, idx_t0, idx_t1, idx_t2, idx_l2, isLT_l, isLT_t, count_str, bmTy, if_true, if_false, Bool.false_eq_true, Bool.not_true, Bool.not_false, true_and, and_true, decide_true, decide_false, fld0, fld1, isi_ins]
  by_cases e : p = p'
  · simp only [ex_seq, ex_asg, ex_asgO, ex_ite, ex_nop, ex_ret, ex_retO, ex_retF, ex_app, ex_frz, ex_seti, ev, args_tup, List.set, List.getElem?_cons_zero, List.getElem?_cons_succ, q_val, q_own, q_bl, q_int, q_lst, part_non, part_int, bi_lenS, bi_lenL, bi_lenT, bi_lenC, bi_intI, bi_intB, bi_max2, bi_max3, bi_min2, cmp_lt, cmp_le, cmp_gt, cmp_ge, cmp_eqI, cmp_eqT, cmp_eqB, cmp_neI, cmp_neT, cmp_neB, cmp_inT, cmp_ninT, sqD_l, sqD_t, bi_tupL, bi_tupT, bi_listL, bi_listT, isN_non, isN_int, isN_lst, isN_tup, isN_ins, isi_int, isi_intB, isi_blB, isi_tup, isi_strS, cmp_is, cmp_isn, cmp_isB, cmp_isnB, bin_add, bin_sub, bin_mul, bin_fdiv, bin_mod, Vg.un_neg, idx_l0, idx_l1, idx_t0, idx_t1, idx_t2, idx_l2, isLT_l, isLT_t, count_str, bmTy, if_true, if_false, Bool.false_eq_true, Bool.not_true, Bool.not_false, true_and, and_true, decide_true, decide_false, e]
    by_cases e2 : c = c'
    · refine q _ ⟨fun _ n => ?_, fun _ => decide_eq_true e2⟩
      rw [← h.fn, ← h'.fn, e, e2]
    · refine q _ ⟨fun z => absurd (of_decide_eq_true z) e2, fun z => ?_⟩
      exact absurd (canon_uniq h.cn h'.cn (has_bit49 h.cn h'.cn fun n => by rw [h.fn, h'.fn, z])).2 e2
  · simp only [ex_seq, ex_asg, ex_asgO, ex_ite, ex_nop, ex_ret, ex_retO, ex_retF, ex_app, ex_frz, ex_seti, ev, args_tup, List.set, List.getElem?_cons_zero, List.getElem?_cons_succ, q_val, q_own, q_bl, q_int, q_lst, part_non, part_int, bi_lenS, bi_lenL, bi_lenT, bi_lenC, bi_intI, bi_intB, bi_max2, bi_max3, bi_min2, cmp_lt, cmp_le, cmp_gt, cmp_ge, cmp_eqI, cmp_eqT, cmp_eqB, cmp_neI, cmp_neT, cmp_neB, cmp_inT, cmp_ninT, sqD_l, sqD_t, bi_tupL, bi_tupT, bi_listL, bi_listT, isN_non, isN_int, isN_lst, isN_tup, isN_ins, isi_int, isi_intB, isi_blB, isi_tup, isi_strS, cmp_is, cmp_isn, cmp_isB, cmp_isnB, bin_add, bin_sub, bin_mul, bin_fdiv, bin_mod, Vg.un_neg, idx_l0, idx_l1, idx_t0, idx_t1, idx_t2, idx_l2, isLT_l, isLT_t, count_str, bmTy, if_true, if_false, Bool.false_eq_true, Bool.not_true, Bool.not_false, true_and, and_true, decide_true, decide_false, e]
    refine q _ ⟨fun z => (by cases z), fun z => ?_⟩
    exact absurd (canon_uniq h.cn h'.cn (has_bit49 h.cn h'.cn fun n => by rw [h.fn, h'.fn, z])).1 e

end Gk07


set_option Elab.async false
set_option linter.all false
set_option maxRecDepth 100000
set_option maxHeartbeats 8000000
namespace Gk07
open PySem L2 Vg Gk
variable {k : Nat} {Q : DV → Prop}
/-- a row of a band: the bits before the number, the bit at it, the bits behind it -/
abbrev Rw := List Nat × Nat × List Nat
structure RowOk (per : Nat) (r : Rw) : Prop where
  a : Bits r.1
  al : r.1.length = per
  m : r.2.1 = 48 ∨ r.2.1 = 49
  b : Bits r.2.2
  bl : r.2.2.length = per
  one : 49 ∈ r.2.2
def rowT (r : Rw) : DV := .tup [.str r.1, .str [r.2.1], .str r.2.2]
def rowL (r : Rw) : DV := .lst [.str r.1, .str [r.2.1], .str r.2.2]
def bandD (rs : List Rw) : DV := .ins c_Band [nI rs.length, .tup (rs.map rowT)]
structure BandOk (rs : List Rw) : Prop where
  lo : 0 < rs.length
  hi : rs.length ≤ 4
  row : ∀ r ∈ rs, RowOk rs.length r
/-- the language of a row at a number -/
def lg (per : Nat) (r : Rw) (n x : Nat) : Bool := if x < n then decide (r.1.getD (x % per) 0 = 49) else if x = n then decide (r.2.1 = 49) else decide (r.2.2.getD (x % per) 0 = 49)
def ln0 (per : Nat) (r : Rw) (n : Nat) : List Nat := ((List.range n).map fun x => r.1.getD (x % per) 0) ++ [r.2.1]
theorem ln0_len {per : Nat} {r : Rw} {n : Nat} : (ln0 per r n).length = n + 1 := by simp [ln0]
theorem ln_has {per : Nat} {r : Rw} (h : r.2.2.length = per) (n x : Nat) : has (ln0 per r n) r.2.2 x = lg per r n x := by
  unfold lg
  by_cases h1 : x < n
  · rw [if_pos h1, has_lt (by rw [ln0_len]; omega)]
    unfold ln0
    rw [List.getD_eq_getElem?_getD, List.getElem?_append_left (by simpa using h1), List.getElem?_map, List.getElem?_range h1]
    rfl
  · rw [if_neg h1]
    by_cases h2 : x = n
    · subst h2
      rw [if_pos rfl, has_lt (by rw [ln0_len]; omega)]
      unfold ln0
      rw [List.getD_eq_getElem?_getD, List.getElem?_append_right (by simp)]
      simp
    · rw [if_neg h2, has_ge (by rw [ln0_len]; omega)]
      unfold cyc
      rw [h]
theorem ln0_bits {per : Nat} {r : Rw} (ha : Bits r.1) (al : r.1.length = per) (hm : r.2.1 = 48 ∨ r.2.1 = 49) (hp : 0 < per) (n : Nat) : Bits (ln0 per r n) := by
  refine bits_app (fun y hy => ?_) fun y hy => ?_
  · obtain ⟨x, _, rfl⟩ := List.mem_map.1 hy
    have := Nat.mod_lt x hp
    rw [List.getD_eq_getElem?_getD, List.getElem?_eq_getElem (by rw [al]; exact this)]
    exact ha _ (List.getElem_mem _)
  · rw [List.mem_singleton.1 hy]
    exact hm
theorem fldB0 {a b : DV} {R : DV → Prop} : (∃ c vs j d, DV.ins c_Band [a, b] = DV.ins c vs ∧ (sem P k).fx c f_period = some j ∧ vs[j]? = some d ∧ R d) = R a := by
  refine propext ⟨fun ⟨c, vs, j, d, e, e1, e2, hr⟩ => ?_, fun hr => ⟨c_Band, [a, b], 0, a, rfl, by rw [fm_fx]; rfl, rfl, hr⟩⟩
  cases e
  rw [fm_fx] at e1
  cases e1
  cases e2
  exact hr
theorem fldB1 {a b : DV} {R : DV → Prop} : (∃ c vs j d, DV.ins c_Band [a, b] = DV.ins c vs ∧ (sem P k).fx c f_rows = some j ∧ vs[j]? = some d ∧ R d) = R b := by
  refine propext ⟨fun ⟨c, vs, j, d, e, e1, e2, hr⟩ => ?_, fun hr => ⟨c_Band, [a, b], 1, b, rfl, by rw [fm_fx]; rfl, rfl, hr⟩⟩
  cases e
  rw [fm_fx] at e1
  cases e1
  cases e2
  exact hr
theorem unfolded0 {c : List Nat} {n : Nat} (hc : 0 < c.length) (hz : n + c.length ≤ sizeLine) (q : Q (.str ((List.range n).map fun x => c.getD (x % c.length) 0))) : (sem P (k + 1)).F i_unfolded [.str [], .str c, nI n] Q := by
  refine unfolded (k := k) hc (by decide) hz ?_
  have e : bitAt [] c = fun x => c.getD (x % c.length) 0 := by
    funext x
    unfold bitAt cyc
    rw [if_neg (by simp)]
  rw [e]
  exact q
/-- the row of a residue -/
theorem row_at {rs : List Rw} (h : BandOk rs) {n : Nat} (hn : n < rs.length) {f : Rw → DV} {Q : DV → Prop} (q : ∀ r, r ∈ rs → rs[n]? = some r → RowOk rs.length r → Q (f r)) : ∃ c, (rs.map f)[n]? = some c ∧ Q c := by
  have hg := List.getElem?_eq_getElem hn
  rw [List.getElem?_map, hg]
  exact ⟨_, rfl, q _ (List.getElem_mem hn) hg (h.row _ (List.getElem_mem hn))⟩
theorem language {rs : List Rw} (h : BandOk rs) {n : Nat} (hn : n ≤ 50000) (q : ∀ d r, rs[n % rs.length]? = some r → RowOk rs.length r → PS d (lg rs.length r n) rs.length (n + 1) → Q d) : (sem P (k + 3)).F i_Band_language [bandD rs, nI n] Q := by
  have z := sz
  have lo := h.lo
  have hi := h.hi
  have hnz : (rs.length : Int) ≠ 0 := by omega
  refine run_f rfl rfl rfl ?_
  show ex (sem P (k + 2)) (.seq _ _) [some (.val (bandD rs)), some (.val (nI n)), none] (endsN Q)
  simp only [ex_seq, ex_asg, ex_asgO, ex_ite, ex_nop, ex_ret, ex_retO, ex_retF, ex_app, ex_frz, ex_seti, ev, args_tup, List.set, List.getElem?_cons_zero, List.getElem?_cons_succ, q_val, q_own, q_bl, q_int, q_lst, part_non, part_int, bi_lenS, bi_lenL, bi_lenT, bi_lenC, bi_intI, bi_intB, bi_max2, bi_max3, bi_min2, cmp_lt, cmp_le, cmp_gt, cmp_ge, cmp_eqI, cmp_eqT, cmp_eqB, cmp_neI, cmp_neT, cmp_neB, cmp_inT, cmp_ninT, sqD_l, sqD_t, bi_tupL, bi_tupT, bi_listL, bi_listT, isN_non, isN_int, isN_lst, isN_tup, isN_ins, isi_int, isi_intB, isi_blB, isi_tup, isi_strS, cmp_is, cmp_isn, cmp_isB, cmp_isnB, bin_add, bin_sub, bin_mul, bin_fdiv, bin_mod, Vg.un_neg, idx_l0, idx_l1, idx_t0, idx_t1, idx_t2, idx_l2, isLT_l, isLT_t, count_str, bmTy, if_true, if_false, Bool.false_eq_true, Bool.not_true, Bool.not_false, true_and, and_true, decide_true, decide_false, bandD, fldB0, fldB1, hnz, ne_eq, not_false_eq_true, fmod_nat lo, idx_tupN]
  refine row_at h (Nat.mod_lt n lo) fun r _ hr ok => ?_
  simp only [ex_seq, ex_asg, ex_asgO, ex_ite, ex_nop, ex_ret, ex_retO, ex_retF, ex_app, ex_frz, ex_seti, ev, args_tup, List.set, List.getElem?_cons_zero, List.getElem?_cons_succ, q_val, q_own, q_bl, q_int, q_lst, part_non, part_int, bi_lenS, bi_lenL, bi_lenT, bi_lenC, bi_intI, bi_intB, bi_max2, bi_max3, bi_min2, cmp_lt, cmp_le, cmp_gt, cmp_ge, cmp_eqI, cmp_eqT, cmp_eqB, cmp_neI, cmp_neT, cmp_neB, cmp_inT, cmp_ninT, sqD_l, sqD_t, bi_tupL, bi_tupT, bi_listL, bi_listT, isN_non, isN_int, isN_lst, isN_tup, isN_ins, isi_int, isi_intB, isi_blB, isi_tup, isi_strS, cmp_is, cmp_isn, cmp_isB, cmp_isnB, bin_add, bin_sub, bin_mul, bin_fdiv, bin_mod, Vg.un_neg, idx_l0, idx_l1, idx_t0, idx_t1, idx_t2, idx_l2, isLT_l, isLT_t, count_str, bmTy, if_true, if_false, Bool.false_eq_true, Bool.not_true, Bool.not_false, true_and, and_true, decide_true, decide_false, rowT]
  refine unfolded0 (k := k + 1) (by rw [ok.al]; exact lo) (by rw [ok.al]; omega) ?_
  simp only [ex_seq, ex_asg, ex_asgO, ex_ite, ex_nop, ex_ret, ex_retO, ex_retF, ex_app, ex_frz, ex_seti, ev, args_tup, List.set, List.getElem?_cons_zero, List.getElem?_cons_succ, q_val, q_own, q_bl, q_int, q_lst, part_non, part_int, bi_lenS, bi_lenL, bi_lenT, bi_lenC, bi_intI, bi_intB, bi_max2, bi_max3, bi_min2, cmp_lt, cmp_le, cmp_gt, cmp_ge, cmp_eqI, cmp_eqT, cmp_eqB, cmp_neI, cmp_neT, cmp_neB, cmp_inT, cmp_ninT, sqD_l, sqD_t, bi_tupL, bi_tupT, bi_listL, bi_listT, isN_non, isN_int, isN_lst, isN_tup, isN_ins, isi_int, isi_intB, isi_blB, isi_tup, isi_strS, cmp_is, cmp_isn, cmp_isB, cmp_isnB, bin_add, bin_sub, bin_mul, bin_fdiv, bin_mod, Vg.un_neg, idx_l0, idx_l1, idx_t0, idx_t1, idx_t2, idx_l2, isLT_l, isLT_t, count_str, bmTy, if_true, if_false, Bool.false_eq_true, Bool.not_true, Bool.not_false, true_and, and_true, decide_true, decide_false, bin_cat, List.length_map, List.length_range, List.length_cons, List.length_nil]
  refine ⟨by omega, ?_⟩
  rw [ok.al, show ((List.range n).map fun x => r.1.getD (x % rs.length) 0) ++ [r.2.1] = ln0 rs.length r n from rfl]
  refine PS_new (k := k) (ln0_bits ok.a ok.al ok.m lo n) ok.b (by rw [ok.bl]; exact lo) (by rw [ln0_len]; omega) (by rw [ok.bl]; omega) fun d hd => ?_
  refine q d r hr ok (hd.to (by rw [ok.bl]; exact Nat.dvd_refl _) (by rw [ln0_len]; exact Nat.le_refl _) (ln_has ok.bl n))
/-- the least lane number from start on -/
def fN (per r s : Nat) : Nat := s + ((r : Int) - (s : Int)).toNat
theorem first_number {rs : List Rw} (h : BandOk rs) {r s : Nat} (q : ∀ N, s ≤ N → N < s + rs.length → N % rs.length = r % rs.length → Q (nI N)) : (sem P (k + 1)).F i_Band_first_number [bandD rs, nI r, nI s] Q := by
  have lo := h.lo
  have hnz : (rs.length : Int) ≠ 0 := by omega
  refine run_f rfl rfl rfl ?_
  show ex (sem P k) (.ret _) [some (.val (bandD rs)), some (.val (nI r)), some (.val (nI s))] (endsN Q)
  obtain ⟨t, ht, htl⟩ := fmod_ex ((r : Int) - (s : Int)) lo
  simp only [ex_seq, ex_asg, ex_asgO, ex_ite, ex_nop, ex_ret, ex_retO, ex_retF, ex_app, ex_frz, ex_seti, ev, args_tup, List.set, List.getElem?_cons_zero, List.getElem?_cons_succ, q_val, q_own, q_bl, q_int, q_lst, part_non, part_int, bi_lenS, bi_lenL, bi_lenT, bi_lenC, bi_intI, bi_intB, bi_max2, bi_max3, bi_min2, cmp_lt, cmp_le, cmp_gt, cmp_ge, cmp_eqI, cmp_eqT, cmp_eqB, cmp_neI, cmp_neT, cmp_neB, cmp_inT, cmp_ninT, sqD_l, sqD_t, bi_tupL, bi_tupT, bi_listL, bi_listT, isN_non, isN_int, isN_lst, isN_tup, isN_ins, isi_int, isi_intB, isi_blB, isi_tup, isi_strS, cmp_is, cmp_isn, cmp_isB, cmp_isnB, bin_add, bin_sub, bin_mul, bin_fdiv, bin_mod, Vg.un_neg, idx_l0, idx_l1, idx_t0, idx_t1, idx_t2, idx_l2, isLT_l, isLT_t, count_str, bmTy, if_true, if_false, Bool.false_eq_true, Bool.not_true, Bool.not_false, true_and, and_true, decide_true, decide_false, bandD, fldB0, hnz, ne_eq, not_false_eq_true, ht]
  have e : ((s : Int) + (t : Int)) = ((s + t : Nat) : Int) := by omega
  rw [e]
  refine q (s + t) (by omega) (by omega) ?_
  have h1 := Int.fmod_add_mul_fdiv ((r : Int) - (s : Int)) (rs.length : Int)
  rw [ht] at h1
  have h2 : ((s + t : Nat) : Int) % (rs.length : Int) = (r : Int) % (rs.length : Int) := by
    have : ((s + t : Nat) : Int) = (r : Int) + (rs.length : Int) * (-(((r : Int) - (s : Int)).fdiv (rs.length : Int))) := by
      rw [Int.mul_neg]
      omega
    rw [this, Int.add_mul_emod_self_left]
  omega
def t01 (b : Bool) : Nat := if b = true then 49 else 48
theorem t01_bits (b : Bool) : t01 b = 48 ∨ t01 b = 49 := by cases b <;> decide
theorem t01_49 (b : Bool) : decide (t01 b = 49) = b := by cases b <;> decide
theorem ix0 {Q : DV → Prop} : idxS (.str [48, 49]) (.int 0) Q = Q (.str [48]) := by
  have := idx_strN (Q := Q) (s := [48, 49]) (i := 0)
  rw [show (((0 : Nat) : Int)) = 0 from rfl] at this
  rw [this]
  simp [sizeLine, list1]
theorem ix1 {Q : DV → Prop} : idxS (.str [48, 49]) (.int 1) Q = Q (.str [49]) := by
  have := idx_strN (Q := Q) (s := [48, 49]) (i := 1)
  rw [show (((1 : Nat) : Int)) = 1 from rfl] at this
  rw [this]
  simp [sizeLine, list1]
theorem ixB {b : Bool} {Q : DV → Prop} : idxS (.str [48, 49]) (.int (if b = true then 1 else 0)) Q = Q (.str [t01 b]) := by
  cases b
  · exact ix0
  · exact ix1
theorem idxB {b : Bool} {Q : DV → Prop} (q : Q (.str [t01 b])) : idxS (.str [48, 49]) (.int (if b = true then 1 else 0)) Q := by
  cases b
  · exact ⟨by decide, _, rfl, q⟩
  · exact ⟨by decide, _, rfl, q⟩
def tb (res : Nat) (r : Rw) (p : Nat) : Bool := (decide (r.1.getD p 0 = 49) && decide (r.2.2.getD p 0 = 49)) && !(decide (p = res) && decide (r.2.1 = 48))
def sb (res : Nat) (r : Rw) (p : Nat) : Bool := (decide (r.1.getD p 0 = 49) || decide (r.2.2.getD p 0 = 49)) || (decide (p = res) && decide (r.2.1 = 49))
def tailRow (per res : Nat) (r : Rw) : Rw := (r.1, t01 (decide (r.1.getD res 0 = 49) && decide (r.2.1 = 49)), (List.range per).map fun p => t01 (tb res r p))
def sprRow (per res : Nat) (r : Rw) : Rw := (r.1, t01 (decide (r.1.getD res 0 = 49) || decide (r.2.1 = 49)), (List.range per).map fun p => t01 (sb res r p))
theorem PS_row {per : Nat} {r r' : Rw} {N : Nat} (ok : RowOk per r) (e : r'.1 = r.1) (hm : r'.2.1 = 48 ∨ r'.2.1 = 49) (hb : Bits r'.2.2) (hl : r'.2.2.length = per) (hp : 0 < per) (hp4 : per ≤ 4) (hN : N ≤ 50000) (q : ∀ d, PS d (lg per r' N) per (N + 1) → Q d) : (sem P (k + 2)).I c_PeriodicSet [.str (((List.range N).map fun x => r.1.getD (x % per) 0) ++ [r'.2.1]), .str r'.2.2] Q := by
  have ee : ((List.range N).map fun x => r.1.getD (x % per) 0) ++ [r'.2.1] = ln0 per r' N := by
    unfold ln0
    rw [e]
  rw [ee]
  refine PS_new (k := k) (ln0_bits (by rw [e]; exact ok.a) (by rw [e]; exact ok.al) hm hp N) hb (by rw [hl]; exact hp) (by rw [ln0_len]; omega) (by rw [hl]; omega) fun d hd => ?_
  exact q d (hd.to (by rw [hl]; exact Nat.dvd_refl _) (by rw [ln0_len]; exact Nat.le_refl _) (ln_has hl N))
theorem tail {rs : List Rw} (h : BandOk rs) {res s : Nat} (hr : res < rs.length) (hs : s ≤ 40000) (q : ∀ d r N, rs[res]? = some r → RowOk rs.length r → s ≤ N → N < s + rs.length → N % rs.length = res → PS d (lg rs.length (tailRow rs.length res r) N) rs.length (N + 1) → Q d) : (sem P (k + 3)).F i_Band_tail [bandD rs, nI res, nI s] Q := by
  have z := sz
  have lo := h.lo
  have hi := h.hi
  refine run_f rfl rfl rfl ?_
  show ex (sem P (k + 2)) (.seq _ (.seq _ (.seq _ (.seq _ (.seq (.for_ _ _ _) _))))) [some (.val (bandD rs)), some (.val (nI res)), some (.val (nI s)), none, none, none, none, none, none] (endsN Q)
  simp only [ex_seq, ex_asg, ex_asgO, ex_ite, ex_nop, ex_ret, ex_retO, ex_retF, ex_app, ex_frz, ex_seti, ev, args_tup, List.set, List.getElem?_cons_zero, List.getElem?_cons_succ, q_val, q_own, q_bl, q_int, q_lst, part_non, part_int, bi_lenS, bi_lenL, bi_lenT, bi_lenC, bi_intI, bi_intB, bi_max2, bi_max3, bi_min2, cmp_lt, cmp_le, cmp_gt, cmp_ge, cmp_eqI, cmp_eqT, cmp_eqB, cmp_neI, cmp_neT, cmp_neB, cmp_inT, cmp_ninT, sqD_l, sqD_t, bi_tupL, bi_tupT, bi_listL, bi_listT, isN_non, isN_int, isN_lst, isN_tup, isN_ins, isi_int, isi_intB, isi_blB, isi_tup, isi_strS, cmp_is, cmp_isn, cmp_isB, cmp_isnB, bin_add, bin_sub, bin_mul, bin_fdiv, bin_mod, Vg.un_neg, idx_l0, idx_l1, idx_t0, idx_t1, idx_t2, idx_l2, isLT_l, isLT_t, count_str, bmTy, if_true, if_false, Bool.false_eq_true, Bool.not_true, Bool.not_false, true_and, and_true, decide_true, decide_false, bandD, fldB1, idx_tupN]
  refine row_at h hr fun r _ hg ok => ?_
  refine ⟨_, _, _, rfl, rfl, first_number (k := k + 1) h fun N h1 h2 h3 => ?_⟩
  rw [Nat.mod_eq_of_lt hr] at h3
  have za : r.1.length ≤ sizeLine := by rw [ok.al]; omega
  have zb : r.2.2.length ≤ sizeLine := by rw [ok.bl]; omega
  simp only [ex_seq, ex_asg, ex_asgO, ex_ite, ex_nop, ex_ret, ex_retO, ex_retF, ex_app, ex_frz, ex_seti, ev, args_tup, List.set, List.getElem?_cons_zero, List.getElem?_cons_succ, q_val, q_own, q_bl, q_int, q_lst, part_non, part_int, bi_lenS, bi_lenL, bi_lenT, bi_lenC, bi_intI, bi_intB, bi_max2, bi_max3, bi_min2, cmp_lt, cmp_le, cmp_gt, cmp_ge, cmp_eqI, cmp_eqT, cmp_eqB, cmp_neI, cmp_neT, cmp_neB, cmp_inT, cmp_ninT, sqD_l, sqD_t, bi_tupL, bi_tupT, bi_listL, bi_listT, isN_non, isN_int, isN_lst, isN_tup, isN_ins, isi_int, isi_intB, isi_blB, isi_tup, isi_strS, cmp_is, cmp_isn, cmp_isB, cmp_isnB, bin_add, bin_sub, bin_mul, bin_fdiv, bin_mod, Vg.un_neg, idx_l0, idx_l1, idx_t0, idx_t1, idx_t2, idx_l2, isLT_l, isLT_t, count_str, bmTy, if_true, if_false, Bool.false_eq_true, Bool.not_true, Bool.not_false, true_and, and_true, decide_true, decide_false, rowT, idx_strN, za, list1]
  obtain ⟨ca, ea⟩ : ∃ c, r.1[res]? = some c := ⟨_, List.getElem?_eq_getElem (by rw [ok.al]; exact hr)⟩
  have ga : r.1.getD res 0 = ca := by rw [List.getD_eq_getElem?_getD, ea]; rfl
  refine ⟨ca, ea, ?_⟩
  have key : ex (sem P (k + 2)) (.seq (.for_ (.one 7) (.rng1 (.fld (.var 0) f_period))
      (.seq (.asg 8 (.band (.cmp .Eq (.idx (.idx (.var 3) (.k (.int 0))) (.var 7)) (.k (.str [49]))) (.cmp .Eq (.idx (.idx (.var 3) (.k (.int 2))) (.var 7)) (.k (.str [49])))))
      (.seq (.ite (.band (.cmp .Eq (.var 7) (.var 1)) (.cmp .Eq (.idx (.var 3) (.k (.int 1))) (.k (.str [48]))))
      (.asg 8 (.k (.bl false)))
      .nop)
      (.asg 6 (.bin .Add (.var 6) (.idx (.k (.str [48, 49])) (.bi .int (.cons (.var 8) .nil))))))))
      (.ret (.mk c_PeriodicSet (.cons (.bin .Add (.call i_unfolded (.cons (.k (.str [])) (.cons (.idx (.var 3) (.k (.int 0))) (.cons (.var 4) .nil)))) (.var 5)) (.cons (.var 6) .nil)))))
      [some (.val (bandD rs)), some (.val (nI res)), some (.val (nI s)), some (.val (rowT r)), some (.val (nI N)), some (.val (.str [(tailRow rs.length res r).2.1])), some (.val (.str [])), none, none] (endsN Q) := by
    rw [ex_seq]
    refine ex_for ?_
    simp only [ev, args_tup, List.set, List.getElem?_cons_zero, List.getElem?_cons_succ, q_val, q_own, q_bl, q_int, q_lst, part_non, part_int, bi_lenS, bi_lenL, bi_lenT, bi_lenC, bi_intI, bi_intB, bi_max2, bi_max3, bi_min2, cmp_lt, cmp_le, cmp_gt, cmp_ge, cmp_eqI, cmp_eqT, cmp_eqB, cmp_neI, cmp_neT, cmp_neB, cmp_inT, cmp_ninT, sqD_l, sqD_t, bi_tupL, bi_tupT, bi_listL, bi_listT, isN_non, isN_int, isN_lst, isN_tup, isN_ins, isi_int, isi_intB, isi_blB, isi_tup, isi_strS, cmp_is, cmp_isn, cmp_isB, cmp_isnB, bin_add, bin_sub, bin_mul, bin_fdiv, bin_mod, Vg.un_neg, idx_l0, idx_l1, idx_t0, idx_t1, idx_t2, idx_l2, isLT_l, isLT_t, count_str, bmTy, if_true, if_false, Bool.false_eq_true, Bool.not_true, Bool.not_false, true_and, and_true, decide_true, decide_false, bandD, fldB0]
    refine ⟨by omega, by omega, _, rfl, ?_⟩
    rw [Int.toNat_natCast]
    refine for_one (fun i Γ => ∃ o7 o8, Γ = [some (.val (bandD rs)), some (.val (nI res)), some (.val (nI s)), some (.val (rowT r)), some (.val (nI N)), some (.val (.str [(tailRow rs.length res r).2.1])), some (.val (.str ((List.range i).map fun p => t01 (tb res r p)))), o7, o8]) ?_ ?_ ⟨_, _, rfl⟩
    · rintro i x Γ D' hx hi2 ⟨o7, o8, rfl⟩ e1 e2 e3 nx ct
      rw [List.length_map, List.length_range] at hi2
      rw [List.getElem?_map, List.getElem?_range hi2] at hx
      cases hx
      obtain ⟨c, ec⟩ : ∃ c, r.1[i]? = some c := ⟨_, List.getElem?_eq_getElem (by rw [ok.al]; exact hi2)⟩
      obtain ⟨d, ed⟩ : ∃ c, r.2.2[i]? = some c := ⟨_, List.getElem?_eq_getElem (by rw [ok.bl]; exact hi2)⟩
      have gc : r.1.getD i 0 = c := by rw [List.getD_eq_getElem?_getD, ec]; rfl
      have gd : r.2.2.getD i 0 = d := by rw [List.getD_eq_getElem?_getD, ed]; rfl
      have fin : ∀ b : Bool, b = tb res r i → ∀ o7 o8 Γ', Γ' = [some (.val (bandD rs)), some (.val (nI res)), some (.val (nI s)), some (.val (rowT r)), some (.val (nI N)), some (.val (.str [(tailRow rs.length res r).2.1])), some (.val (.str (((List.range i).map fun p => t01 (tb res r p)) ++ [t01 b]))), o7, o8] → D'.nx Γ' := fun b eb o7 o8 Γ' eΓ => by
        subst eb
        refine nx _ ⟨o7, o8, eΓ.trans ?_⟩
        rw [List.range_succ, List.map_append]
        rfl
      have hll : (((List.range i).map fun p => t01 (tb res r p)).length + 1 ≤ sizeLine) := by rw [List.length_map, List.length_range]; omega
      simp only [ex_seq, ex_asg, ex_asgO, ex_ite, ex_nop, ex_ret, ex_retO, ex_retF, ex_app, ex_frz, ex_seti, ev, args_tup, List.set, List.getElem?_cons_zero, List.getElem?_cons_succ, q_val, q_own, q_bl, q_int, q_lst, part_non, part_int, bi_lenS, bi_lenL, bi_lenT, bi_lenC, bi_intI, bi_intB, bi_max2, bi_max3, bi_min2, cmp_lt, cmp_le, cmp_gt, cmp_ge, cmp_eqI, cmp_eqT, cmp_eqB, cmp_neI, cmp_neT, cmp_neB, cmp_inT, cmp_ninT, sqD_l, sqD_t, bi_tupL, bi_tupT, bi_listL, bi_listT, isN_non, isN_int, isN_lst, isN_tup, isN_ins, isi_int, isi_intB, isi_blB, isi_tup, isi_strS, cmp_is, cmp_isn, cmp_isB, cmp_isnB, bin_add, bin_sub, bin_mul, bin_fdiv, bin_mod, Vg.un_neg, idx_l0, idx_l1, idx_t0, idx_t1, idx_t2, idx_l2, isLT_l, isLT_t, count_str, bmTy, if_true, if_false, Bool.false_eq_true, Bool.not_true, Bool.not_false, true_and, and_true, decide_true, decide_false, rowT, idx_strN, za, zb, list1, ec, ed, q_som]
      have ei : decide ((i : Int) = (res : Int)) = decide (i = res) := by simp only [Int.natCast_inj]
      have em : decide ([r.2.1] = [48]) = decide (r.2.1 = 48) := by simp only [List.cons.injEq, and_true]
      rw [ei]
      try rw [em]
      have lastb : ∀ b : Bool, b = tb res r i → binS (sem P (k + 2)) Operator.Add (.str ((List.range i).map fun p => t01 (tb res r p))) (.str [t01 b]) fun d => D'.nx [some (.val (bandD rs)), some (.val (nI res)), some (.val (nI s)), some (.val (rowT r)), some (.val (nI N)), some (.val (.str [(tailRow rs.length res r).2.1])), some (.val d), some (.val (nI i)), some (.val (.bl b))] := fun b eb => by
        rw [bin_cat]
        exact ⟨hll, fin b eb _ _ _ rfl⟩
      have eb : tb res r i = ((decide (c = 49) && decide (d = 49)) && !(decide (i = res) && decide (r.2.1 = 48))) := by
        unfold tb
        rw [gc, gd]
      cases hA : decide (c = 49) <;> cases hD : decide (d = 49) <;> cases hI : decide (i = res) <;> cases hM : decide (r.2.1 = 48) <;> rw [hA, hD, hI, hM] at eb <;> simp only [if_true, if_false, Bool.false_eq_true, ix0, ix1] <;> exact lastb _ eb.symm
    rintro Γ ⟨o7, o8, rfl⟩
    rw [List.length_map, List.length_range]
    simp only [ex_seq, ex_asg, ex_asgO, ex_ite, ex_nop, ex_ret, ex_retO, ex_retF, ex_app, ex_frz, ex_seti, ev, args_tup, List.set, List.getElem?_cons_zero, List.getElem?_cons_succ, q_val, q_own, q_bl, q_int, q_lst, part_non, part_int, bi_lenS, bi_lenL, bi_lenT, bi_lenC, bi_intI, bi_intB, bi_max2, bi_max3, bi_min2, cmp_lt, cmp_le, cmp_gt, cmp_ge, cmp_eqI, cmp_eqT, cmp_eqB, cmp_neI, cmp_neT, cmp_neB, cmp_inT, cmp_ninT, sqD_l, sqD_t, bi_tupL, bi_tupT, bi_listL, bi_listT, isN_non, isN_int, isN_lst, isN_tup, isN_ins, isi_int, isi_intB, isi_blB, isi_tup, isi_strS, cmp_is, cmp_isn, cmp_isB, cmp_isnB, bin_add, bin_sub, bin_mul, bin_fdiv, bin_mod, Vg.un_neg, idx_l0, idx_l1, idx_t0, idx_t1, idx_t2, idx_l2, isLT_l, isLT_t, count_str, bmTy, if_true, if_false, Bool.false_eq_true, Bool.not_true, Bool.not_false, true_and, and_true, decide_true, decide_false, rowT]
    refine unfolded0 (k := k + 1) (by rw [ok.al]; exact lo) (by rw [ok.al]; omega) ?_
    simp only [ex_seq, ex_asg, ex_asgO, ex_ite, ex_nop, ex_ret, ex_retO, ex_retF, ex_app, ex_frz, ex_seti, ev, args_tup, List.set, List.getElem?_cons_zero, List.getElem?_cons_succ, q_val, q_own, q_bl, q_int, q_lst, part_non, part_int, bi_lenS, bi_lenL, bi_lenT, bi_lenC, bi_intI, bi_intB, bi_max2, bi_max3, bi_min2, cmp_lt, cmp_le, cmp_gt, cmp_ge, cmp_eqI, cmp_eqT, cmp_eqB, cmp_neI, cmp_neT, cmp_neB, cmp_inT, cmp_ninT, sqD_l, sqD_t, bi_tupL, bi_tupT, bi_listL, bi_listT, isN_non, isN_int, isN_lst, isN_tup, isN_ins, isi_int, isi_intB, isi_blB, isi_tup, isi_strS, cmp_is, cmp_isn, cmp_isB, cmp_isnB, bin_add, bin_sub, bin_mul, bin_fdiv, bin_mod, Vg.un_neg, idx_l0, idx_l1, idx_t0, idx_t1, idx_t2, idx_l2, isLT_l, isLT_t, count_str, bmTy, if_true, if_false, Bool.false_eq_true, Bool.not_true, Bool.not_false, true_and, and_true, decide_true, decide_false, bin_cat, List.length_map, List.length_range, List.length_cons, List.length_nil]
    refine ⟨by omega, ?_⟩
    rw [ok.al]
    have hb : Bits ((tailRow rs.length res r).2.2) := fun y hy => by
      obtain ⟨x, _, rfl⟩ := List.mem_map.1 hy
      exact t01_bits _
    refine PS_row (k := k) (r' := tailRow rs.length res r) ok rfl (t01_bits _) hb ?_ lo hi (by omega) fun d hd => q d r N hg ok h1 h2 h3 hd
    show ((List.range rs.length).map _).length = rs.length
    rw [List.length_map, List.length_range]
  have nm : ∀ b : Bool, t01 b = (tailRow rs.length res r).2.1 → idxS (.str [48, 49]) (.int (if b = true then 1 else 0)) fun d => ex (sem P (k + 2)) (.seq _ _) [some (.val (bandD rs)), some (.val (nI res)), some (.val (nI s)), some (.val (rowT r)), some (.val (nI N)), some (.val d), some (.val (.str [])), none, none] (endsN Q) := fun b eb => idxB (by rw [eb]; exact key)
  have ev : (tailRow rs.length res r).2.1 = t01 (decide (ca = 49) && decide (r.2.1 = 49)) := by
    unfold tailRow
    rw [ga]
  rw [ev] at nm
  cases hA : decide (ca = 49) <;> cases hM : decide (r.2.1 = 49) <;> rw [hA, hM] at nm <;> simp only [if_true, if_false, Bool.false_eq_true]
  · exact nm false rfl
  · exact nm false rfl
  · exact nm false rfl
  · exact nm true rfl
theorem spread {rs : List Rw} (h : BandOk rs) {res s : Nat} (hr : res < rs.length) (hs : s ≤ 40000) (q : ∀ d r N, rs[res]? = some r → RowOk rs.length r → s ≤ N → N < s + rs.length → N % rs.length = res → PS d (lg rs.length (sprRow rs.length res r) N) rs.length (N + 1) → Q d) : (sem P (k + 3)).F i_Band_spread [bandD rs, nI res, nI s] Q := by
  have z := sz
  have lo := h.lo
  have hi := h.hi
  refine run_f rfl rfl rfl ?_
  show ex (sem P (k + 2)) (.seq _ (.seq _ (.seq _ (.seq _ (.seq (.for_ _ _ _) _))))) [some (.val (bandD rs)), some (.val (nI res)), some (.val (nI s)), none, none, none, none, none, none] (endsN Q)
  simp only [ex_seq, ex_asg, ex_asgO, ex_ite, ex_nop, ex_ret, ex_retO, ex_retF, ex_app, ex_frz, ex_seti, ev, args_tup, List.set, List.getElem?_cons_zero, List.getElem?_cons_succ, q_val, q_own, q_bl, q_int, q_lst, part_non, part_int, bi_lenS, bi_lenL, bi_lenT, bi_lenC, bi_intI, bi_intB, bi_max2, bi_max3, bi_min2, cmp_lt, cmp_le, cmp_gt, cmp_ge, cmp_eqI, cmp_eqT, cmp_eqB, cmp_neI, cmp_neT, cmp_neB, cmp_inT, cmp_ninT, sqD_l, sqD_t, bi_tupL, bi_tupT, bi_listL, bi_listT, isN_non, isN_int, isN_lst, isN_tup, isN_ins, isi_int, isi_intB, isi_blB, isi_tup, isi_strS, cmp_is, cmp_isn, cmp_isB, cmp_isnB, bin_add, bin_sub, bin_mul, bin_fdiv, bin_mod, Vg.un_neg, idx_l0, idx_l1, idx_t0, idx_t1, idx_t2, idx_l2, isLT_l, isLT_t, count_str, bmTy, if_true, if_false, Bool.false_eq_true, Bool.not_true, Bool.not_false, true_and, and_true, decide_true, decide_false, bandD, fldB1, idx_tupN]
  refine row_at h hr fun r _ hg ok => ?_
  refine ⟨_, _, _, rfl, rfl, first_number (k := k + 1) h fun N h1 h2 h3 => ?_⟩
  rw [Nat.mod_eq_of_lt hr] at h3
  have za : r.1.length ≤ sizeLine := by rw [ok.al]; omega
  have zb : r.2.2.length ≤ sizeLine := by rw [ok.bl]; omega
  simp only [ex_seq, ex_asg, ex_asgO, ex_ite, ex_nop, ex_ret, ex_retO, ex_retF, ex_app, ex_frz, ex_seti, ev, args_tup, List.set, List.getElem?_cons_zero, List.getElem?_cons_succ, q_val, q_own, q_bl, q_int, q_lst, part_non, part_int, bi_lenS, bi_lenL, bi_lenT, bi_lenC, bi_intI, bi_intB, bi_max2, bi_max3, bi_min2, cmp_lt, cmp_le, cmp_gt, cmp_ge, cmp_eqI, cmp_eqT, cmp_eqB, cmp_neI, cmp_neT, cmp_neB, cmp_inT, cmp_ninT, sqD_l, sqD_t, bi_tupL, bi_tupT, bi_listL, bi_listT, isN_non, isN_int, isN_lst, isN_tup, isN_ins, isi_int, isi_intB, isi_blB, isi_tup, isi_strS, cmp_is, cmp_isn, cmp_isB, cmp_isnB, bin_add, bin_sub, bin_mul, bin_fdiv, bin_mod, Vg.un_neg, idx_l0, idx_l1, idx_t0, idx_t1, idx_t2, idx_l2, isLT_l, isLT_t, count_str, bmTy, if_true, if_false, Bool.false_eq_true, Bool.not_true, Bool.not_false, true_and, and_true, decide_true, decide_false, rowT, idx_strN, za, list1]
  obtain ⟨ca, ea⟩ : ∃ c, r.1[res]? = some c := ⟨_, List.getElem?_eq_getElem (by rw [ok.al]; exact hr)⟩
  have ga : r.1.getD res 0 = ca := by rw [List.getD_eq_getElem?_getD, ea]; rfl
  refine ⟨ca, ea, ?_⟩
  have key : ex (sem P (k + 2)) (.seq (.for_ (.one 7) (.rng1 (.fld (.var 0) f_period))
      (.seq (.asg 8 (.bor (.cmp .Eq (.idx (.idx (.var 3) (.k (.int 0))) (.var 7)) (.k (.str [49]))) (.cmp .Eq (.idx (.idx (.var 3) (.k (.int 2))) (.var 7)) (.k (.str [49])))))
      (.seq (.ite (.band (.cmp .Eq (.var 7) (.var 1)) (.cmp .Eq (.idx (.var 3) (.k (.int 1))) (.k (.str [49]))))
      (.asg 8 (.k (.bl true)))
      .nop)
      (.asg 6 (.bin .Add (.var 6) (.idx (.k (.str [48, 49])) (.bi .int (.cons (.var 8) .nil))))))))
      (.ret (.mk c_PeriodicSet (.cons (.bin .Add (.call i_unfolded (.cons (.k (.str [])) (.cons (.idx (.var 3) (.k (.int 0))) (.cons (.var 4) .nil)))) (.var 5)) (.cons (.var 6) .nil)))))
      [some (.val (bandD rs)), some (.val (nI res)), some (.val (nI s)), some (.val (rowT r)), some (.val (nI N)), some (.val (.str [(sprRow rs.length res r).2.1])), some (.val (.str [])), none, none] (endsN Q) := by
    rw [ex_seq]
    refine ex_for ?_
    simp only [ev, args_tup, List.set, List.getElem?_cons_zero, List.getElem?_cons_succ, q_val, q_own, q_bl, q_int, q_lst, part_non, part_int, bi_lenS, bi_lenL, bi_lenT, bi_lenC, bi_intI, bi_intB, bi_max2, bi_max3, bi_min2, cmp_lt, cmp_le, cmp_gt, cmp_ge, cmp_eqI, cmp_eqT, cmp_eqB, cmp_neI, cmp_neT, cmp_neB, cmp_inT, cmp_ninT, sqD_l, sqD_t, bi_tupL, bi_tupT, bi_listL, bi_listT, isN_non, isN_int, isN_lst, isN_tup, isN_ins, isi_int, isi_intB, isi_blB, isi_tup, isi_strS, cmp_is, cmp_isn, cmp_isB, cmp_isnB, bin_add, bin_sub, bin_mul, bin_fdiv, bin_mod, Vg.un_neg, idx_l0, idx_l1, idx_t0, idx_t1, idx_t2, idx_l2, isLT_l, isLT_t, count_str, bmTy, if_true, if_false, Bool.false_eq_true, Bool.not_true, Bool.not_false, true_and, and_true, decide_true, decide_false, bandD, fldB0]
    refine ⟨by omega, by omega, _, rfl, ?_⟩
    rw [Int.toNat_natCast]
    refine for_one (fun i Γ => ∃ o7 o8, Γ = [some (.val (bandD rs)), some (.val (nI res)), some (.val (nI s)), some (.val (rowT r)), some (.val (nI N)), some (.val (.str [(sprRow rs.length res r).2.1])), some (.val (.str ((List.range i).map fun p => t01 (sb res r p)))), o7, o8]) ?_ ?_ ⟨_, _, rfl⟩
    · rintro i x Γ D' hx hi2 ⟨o7, o8, rfl⟩ e1 e2 e3 nx ct
      rw [List.length_map, List.length_range] at hi2
      rw [List.getElem?_map, List.getElem?_range hi2] at hx
      cases hx
      obtain ⟨c, ec⟩ : ∃ c, r.1[i]? = some c := ⟨_, List.getElem?_eq_getElem (by rw [ok.al]; exact hi2)⟩
      obtain ⟨d, ed⟩ : ∃ c, r.2.2[i]? = some c := ⟨_, List.getElem?_eq_getElem (by rw [ok.bl]; exact hi2)⟩
      have gc : r.1.getD i 0 = c := by rw [List.getD_eq_getElem?_getD, ec]; rfl
      have gd : r.2.2.getD i 0 = d := by rw [List.getD_eq_getElem?_getD, ed]; rfl
      have fin : ∀ b : Bool, b = sb res r i → ∀ o7 o8 Γ', Γ' = [some (.val (bandD rs)), some (.val (nI res)), some (.val (nI s)), some (.val (rowT r)), some (.val (nI N)), some (.val (.str [(sprRow rs.length res r).2.1])), some (.val (.str (((List.range i).map fun p => t01 (sb res r p)) ++ [t01 b]))), o7, o8] → D'.nx Γ' := fun b eb o7 o8 Γ' eΓ => by
        subst eb
        refine nx _ ⟨o7, o8, eΓ.trans ?_⟩
        rw [List.range_succ, List.map_append]
        rfl
      have hll : (((List.range i).map fun p => t01 (sb res r p)).length + 1 ≤ sizeLine) := by rw [List.length_map, List.length_range]; omega
      simp only [ex_seq, ex_asg, ex_asgO, ex_ite, ex_nop, ex_ret, ex_retO, ex_retF, ex_app, ex_frz, ex_seti, ev, args_tup, List.set, List.getElem?_cons_zero, List.getElem?_cons_succ, q_val, q_own, q_bl, q_int, q_lst, part_non, part_int, bi_lenS, bi_lenL, bi_lenT, bi_lenC, bi_intI, bi_intB, bi_max2, bi_max3, bi_min2, cmp_lt, cmp_le, cmp_gt, cmp_ge, cmp_eqI, cmp_eqT, cmp_eqB, cmp_neI, cmp_neT, cmp_neB, cmp_inT, cmp_ninT, sqD_l, sqD_t, bi_tupL, bi_tupT, bi_listL, bi_listT, isN_non, isN_int, isN_lst, isN_tup, isN_ins, isi_int, isi_intB, isi_blB, isi_tup, isi_strS, cmp_is, cmp_isn, cmp_isB, cmp_isnB, bin_add, bin_sub, bin_mul, bin_fdiv, bin_mod, Vg.un_neg, idx_l0, idx_l1, idx_t0, idx_t1, idx_t2, idx_l2, isLT_l, isLT_t, count_str, bmTy, if_true, if_false, Bool.false_eq_true, Bool.not_true, Bool.not_false, true_and, and_true, decide_true, decide_false, rowT, idx_strN, za, zb, list1, ec, ed, q_som]
      have ei : decide ((i : Int) = (res : Int)) = decide (i = res) := by simp only [Int.natCast_inj]
      have em : decide ([r.2.1] = [49]) = decide (r.2.1 = 49) := by simp only [List.cons.injEq, and_true]
      rw [ei]
      try rw [em]
      have lastb : ∀ b : Bool, b = sb res r i → binS (sem P (k + 2)) Operator.Add (.str ((List.range i).map fun p => t01 (sb res r p))) (.str [t01 b]) fun d => D'.nx [some (.val (bandD rs)), some (.val (nI res)), some (.val (nI s)), some (.val (rowT r)), some (.val (nI N)), some (.val (.str [(sprRow rs.length res r).2.1])), some (.val d), some (.val (nI i)), some (.val (.bl b))] := fun b eb => by
        rw [bin_cat]
        exact ⟨hll, fin b eb _ _ _ rfl⟩
      have eb : sb res r i = ((decide (c = 49) || decide (d = 49)) || (decide (i = res) && decide (r.2.1 = 49))) := by
        unfold sb
        rw [gc, gd]
      cases hA : decide (c = 49) <;> cases hD : decide (d = 49) <;> cases hI : decide (i = res) <;> cases hM : decide (r.2.1 = 49) <;> rw [hA, hD, hI, hM] at eb <;> simp only [if_true, if_false, Bool.false_eq_true, ix0, ix1] <;> exact lastb _ eb.symm
    rintro Γ ⟨o7, o8, rfl⟩
    rw [List.length_map, List.length_range]
    simp only [ex_seq, ex_asg, ex_asgO, ex_ite, ex_nop, ex_ret, ex_retO, ex_retF, ex_app, ex_frz, ex_seti, ev, args_tup, List.set, List.getElem?_cons_zero, List.getElem?_cons_succ, q_val, q_own, q_bl, q_int, q_lst, part_non, part_int, bi_lenS, bi_lenL, bi_lenT, bi_lenC, bi_intI, bi_intB, bi_max2, bi_max3, bi_min2, cmp_lt, cmp_le, cmp_gt, cmp_ge, cmp_eqI, cmp_eqT, cmp_eqB, cmp_neI, cmp_neT, cmp_neB, cmp_inT, cmp_ninT, sqD_l, sqD_t, bi_tupL, bi_tupT, bi_listL, bi_listT, isN_non, isN_int, isN_lst, isN_tup, isN_ins, isi_int, isi_intB, isi_blB, isi_tup, isi_strS, cmp_is, cmp_isn, cmp_isB, cmp_isnB, bin_add, bin_sub, bin_mul, bin_fdiv, bin_mod, Vg.un_neg, idx_l0, idx_l1, idx_t0, idx_t1, idx_t2, idx_l2, isLT_l, isLT_t, count_str, bmTy, if_true, if_false, Bool.false_eq_true, Bool.not_true, Bool.not_false, true_and, and_true, decide_true, decide_false, rowT]
    refine unfolded0 (k := k + 1) (by rw [ok.al]; exact lo) (by rw [ok.al]; omega) ?_
    simp only [ex_seq, ex_asg, ex_asgO, ex_ite, ex_nop, ex_ret, ex_retO, ex_retF, ex_app, ex_frz, ex_seti, ev, args_tup, List.set, List.getElem?_cons_zero, List.getElem?_cons_succ, q_val, q_own, q_bl, q_int, q_lst, part_non, part_int, bi_lenS, bi_lenL, bi_lenT, bi_lenC, bi_intI, bi_intB, bi_max2, bi_max3, bi_min2, cmp_lt, cmp_le, cmp_gt, cmp_ge, cmp_eqI, cmp_eqT, cmp_eqB, cmp_neI, cmp_neT, cmp_neB, cmp_inT, cmp_ninT, sqD_l, sqD_t, bi_tupL, bi_tupT, bi_listL, bi_listT, isN_non, isN_int, isN_lst, isN_tup, isN_ins, isi_int, isi_intB, isi_blB, isi_tup, isi_strS, cmp_is, cmp_isn, cmp_isB, cmp_isnB, bin_add, bin_sub, bin_mul, bin_fdiv, bin_mod, Vg.un_neg, idx_l0, idx_l1, idx_t0, idx_t1, idx_t2, idx_l2, isLT_l, isLT_t, count_str, bmTy, if_true, if_false, Bool.false_eq_true, Bool.not_true, Bool.not_false, true_and, and_true, decide_true, decide_false, bin_cat, List.length_map, List.length_range, List.length_cons, List.length_nil]
    refine ⟨by omega, ?_⟩
    rw [ok.al]
    have hb : Bits ((sprRow rs.length res r).2.2) := fun y hy => by
      obtain ⟨x, _, rfl⟩ := List.mem_map.1 hy
      exact t01_bits _
    refine PS_row (k := k) (r' := sprRow rs.length res r) ok rfl (t01_bits _) hb ?_ lo hi (by omega) fun d hd => q d r N hg ok h1 h2 h3 hd
    show ((List.range rs.length).map _).length = rs.length
    rw [List.length_map, List.length_range]
  have nm : ∀ b : Bool, t01 b = (sprRow rs.length res r).2.1 → idxS (.str [48, 49]) (.int (if b = true then 1 else 0)) fun d => ex (sem P (k + 2)) (.seq _ _) [some (.val (bandD rs)), some (.val (nI res)), some (.val (nI s)), some (.val (rowT r)), some (.val (nI N)), some (.val d), some (.val (.str [])), none, none] (endsN Q) := fun b eb => idxB (by rw [eb]; exact key)
  have ev : (sprRow rs.length res r).2.1 = t01 (decide (ca = 49) || decide (r.2.1 = 49)) := by
    unfold sprRow
    rw [ga]
  rw [ev] at nm
  cases hA : decide (ca = 49) <;> cases hM : decide (r.2.1 = 49) <;> rw [hA, hM] at nm <;> simp only [if_true, if_false, Bool.false_eq_true]
  · exact nm false rfl
  · exact nm true rfl
  · exact nm true rfl
  · exact nm true rfl
end Gk07


set_option Elab.async false
set_option linter.all false
set_option maxRecDepth 100000
set_option maxHeartbeats 8000000
namespace Gk07
open PySem L2 Vg Gk
variable {k : Nat} {Q : DV → Prop}
theorem isi_band {vs : List DV} {R : Bool → Prop} : (∃ b, tyOk (sem P k).nc (.cls c_Band) = true ∧ tyS (sem P k).nc (.cls c_Band) (.ins c_Band vs) = some b ∧ R b) = R true := by
  rw [fm_nc]
  refine propext ⟨fun ⟨b, _, e, hr⟩ => ?_, fun hr => ⟨true, rfl, rfl, hr⟩⟩
  cases Option.some.inj e
  exact hr
theorem checked_row {per : Nat} {r : Rw} {d : DV} (ok : RowOk per r) (hp : per ≤ 1000) (hd : d = rowL r ∨ d = rowT r) (q : Q (rowT r)) : (sem P (k + 2)).F i_checked_row [d, nI per] Q := by
  have z := sz
  have za : r.1.length ≤ sizeLine := by rw [ok.al]; omega
  have zb : r.2.2.length ≤ sizeLine := by rw [ok.bl]; omega
  have zm : Bits [r.2.1] := fun x hx => by rw [List.mem_singleton.1 hx]; exact ok.m
  have ia : itemsOf d = some [.str r.1, .str [r.2.1], .str r.2.2] := by rcases hd with rfl | rfl <;> rfl
  refine run_f rfl rfl rfl ?_
  have A := fun {R : DV → Prop} (r : R (.bl true)) => is_bits (k := k) (Q := R) ok.a za r
  have B := fun {R : DV → Prop} (r : R (.bl true)) => is_bits (k := k) (Q := R) ok.b zb r
  have C := fun {R : DV → Prop} (r : R (.bl true)) => is_bits (k := k) (Q := R) zm (by show 1 ≤ sizeLine; omega) r
  have one := ok.one
  have e3 : decide (((0 + 1 + 1 + 1 : Nat) : Int) = 3) = true := by decide
  have body : ∀ D : DE, (∀ o, D.nx [some (.val d), some (.val (nI per)), o]) → ex (sem P (k + 1)) (.for_ (.one 2) (.var 0) (.ite (.bnot (.call i_is_bits (.cons (.var 2) .nil))) .never .nop)) [some (.val d), some (.val (nI per)), none] D := fun D h => by
    refine ex_for ?_
    simp only [ev, args_tup, List.set, List.getElem?_cons_zero, List.getElem?_cons_succ, q_val, q_own, q_bl, q_int, q_lst, part_non, part_int, bi_lenS, bi_lenL, bi_lenT, bi_lenC, bi_intI, bi_intB, bi_max2, bi_max3, bi_min2, cmp_lt, cmp_le, cmp_gt, cmp_ge, cmp_eqI, cmp_eqT, cmp_eqB, cmp_neI, cmp_neT, cmp_neB, cmp_inT, cmp_ninT, sqD_l, sqD_t, bi_tupL, bi_tupT, bi_listL, bi_listT, isN_non, isN_int, isN_lst, isN_tup, isN_ins, isi_int, isi_intB, isi_blB, isi_tup, isi_strS, cmp_is, cmp_isn, cmp_isB, cmp_isnB, bin_add, bin_sub, bin_mul, bin_fdiv, bin_mod, Vg.un_neg, idx_l0, idx_l1, idx_t0, idx_t1, idx_t2, idx_l2, isLT_l, isLT_t, count_str, bmTy, if_true, if_false, Bool.false_eq_true, Bool.not_true, Bool.not_false, true_and, and_true, decide_true, decide_false]
    refine ⟨_, ia, ?_⟩
    simp only [ex_seq, ex_asg, ex_asgO, ex_ite, ex_nop, ex_ret, ex_retO, ex_retF, ex_app, ex_frz, ex_seti, ev, args_tup, List.set, List.getElem?_cons_zero, List.getElem?_cons_succ, q_val, q_own, q_bl, q_int, q_lst, part_non, part_int, bi_lenS, bi_lenL, bi_lenT, bi_lenC, bi_intI, bi_intB, bi_max2, bi_max3, bi_min2, cmp_lt, cmp_le, cmp_gt, cmp_ge, cmp_eqI, cmp_eqT, cmp_eqB, cmp_neI, cmp_neT, cmp_neB, cmp_inT, cmp_ninT, sqD_l, sqD_t, bi_tupL, bi_tupT, bi_listL, bi_listT, isN_non, isN_int, isN_lst, isN_tup, isN_ins, isi_int, isi_intB, isi_blB, isi_tup, isi_strS, cmp_is, cmp_isn, cmp_isB, cmp_isnB, bin_add, bin_sub, bin_mul, bin_fdiv, bin_mod, Vg.un_neg, idx_l0, idx_l1, idx_t0, idx_t1, idx_t2, idx_l2, isLT_l, isLT_t, count_str, bmTy, if_true, if_false, Bool.false_eq_true, Bool.not_true, Bool.not_false, true_and, and_true, decide_true, decide_false, forW, stT]
    refine A ?_
    simp only [ex_seq, ex_asg, ex_asgO, ex_ite, ex_nop, ex_ret, ex_retO, ex_retF, ex_app, ex_frz, ex_seti, ev, args_tup, List.set, List.getElem?_cons_zero, List.getElem?_cons_succ, q_val, q_own, q_bl, q_int, q_lst, part_non, part_int, bi_lenS, bi_lenL, bi_lenT, bi_lenC, bi_intI, bi_intB, bi_max2, bi_max3, bi_min2, cmp_lt, cmp_le, cmp_gt, cmp_ge, cmp_eqI, cmp_eqT, cmp_eqB, cmp_neI, cmp_neT, cmp_neB, cmp_inT, cmp_ninT, sqD_l, sqD_t, bi_tupL, bi_tupT, bi_listL, bi_listT, isN_non, isN_int, isN_lst, isN_tup, isN_ins, isi_int, isi_intB, isi_blB, isi_tup, isi_strS, cmp_is, cmp_isn, cmp_isB, cmp_isnB, bin_add, bin_sub, bin_mul, bin_fdiv, bin_mod, Vg.un_neg, idx_l0, idx_l1, idx_t0, idx_t1, idx_t2, idx_l2, isLT_l, isLT_t, count_str, bmTy, if_true, if_false, Bool.false_eq_true, Bool.not_true, Bool.not_false, true_and, and_true, decide_true, decide_false]
    refine C ?_
    simp only [ex_seq, ex_asg, ex_asgO, ex_ite, ex_nop, ex_ret, ex_retO, ex_retF, ex_app, ex_frz, ex_seti, ev, args_tup, List.set, List.getElem?_cons_zero, List.getElem?_cons_succ, q_val, q_own, q_bl, q_int, q_lst, part_non, part_int, bi_lenS, bi_lenL, bi_lenT, bi_lenC, bi_intI, bi_intB, bi_max2, bi_max3, bi_min2, cmp_lt, cmp_le, cmp_gt, cmp_ge, cmp_eqI, cmp_eqT, cmp_eqB, cmp_neI, cmp_neT, cmp_neB, cmp_inT, cmp_ninT, sqD_l, sqD_t, bi_tupL, bi_tupT, bi_listL, bi_listT, isN_non, isN_int, isN_lst, isN_tup, isN_ins, isi_int, isi_intB, isi_blB, isi_tup, isi_strS, cmp_is, cmp_isn, cmp_isB, cmp_isnB, bin_add, bin_sub, bin_mul, bin_fdiv, bin_mod, Vg.un_neg, idx_l0, idx_l1, idx_t0, idx_t1, idx_t2, idx_l2, isLT_l, isLT_t, count_str, bmTy, if_true, if_false, Bool.false_eq_true, Bool.not_true, Bool.not_false, true_and, and_true, decide_true, decide_false]
    refine B ?_
    simp only [ex_seq, ex_asg, ex_asgO, ex_ite, ex_nop, ex_ret, ex_retO, ex_retF, ex_app, ex_frz, ex_seti, ev, args_tup, List.set, List.getElem?_cons_zero, List.getElem?_cons_succ, q_val, q_own, q_bl, q_int, q_lst, part_non, part_int, bi_lenS, bi_lenL, bi_lenT, bi_lenC, bi_intI, bi_intB, bi_max2, bi_max3, bi_min2, cmp_lt, cmp_le, cmp_gt, cmp_ge, cmp_eqI, cmp_eqT, cmp_eqB, cmp_neI, cmp_neT, cmp_neB, cmp_inT, cmp_ninT, sqD_l, sqD_t, bi_tupL, bi_tupT, bi_listL, bi_listT, isN_non, isN_int, isN_lst, isN_tup, isN_ins, isi_int, isi_intB, isi_blB, isi_tup, isi_strS, cmp_is, cmp_isn, cmp_isB, cmp_isnB, bin_add, bin_sub, bin_mul, bin_fdiv, bin_mod, Vg.un_neg, idx_l0, idx_l1, idx_t0, idx_t1, idx_t2, idx_l2, isLT_l, isLT_t, count_str, bmTy, if_true, if_false, Bool.false_eq_true, Bool.not_true, Bool.not_false, true_and, and_true, decide_true, decide_false]
    exact h _
  show ex (sem P (k + 1)) (.seq (.ite _ _ _) (.seq (.for_ _ _ _) (.seq (.ite _ _ _) (.ret _)))) [some (.val d), some (.val (nI per)), none] (endsN Q)
  rcases hd with rfl | rfl
  · simp only [ex_seq, ex_asg, ex_asgO, ex_ite, ex_nop, ex_ret, ex_retO, ex_retF, ex_app, ex_frz, ex_seti, ev, args_tup, List.set, List.getElem?_cons_zero, List.getElem?_cons_succ, q_val, q_own, q_bl, q_int, q_lst, part_non, part_int, bi_lenS, bi_lenL, bi_lenT, bi_lenC, bi_intI, bi_intB, bi_max2, bi_max3, bi_min2, cmp_lt, cmp_le, cmp_gt, cmp_ge, cmp_eqI, cmp_eqT, cmp_eqB, cmp_neI, cmp_neT, cmp_neB, cmp_inT, cmp_ninT, sqD_l, sqD_t, bi_tupL, bi_tupT, bi_listL, bi_listT, isN_non, isN_int, isN_lst, isN_tup, isN_ins, isi_int, isi_intB, isi_blB, isi_tup, isi_strS, cmp_is, cmp_isn, cmp_isB, cmp_isnB, bin_add, bin_sub, bin_mul, bin_fdiv, bin_mod, Vg.un_neg, idx_l0, idx_l1, idx_t0, idx_t1, idx_t2, idx_l2, isLT_l, isLT_t, count_str, bmTy, if_true, if_false, Bool.false_eq_true, Bool.not_true, Bool.not_false, true_and, and_true, decide_true, decide_false, rowL, List.length_cons, List.length_nil, e3]
    refine body _ fun o => ?_
    simp only [ex_seq, ex_asg, ex_asgO, ex_ite, ex_nop, ex_ret, ex_retO, ex_retF, ex_app, ex_frz, ex_seti, ev, args_tup, List.set, List.getElem?_cons_zero, List.getElem?_cons_succ, q_val, q_own, q_bl, q_int, q_lst, part_non, part_int, bi_lenS, bi_lenL, bi_lenT, bi_lenC, bi_intI, bi_intB, bi_max2, bi_max3, bi_min2, cmp_lt, cmp_le, cmp_gt, cmp_ge, cmp_eqI, cmp_eqT, cmp_eqB, cmp_neI, cmp_neT, cmp_neB, cmp_inT, cmp_ninT, sqD_l, sqD_t, bi_tupL, bi_tupT, bi_listL, bi_listT, isN_non, isN_int, isN_lst, isN_tup, isN_ins, isi_int, isi_intB, isi_blB, isi_tup, isi_strS, cmp_is, cmp_isn, cmp_isB, cmp_isnB, bin_add, bin_sub, bin_mul, bin_fdiv, bin_mod, Vg.un_neg, idx_l0, idx_l1, idx_t0, idx_t1, idx_t2, idx_l2, isLT_l, isLT_t, count_str, bmTy, if_true, if_false, Bool.false_eq_true, Bool.not_true, Bool.not_false, true_and, and_true, decide_true, decide_false, rowL, ok.al, ok.bl, za, zb, List.length_cons, List.length_nil]
    refine ⟨by omega, by omega, by omega, ?_⟩
    simp only [ex_seq, ex_asg, ex_asgO, ex_ite, ex_nop, ex_ret, ex_retO, ex_retF, ex_app, ex_frz, ex_seti, ev, args_tup, List.set, List.getElem?_cons_zero, List.getElem?_cons_succ, q_val, q_own, q_bl, q_int, q_lst, part_non, part_int, bi_lenS, bi_lenL, bi_lenT, bi_lenC, bi_intI, bi_intB, bi_max2, bi_max3, bi_min2, cmp_lt, cmp_le, cmp_gt, cmp_ge, cmp_eqI, cmp_eqT, cmp_eqB, cmp_neI, cmp_neT, cmp_neB, cmp_inT, cmp_ninT, sqD_l, sqD_t, bi_tupL, bi_tupT, bi_listL, bi_listT, isN_non, isN_int, isN_lst, isN_tup, isN_ins, isi_int, isi_intB, isi_blB, isi_tup, isi_strS, cmp_is, cmp_isn, cmp_isB, cmp_isnB, bin_add, bin_sub, bin_mul, bin_fdiv, bin_mod, Vg.un_neg, idx_l0, idx_l1, idx_t0, idx_t1, idx_t2, idx_l2, isLT_l, isLT_t, count_str, bmTy, if_true, if_false, Bool.false_eq_true, Bool.not_true, Bool.not_false, true_and, and_true, decide_true, decide_false, one]
    exact ⟨by decide, q⟩
  · simp only [ex_seq, ex_asg, ex_asgO, ex_ite, ex_nop, ex_ret, ex_retO, ex_retF, ex_app, ex_frz, ex_seti, ev, args_tup, List.set, List.getElem?_cons_zero, List.getElem?_cons_succ, q_val, q_own, q_bl, q_int, q_lst, part_non, part_int, bi_lenS, bi_lenL, bi_lenT, bi_lenC, bi_intI, bi_intB, bi_max2, bi_max3, bi_min2, cmp_lt, cmp_le, cmp_gt, cmp_ge, cmp_eqI, cmp_eqT, cmp_eqB, cmp_neI, cmp_neT, cmp_neB, cmp_inT, cmp_ninT, sqD_l, sqD_t, bi_tupL, bi_tupT, bi_listL, bi_listT, isN_non, isN_int, isN_lst, isN_tup, isN_ins, isi_int, isi_intB, isi_blB, isi_tup, isi_strS, cmp_is, cmp_isn, cmp_isB, cmp_isnB, bin_add, bin_sub, bin_mul, bin_fdiv, bin_mod, Vg.un_neg, idx_l0, idx_l1, idx_t0, idx_t1, idx_t2, idx_l2, isLT_l, isLT_t, count_str, bmTy, if_true, if_false, Bool.false_eq_true, Bool.not_true, Bool.not_false, true_and, and_true, decide_true, decide_false, rowT, List.length_cons, List.length_nil, e3]
    refine body _ fun o => ?_
    simp only [ex_seq, ex_asg, ex_asgO, ex_ite, ex_nop, ex_ret, ex_retO, ex_retF, ex_app, ex_frz, ex_seti, ev, args_tup, List.set, List.getElem?_cons_zero, List.getElem?_cons_succ, q_val, q_own, q_bl, q_int, q_lst, part_non, part_int, bi_lenS, bi_lenL, bi_lenT, bi_lenC, bi_intI, bi_intB, bi_max2, bi_max3, bi_min2, cmp_lt, cmp_le, cmp_gt, cmp_ge, cmp_eqI, cmp_eqT, cmp_eqB, cmp_neI, cmp_neT, cmp_neB, cmp_inT, cmp_ninT, sqD_l, sqD_t, bi_tupL, bi_tupT, bi_listL, bi_listT, isN_non, isN_int, isN_lst, isN_tup, isN_ins, isi_int, isi_intB, isi_blB, isi_tup, isi_strS, cmp_is, cmp_isn, cmp_isB, cmp_isnB, bin_add, bin_sub, bin_mul, bin_fdiv, bin_mod, Vg.un_neg, idx_l0, idx_l1, idx_t0, idx_t1, idx_t2, idx_l2, isLT_l, isLT_t, count_str, bmTy, if_true, if_false, Bool.false_eq_true, Bool.not_true, Bool.not_false, true_and, and_true, decide_true, decide_false, rowT, ok.al, ok.bl, za, zb, List.length_cons, List.length_nil]
    refine ⟨by omega, by omega, by omega, ?_⟩
    simp only [ex_seq, ex_asg, ex_asgO, ex_ite, ex_nop, ex_ret, ex_retO, ex_retF, ex_app, ex_frz, ex_seti, ev, args_tup, List.set, List.getElem?_cons_zero, List.getElem?_cons_succ, q_val, q_own, q_bl, q_int, q_lst, part_non, part_int, bi_lenS, bi_lenL, bi_lenT, bi_lenC, bi_intI, bi_intB, bi_max2, bi_max3, bi_min2, cmp_lt, cmp_le, cmp_gt, cmp_ge, cmp_eqI, cmp_eqT, cmp_eqB, cmp_neI, cmp_neT, cmp_neB, cmp_inT, cmp_ninT, sqD_l, sqD_t, bi_tupL, bi_tupT, bi_listL, bi_listT, isN_non, isN_int, isN_lst, isN_tup, isN_ins, isi_int, isi_intB, isi_blB, isi_tup, isi_strS, cmp_is, cmp_isn, cmp_isB, cmp_isnB, bin_add, bin_sub, bin_mul, bin_fdiv, bin_mod, Vg.un_neg, idx_l0, idx_l1, idx_t0, idx_t1, idx_t2, idx_l2, isLT_l, isLT_t, count_str, bmTy, if_true, if_false, Bool.false_eq_true, Bool.not_true, Bool.not_false, true_and, and_true, decide_true, decide_false, one]
    exact ⟨by decide, q⟩
theorem ex_fset {Sm : Sem} {i f : Nat} {e : E} {Γ : Vg.Env} {D : DE} : ex Sm (.fset i f e) Γ D = ev Sm e Γ fun d => ∃ c vs, Γ[i]? = some (some (.obj c vs)) ∧ Sm.fx c f = some vs.length ∧ D.nx (Γ.set i (some (.obj c (vs ++ [d])))) := rfl
theorem ex_drop {Sm : Sem} {e : E} {Γ : Vg.Env} {D : DE} : ex Sm (.drop e) Γ D = ev Sm e Γ fun _ => D.nx Γ := rfl
theorem q_obj {c c' : Nat} {vs : List DV} {R : Nat → List DV → Prop} : (∃ c vs', (some (some (Bd.obj c' vs)) : Option (Option Bd)) = some (some (Bd.obj c vs')) ∧ R c vs') = R c' vs := by
  refine propext ⟨fun ⟨a, b, e, h⟩ => ?_, fun h => ⟨_, _, rfl, h⟩⟩
  cases e
  exact h
theorem band_init {rs : List Rw} (h : BandOk rs) (q : Q (bandD rs)) : (sem P (k + 3)).I c_Band [.lst (rs.map rowL)] Q := by
  have z := sz
  have lo := h.lo
  have hi := h.hi
  refine run_i rfl rfl ?_
  show ex (sem P (k + 2)) (.seq (.ite _ _ _) (.seq _ _)) [some (.obj c_Band []), some (.val (.lst (rs.map rowL))), none] _
  have e1 : decide ((1 : Int) ≤ (rs.length : Int)) = true := by rw [decide_eq_true_eq]; omega
  have e2 : decide ((rs.length : Int) ≤ 4) = true := by rw [decide_eq_true_eq]; omega
  simp only [ex_seq, ex_asg, ex_asgO, ex_ite, ex_nop, ex_ret, ex_retO, ex_retF, ex_app, ex_frz, ex_seti, ev, args_tup, List.set, List.getElem?_cons_zero, List.getElem?_cons_succ, q_val, q_own, q_bl, q_int, q_lst, part_non, part_int, bi_lenS, bi_lenL, bi_lenT, bi_lenC, bi_intI, bi_intB, bi_max2, bi_max3, bi_min2, cmp_lt, cmp_le, cmp_gt, cmp_ge, cmp_eqI, cmp_eqT, cmp_eqB, cmp_neI, cmp_neT, cmp_neB, cmp_inT, cmp_ninT, sqD_l, sqD_t, bi_tupL, bi_tupT, bi_listL, bi_listT, isN_non, isN_int, isN_lst, isN_tup, isN_ins, isi_int, isi_intB, isi_blB, isi_tup, isi_strS, cmp_is, cmp_isn, cmp_isB, cmp_isnB, bin_add, bin_sub, bin_mul, bin_fdiv, bin_mod, Vg.un_neg, idx_l0, idx_l1, idx_t0, idx_t1, idx_t2, idx_l2, isLT_l, isLT_t, count_str, bmTy, if_true, if_false, Bool.false_eq_true, Bool.not_true, Bool.not_false, true_and, and_true, decide_true, decide_false, List.length_map, e1, e2, ex_fset]
  refine ⟨_, _, rfl, by rw [fm_fx]; rfl, _, rfl, ?_⟩
  refine lc_mapA rowL rowT (fun Γ' K h => h) (fun r hr K hk => hk _ fun K2 q2 => ?_) (by simp; omega) ?_
  · simp only [ex_seq, ex_asg, ex_asgO, ex_ite, ex_nop, ex_ret, ex_retO, ex_retF, ex_app, ex_frz, ex_seti, ev, args_tup, List.set, List.getElem?_cons_zero, List.getElem?_cons_succ, q_val, q_own, q_bl, q_int, q_lst, part_non, part_int, bi_lenS, bi_lenL, bi_lenT, bi_lenC, bi_intI, bi_intB, bi_max2, bi_max3, bi_min2, cmp_lt, cmp_le, cmp_gt, cmp_ge, cmp_eqI, cmp_eqT, cmp_eqB, cmp_neI, cmp_neT, cmp_neB, cmp_inT, cmp_ninT, sqD_l, sqD_t, bi_tupL, bi_tupT, bi_listL, bi_listT, isN_non, isN_int, isN_lst, isN_tup, isN_ins, isi_int, isi_intB, isi_blB, isi_tup, isi_strS, cmp_is, cmp_isn, cmp_isB, cmp_isnB, bin_add, bin_sub, bin_mul, bin_fdiv, bin_mod, Vg.un_neg, idx_l0, idx_l1, idx_t0, idx_t1, idx_t2, idx_l2, isLT_l, isLT_t, count_str, bmTy, if_true, if_false, Bool.false_eq_true, Bool.not_true, Bool.not_false, true_and, and_true, decide_true, decide_false, wipeE, Tg.slots, List.length_map]
    exact checked_row (k := k) (h.row r hr) (by omega) (.inl rfl) q2
  · simp only [ex_seq, ex_asg, ex_asgO, ex_ite, ex_nop, ex_ret, ex_retO, ex_retF, ex_app, ex_frz, ex_seti, ev, args_tup, List.set, List.getElem?_cons_zero, List.getElem?_cons_succ, q_val, q_own, q_bl, q_int, q_lst, part_non, part_int, bi_lenS, bi_lenL, bi_lenT, bi_lenC, bi_intI, bi_intB, bi_max2, bi_max3, bi_min2, cmp_lt, cmp_le, cmp_gt, cmp_ge, cmp_eqI, cmp_eqT, cmp_eqB, cmp_neI, cmp_neT, cmp_neB, cmp_inT, cmp_ninT, sqD_l, sqD_t, bi_tupL, bi_tupT, bi_listL, bi_listT, isN_non, isN_int, isN_lst, isN_tup, isN_ins, isi_int, isi_intB, isi_blB, isi_tup, isi_strS, cmp_is, cmp_isn, cmp_isB, cmp_isnB, bin_add, bin_sub, bin_mul, bin_fdiv, bin_mod, Vg.un_neg, idx_l0, idx_l1, idx_t0, idx_t1, idx_t2, idx_l2, isLT_l, isLT_t, count_str, bmTy, if_true, if_false, Bool.false_eq_true, Bool.not_true, Bool.not_false, true_and, and_true, decide_true, decide_false, List.nil_append]
    refine ⟨_, _, rfl, by rw [fm_fx]; rfl, _, rfl, rfl, ?_⟩
    exact q
theorem fldF0 {a b c0 : DV} {R : DV → Prop} : (∃ c vs j d, DV.ins c_Family [a, b, c0] = DV.ins c vs ∧ (sem P k).fx c f_period = some j ∧ vs[j]? = some d ∧ R d) = R a := by
  refine propext ⟨fun ⟨c, vs, j, d, e, e1, e2, hr⟩ => ?_, fun hr => ⟨c_Family, [a, b, c0], 0, a, rfl, by rw [fm_fx]; rfl, rfl, hr⟩⟩
  cases e
  rw [fm_fx] at e1
  cases e1
  cases e2
  exact hr
theorem fldF1 {a b c0 : DV} {R : DV → Prop} : (∃ c vs j d, DV.ins c_Family [a, b, c0] = DV.ins c vs ∧ (sem P k).fx c f_fixed = some j ∧ vs[j]? = some d ∧ R d) = R b := by
  refine propext ⟨fun ⟨c, vs, j, d, e, e1, e2, hr⟩ => ?_, fun hr => ⟨c_Family, [a, b, c0], 1, b, rfl, by rw [fm_fx]; rfl, rfl, hr⟩⟩
  cases e
  rw [fm_fx] at e1
  cases e1
  cases e2
  exact hr
theorem fldF2 {a b c0 : DV} {R : DV → Prop} : (∃ c vs j d, DV.ins c_Family [a, b, c0] = DV.ins c vs ∧ (sem P k).fx c f_bands = some j ∧ vs[j]? = some d ∧ R d) = R c0 := by
  refine propext ⟨fun ⟨c, vs, j, d, e, e1, e2, hr⟩ => ?_, fun hr => ⟨c_Family, [a, b, c0], 2, c0, rfl, by rw [fm_fx]; rfl, rfl, hr⟩⟩
  cases e
  rw [fm_fx] at e1
  cases e1
  cases e2
  exact hr
/-- a language that may be a fixed one -/
def FixOk (per : Nat) (d : DV) : Prop := ∃ p c, d = .ins c_PeriodicSet [.str c, .str p] ∧ Canon p c p c ∧ 49 ∈ c ∧ c.length ∣ per ∧ p.length ≤ 12
theorem check_fixed {per : Nat} {d : DV} (h : FixOk per d) (hp : 0 < per) (hp4 : per ≤ 4) (q : Q .non) : (sem P (k + 2)).F i_check_fixed [nI per, d] Q := by
  have z := sz
  obtain ⟨p, c, rfl, hc, hi, hd, hl⟩ := h
  have hle := Nat.le_of_dvd hp hd
  have ne := hc.ne
  refine run_f rfl rfl rfl ?_
  show ex (sem P (k + 1)) (.seq (.ite _ _ _) (.ite _ _ _)) [some (.val (nI per)), some (.val (.ins c_PeriodicSet [.str c, .str p]))] (endsN Q)
  have e0 : (c.length : Int) ≠ 0 := by omega
  have e1 : decide (((per % c.length : Nat) : Int) = 0) = true := by rw [decide_eq_true_eq, Nat.mod_eq_zero_of_dvd hd]; rfl
  have e2 : decide ((12 : Int) < (p.length : Int)) = false := by rw [decide_eq_false_iff_not]; omega
  simp only [ex_seq, ex_asg, ex_asgO, ex_ite, ex_nop, ex_ret, ex_retO, ex_retF, ex_app, ex_frz, ex_seti, ev, args_tup, List.set, List.getElem?_cons_zero, List.getElem?_cons_succ, q_val, q_own, q_bl, q_int, q_lst, part_non, part_int, bi_lenS, bi_lenL, bi_lenT, bi_lenC, bi_intI, bi_intB, bi_max2, bi_max3, bi_min2, cmp_lt, cmp_le, cmp_gt, cmp_ge, cmp_eqI, cmp_eqT, cmp_eqB, cmp_neI, cmp_neT, cmp_neB, cmp_inT, cmp_ninT, sqD_l, sqD_t, bi_tupL, bi_tupT, bi_listL, bi_listT, isN_non, isN_int, isN_lst, isN_tup, isN_ins, isi_int, isi_intB, isi_blB, isi_tup, isi_strS, cmp_is, cmp_isn, cmp_isB, cmp_isnB, bin_add, bin_sub, bin_mul, bin_fdiv, bin_mod, Vg.un_neg, idx_l0, idx_l1, idx_t0, idx_t1, idx_t2, idx_l2, isLT_l, isLT_t, count_str, bmTy, if_true, if_false, Bool.false_eq_true, Bool.not_true, Bool.not_false, true_and, and_true, decide_true, decide_false, isi_ins]
  refine ⟨_, _, _, rfl, rfl, ps_is_infinite (k := k) ?_⟩
  simp only [ex_seq, ex_asg, ex_asgO, ex_ite, ex_nop, ex_ret, ex_retO, ex_retF, ex_app, ex_frz, ex_seti, ev, args_tup, List.set, List.getElem?_cons_zero, List.getElem?_cons_succ, q_val, q_own, q_bl, q_int, q_lst, part_non, part_int, bi_lenS, bi_lenL, bi_lenT, bi_lenC, bi_intI, bi_intB, bi_max2, bi_max3, bi_min2, cmp_lt, cmp_le, cmp_gt, cmp_ge, cmp_eqI, cmp_eqT, cmp_eqB, cmp_neI, cmp_neT, cmp_neB, cmp_inT, cmp_ninT, sqD_l, sqD_t, bi_tupL, bi_tupT, bi_listL, bi_listT, isN_non, isN_int, isN_lst, isN_tup, isN_ins, isi_int, isi_intB, isi_blB, isi_tup, isi_strS, cmp_is, cmp_isn, cmp_isB, cmp_isnB, bin_add, bin_sub, bin_mul, bin_fdiv, bin_mod, Vg.un_neg, idx_l0, idx_l1, idx_t0, idx_t1, idx_t2, idx_l2, isLT_l, isLT_t, count_str, bmTy, if_true, if_false, Bool.false_eq_true, Bool.not_true, Bool.not_false, true_and, and_true, decide_true, decide_false, hi, fld0, fld1]
  rw [fmod_nat ne]
  simp only [ex_seq, ex_asg, ex_asgO, ex_ite, ex_nop, ex_ret, ex_retO, ex_retF, ex_app, ex_frz, ex_seti, ev, args_tup, List.set, List.getElem?_cons_zero, List.getElem?_cons_succ, q_val, q_own, q_bl, q_int, q_lst, part_non, part_int, bi_lenS, bi_lenL, bi_lenT, bi_lenC, bi_intI, bi_intB, bi_max2, bi_max3, bi_min2, cmp_lt, cmp_le, cmp_gt, cmp_ge, cmp_eqI, cmp_eqT, cmp_eqB, cmp_neI, cmp_neT, cmp_neB, cmp_inT, cmp_ninT, sqD_l, sqD_t, bi_tupL, bi_tupT, bi_listL, bi_listT, isN_non, isN_int, isN_lst, isN_tup, isN_ins, isi_int, isi_intB, isi_blB, isi_tup, isi_strS, cmp_is, cmp_isn, cmp_isB, cmp_isnB, bin_add, bin_sub, bin_mul, bin_fdiv, bin_mod, Vg.un_neg, idx_l0, idx_l1, idx_t0, idx_t1, idx_t2, idx_l2, isLT_l, isLT_t, count_str, bmTy, if_true, if_false, Bool.false_eq_true, Bool.not_true, Bool.not_false, true_and, and_true, decide_true, decide_false, e0, e1, ne_eq, not_false_eq_true]
  refine ⟨by omega, by omega, ?_⟩
  simp only [ex_seq, ex_asg, ex_asgO, ex_ite, ex_nop, ex_ret, ex_retO, ex_retF, ex_app, ex_frz, ex_seti, ev, args_tup, List.set, List.getElem?_cons_zero, List.getElem?_cons_succ, q_val, q_own, q_bl, q_int, q_lst, part_non, part_int, bi_lenS, bi_lenL, bi_lenT, bi_lenC, bi_intI, bi_intB, bi_max2, bi_max3, bi_min2, cmp_lt, cmp_le, cmp_gt, cmp_ge, cmp_eqI, cmp_eqT, cmp_eqB, cmp_neI, cmp_neT, cmp_neB, cmp_inT, cmp_ninT, sqD_l, sqD_t, bi_tupL, bi_tupT, bi_listL, bi_listT, isN_non, isN_int, isN_lst, isN_tup, isN_ins, isi_int, isi_intB, isi_blB, isi_tup, isi_strS, cmp_is, cmp_isn, cmp_isB, cmp_isnB, bin_add, bin_sub, bin_mul, bin_fdiv, bin_mod, Vg.un_neg, idx_l0, idx_l1, idx_t0, idx_t1, idx_t2, idx_l2, isLT_l, isLT_t, count_str, bmTy, if_true, if_false, Bool.false_eq_true, Bool.not_true, Bool.not_false, true_and, and_true, decide_true, decide_false, e2]
  exact q
structure FamOk (per : Nat) (fs : List DV) (bs : List (List Rw)) : Prop where
  lo : 0 < per
  hi : per ≤ 4
  f6 : fs.length ≤ 6
  b2 : bs.length ≤ 2
  ne : 0 < fs.length + bs.length
  fx : ∀ d ∈ fs, FixOk per d
  bd : ∀ b ∈ bs, BandOk b ∧ b.length = per
def famD (per : Nat) (fs : List DV) (bs : List (List Rw)) : DV := .ins c_Family [nI per, .tup fs, .tup (bs.map bandD)]
theorem check_parts {per : Nat} {fs : List DV} {bs : List (List Rw)} {b1 b2 : Bool} (h : FamOk per fs bs) (q : Q .non) : (sem P (k + 3)).F i_check_parts [nI per, sqD b1 fs, sqD b2 (bs.map bandD)] Q := by
  have lo := h.lo
  have hi4 := h.hi
  have f6 := h.f6
  have b2' := h.b2
  have ne := h.ne
  refine run_f rfl rfl rfl ?_
  have e1 : decide ((1 : Int) ≤ (per : Int)) = true := by rw [decide_eq_true_eq]; omega
  have e2 : decide ((per : Int) ≤ 4) = true := by rw [decide_eq_true_eq]; omega
  have e3 : decide ((6 : Int) < (fs.length : Int)) = false := by rw [decide_eq_false_iff_not]; omega
  have e4 : decide ((2 : Int) < (bs.length : Int)) = false := by rw [decide_eq_false_iff_not]; omega
  have e5 : decide ((fs.length : Int) + (bs.length : Int) = 0) = false := by rw [decide_eq_false_iff_not]; omega
  have loops : ∀ a b : DV, itemsOf a = some fs → itemsOf b = some (bs.map bandD) → ex (sem P (k + 2)) (.seq (.for_ (.one 3) (.var 1) (.drop (.call i_check_fixed (.cons (.var 0) (.cons (.var 3) .nil)))))
      (.for_ (.one 4) (.var 2) (.ite (.bor (.bnot (.isi (.var 4) (.cls c_Band))) (.cmp .NotEq (.fld (.var 4) f_period) (.var 0))) .never .nop))) [some (.val (nI per)), some (.val a), some (.val b), none, none] (endsN Q) := fun a b ha hb => by
    rw [ex_seq]
    refine ex_for ?_
    simp only [ev, args_tup, List.set, List.getElem?_cons_zero, List.getElem?_cons_succ, q_val, q_own, q_bl, q_int, q_lst, part_non, part_int, bi_lenS, bi_lenL, bi_lenT, bi_lenC, bi_intI, bi_intB, bi_max2, bi_max3, bi_min2, cmp_lt, cmp_le, cmp_gt, cmp_ge, cmp_eqI, cmp_eqT, cmp_eqB, cmp_neI, cmp_neT, cmp_neB, cmp_inT, cmp_ninT, sqD_l, sqD_t, bi_tupL, bi_tupT, bi_listL, bi_listT, isN_non, isN_int, isN_lst, isN_tup, isN_ins, isi_int, isi_intB, isi_blB, isi_tup, isi_strS, cmp_is, cmp_isn, cmp_isB, cmp_isnB, bin_add, bin_sub, bin_mul, bin_fdiv, bin_mod, Vg.un_neg, idx_l0, idx_l1, idx_t0, idx_t1, idx_t2, idx_l2, isLT_l, isLT_t, count_str, bmTy, if_true, if_false, Bool.false_eq_true, Bool.not_true, Bool.not_false, true_and, and_true, decide_true, decide_false]
    refine ⟨_, ha, ?_⟩
    refine for_one (fun i Γ => ∃ o3, Γ = [some (.val (nI per)), some (.val a), some (.val b), o3, none]) ?_ ?_ ⟨_, rfl⟩
    · rintro i x Γ D' hx hi ⟨o, rfl⟩ e1 e2 e3 nx ct
      simp only [ex_seq, ex_asg, ex_asgO, ex_ite, ex_nop, ex_ret, ex_retO, ex_retF, ex_app, ex_frz, ex_seti, ev, args_tup, List.set, List.getElem?_cons_zero, List.getElem?_cons_succ, q_val, q_own, q_bl, q_int, q_lst, part_non, part_int, bi_lenS, bi_lenL, bi_lenT, bi_lenC, bi_intI, bi_intB, bi_max2, bi_max3, bi_min2, cmp_lt, cmp_le, cmp_gt, cmp_ge, cmp_eqI, cmp_eqT, cmp_eqB, cmp_neI, cmp_neT, cmp_neB, cmp_inT, cmp_ninT, sqD_l, sqD_t, bi_tupL, bi_tupT, bi_listL, bi_listT, isN_non, isN_int, isN_lst, isN_tup, isN_ins, isi_int, isi_intB, isi_blB, isi_tup, isi_strS, cmp_is, cmp_isn, cmp_isB, cmp_isnB, bin_add, bin_sub, bin_mul, bin_fdiv, bin_mod, Vg.un_neg, idx_l0, idx_l1, idx_t0, idx_t1, idx_t2, idx_l2, isLT_l, isLT_t, count_str, bmTy, if_true, if_false, Bool.false_eq_true, Bool.not_true, Bool.not_false, true_and, and_true, decide_true, decide_false, ex_drop]
      refine check_fixed (k := k) (h.fx _ (List.mem_of_getElem? hx)) lo hi4 ?_
      exact nx _ ⟨_, rfl⟩
    rintro Γ ⟨o3, rfl⟩
    refine ex_for ?_
    simp only [ev, args_tup, List.set, List.getElem?_cons_zero, List.getElem?_cons_succ, q_val, q_own, q_bl, q_int, q_lst, part_non, part_int, bi_lenS, bi_lenL, bi_lenT, bi_lenC, bi_intI, bi_intB, bi_max2, bi_max3, bi_min2, cmp_lt, cmp_le, cmp_gt, cmp_ge, cmp_eqI, cmp_eqT, cmp_eqB, cmp_neI, cmp_neT, cmp_neB, cmp_inT, cmp_ninT, sqD_l, sqD_t, bi_tupL, bi_tupT, bi_listL, bi_listT, isN_non, isN_int, isN_lst, isN_tup, isN_ins, isi_int, isi_intB, isi_blB, isi_tup, isi_strS, cmp_is, cmp_isn, cmp_isB, cmp_isnB, bin_add, bin_sub, bin_mul, bin_fdiv, bin_mod, Vg.un_neg, idx_l0, idx_l1, idx_t0, idx_t1, idx_t2, idx_l2, isLT_l, isLT_t, count_str, bmTy, if_true, if_false, Bool.false_eq_true, Bool.not_true, Bool.not_false, true_and, and_true, decide_true, decide_false]
    refine ⟨_, hb, ?_⟩
    refine for_one (fun i Γ => ∃ o4, Γ = [some (.val (nI per)), some (.val a), some (.val b), o3, o4]) ?_ ?_ ⟨_, rfl⟩
    · rintro i x Γ D' hx hi ⟨o, rfl⟩ e1 e2 e3 nx ct
      rw [List.length_map] at hi
      rw [List.getElem?_map, List.getElem?_eq_getElem hi] at hx
      cases hx
      obtain ⟨_, bl⟩ := h.bd _ (List.getElem_mem hi)
      simp only [ex_seq, ex_asg, ex_asgO, ex_ite, ex_nop, ex_ret, ex_retO, ex_retF, ex_app, ex_frz, ex_seti, ev, args_tup, List.set, List.getElem?_cons_zero, List.getElem?_cons_succ, q_val, q_own, q_bl, q_int, q_lst, part_non, part_int, bi_lenS, bi_lenL, bi_lenT, bi_lenC, bi_intI, bi_intB, bi_max2, bi_max3, bi_min2, cmp_lt, cmp_le, cmp_gt, cmp_ge, cmp_eqI, cmp_eqT, cmp_eqB, cmp_neI, cmp_neT, cmp_neB, cmp_inT, cmp_ninT, sqD_l, sqD_t, bi_tupL, bi_tupT, bi_listL, bi_listT, isN_non, isN_int, isN_lst, isN_tup, isN_ins, isi_int, isi_intB, isi_blB, isi_tup, isi_strS, cmp_is, cmp_isn, cmp_isB, cmp_isnB, bin_add, bin_sub, bin_mul, bin_fdiv, bin_mod, Vg.un_neg, idx_l0, idx_l1, idx_t0, idx_t1, idx_t2, idx_l2, isLT_l, isLT_t, count_str, bmTy, if_true, if_false, Bool.false_eq_true, Bool.not_true, Bool.not_false, true_and, and_true, decide_true, decide_false, bandD, isi_band, fldB0, bl]
      exact nx _ ⟨_, rfl⟩
    rintro Γ ⟨o4, rfl⟩
    exact q
  show ex (sem P (k + 2)) (.seq (.ite _ _ _) (.seq (.ite _ _ _) (.seq (.ite _ _ _) (.seq (.for_ _ _ _) (.for_ _ _ _))))) [some (.val (nI per)), some (.val (sqD b1 fs)), some (.val (sqD b2 (bs.map bandD))), none, none] (endsN Q)
  cases b1 <;> cases b2 <;> (
    simp only [ex_seq, ex_asg, ex_asgO, ex_ite, ex_nop, ex_ret, ex_retO, ex_retF, ex_app, ex_frz, ex_seti, ev, args_tup, List.set, List.getElem?_cons_zero, List.getElem?_cons_succ, q_val, q_own, q_bl, q_int, q_lst, part_non, part_int, bi_lenS, bi_lenL, bi_lenT, bi_lenC, bi_intI, bi_intB, bi_max2, bi_max3, bi_min2, cmp_lt, cmp_le, cmp_gt, cmp_ge, cmp_eqI, cmp_eqT, cmp_eqB, cmp_neI, cmp_neT, cmp_neB, cmp_inT, cmp_ninT, sqD_l, sqD_t, bi_tupL, bi_tupT, bi_listL, bi_listT, isN_non, isN_int, isN_lst, isN_tup, isN_ins, isi_int, isi_intB, isi_blB, isi_tup, isi_strS, cmp_is, cmp_isn, cmp_isB, cmp_isnB, bin_add, bin_sub, bin_mul, bin_fdiv, bin_mod, Vg.un_neg, idx_l0, idx_l1, idx_t0, idx_t1, idx_t2, idx_l2, isLT_l, isLT_t, count_str, bmTy, if_true, if_false, Bool.false_eq_true, Bool.not_true, Bool.not_false, true_and, and_true, decide_true, decide_false, e1, e2, e3, e4, e5, List.length_map]
    exact loops _ _ rfl rfl)
theorem fam_init {per : Nat} {fs : List DV} {bs : List (List Rw)} {b1 b2 : Bool} (h : FamOk per fs bs) (q : Q (famD per fs bs)) : (sem P (k + 4)).I c_Family [nI per, sqD b1 fs, sqD b2 (bs.map bandD)] Q := by
  refine run_i rfl rfl ?_
  show ex (sem P (k + 3)) (.seq _ (.seq _ (.seq _ _))) [some (.obj c_Family []), some (.val (nI per)), some (.val (sqD b1 fs)), some (.val (sqD b2 (bs.map bandD)))] _
  simp only [ex_seq, ex_asg, ex_asgO, ex_ite, ex_nop, ex_ret, ex_retO, ex_retF, ex_app, ex_frz, ex_seti, ev, args_tup, List.set, List.getElem?_cons_zero, List.getElem?_cons_succ, q_val, q_own, q_bl, q_int, q_lst, part_non, part_int, bi_lenS, bi_lenL, bi_lenT, bi_lenC, bi_intI, bi_intB, bi_max2, bi_max3, bi_min2, cmp_lt, cmp_le, cmp_gt, cmp_ge, cmp_eqI, cmp_eqT, cmp_eqB, cmp_neI, cmp_neT, cmp_neB, cmp_inT, cmp_ninT, sqD_l, sqD_t, bi_tupL, bi_tupT, bi_listL, bi_listT, isN_non, isN_int, isN_lst, isN_tup, isN_ins, isi_int, isi_intB, isi_blB, isi_tup, isi_strS, cmp_is, cmp_isn, cmp_isB, cmp_isnB, bin_add, bin_sub, bin_mul, bin_fdiv, bin_mod, Vg.un_neg, idx_l0, idx_l1, idx_t0, idx_t1, idx_t2, idx_l2, isLT_l, isLT_t, count_str, bmTy, if_true, if_false, Bool.false_eq_true, Bool.not_true, Bool.not_false, true_and, and_true, decide_true, decide_false, ex_fset, ex_drop]
  refine check_parts (k := k) h ?_
  refine ⟨_, _, rfl, by rw [fm_fx]; rfl, ?_⟩
  have t : ∀ {b : Bool} {xs : List DV} {R : DV → Prop}, R (.tup xs) → biS .tuple [sqD b xs] R := fun {b} {xs} {R} r => by cases b <;> exact r
  refine t ⟨_, _, rfl, by rw [fm_fx]; rfl, ?_⟩
  refine t ⟨_, _, rfl, by rw [fm_fx]; rfl, ?_⟩
  exact ⟨_, rfl, rfl, q⟩
theorem bits_strOk {s : List Nat} (h : Bits s) : PyData.strOk ⟨s.toArray⟩ = true := by
  unfold PyData.strOk
  rw [← Array.all_toList, List.all_eq_true]
  intro x hx
  rcases h x hx with rfl | rfl <;> decide
theorem rowT_dat {n per : Nat} : ∀ {rs : List Rw}, (∀ r ∈ rs, RowOk per r) → datDs (n + 1) (rs.map rowT) = true
  | [], _ => by simp [datDs]
  | r :: t, h => by
    have ok := h r (List.mem_cons_self ..)
    rw [List.map_cons, datDs, rowT_dat (fun r hr => h r (List.mem_cons_of_mem _ hr)), Bool.and_true]
    have zm : Bits [r.2.1] := fun x hx => by rw [List.mem_singleton.1 hx]; exact ok.m
    have a := bits_strOk ok.a
    have b := bits_strOk ok.b
    have c := bits_strOk zm
    cases n <;> simp [rowT, datD, datDs, a, b, c]
theorem band_eq {rs : List Rw} (h : BandOk rs) (q : Q (.bl true)) : (sem P (k + 1)).F i_Band___eq__ [bandD rs, bandD rs] Q := by
  refine run_f rfl rfl rfl ?_
  show ex (sem P k) (.ret _) [some (.val (bandD rs)), some (.val (bandD rs))] (endsN Q)
  simp only [ex_seq, ex_asg, ex_asgO, ex_ite, ex_nop, ex_ret, ex_retO, ex_retF, ex_app, ex_frz, ex_seti, ev, args_tup, List.set, List.getElem?_cons_zero, List.getElem?_cons_succ, q_val, q_own, q_bl, q_int, q_lst, part_non, part_int, bi_lenS, bi_lenL, bi_lenT, bi_lenC, bi_intI, bi_intB, bi_max2, bi_max3, bi_min2, cmp_lt, cmp_le, cmp_gt, cmp_ge, cmp_eqI, cmp_eqT, cmp_eqB, cmp_neI, cmp_neT, cmp_neB, cmp_inT, cmp_ninT, sqD_l, sqD_t, bi_tupL, bi_tupT, bi_listL, bi_listT, isN_non, isN_int, isN_lst, isN_tup, isN_ins, isi_int, isi_intB, isi_blB, isi_tup, isi_strS, cmp_is, cmp_isn, cmp_isB, cmp_isnB, bin_add, bin_sub, bin_mul, bin_fdiv, bin_mod, Vg.un_neg, idx_l0, idx_l1, idx_t0, idx_t1, idx_t2, idx_l2, isLT_l, isLT_t, count_str, bmTy, if_true, if_false, Bool.false_eq_true, Bool.not_true, Bool.not_false, true_and, and_true, decide_true, decide_false, bandD, isi_band, fldB1]
  refine cmp_eq_refl ?_ ⟨true, rfl, q⟩
  rw [datD]
  exact rowT_dat (n := 62) h.row
theorem band_ne {rs : List Rw} (h : BandOk rs) (q : Q (.bl false)) : cmpS (sem P (k + 1)) .NotEq (bandD rs) (bandD rs) Q :=
  .inr (.inr ⟨c_Band, _, _, i_Band___eq__, rfl, rfl, rfl, band_eq (k := k) h ⟨true, rfl, q⟩⟩)
theorem PS_within {d d' : DV} {f g : Nat → Bool} {L z L' z' : Nat} (h : PS d f L z) (h' : PS d' g L' z') (hL : 0 < L) (hL' : 0 < L') (hL2 : L ≤ 300) (hL3 : L' ≤ 300) (hz : z ≤ 100000) (hz' : z' ≤ 100000) (q : ∀ b : Bool, (b = true ↔ Sub f g) → Q (.bl b)) : (sem P (k + 3)).F i_PeriodicSet_within [d, d'] Q := by
  obtain ⟨p, c, rfl, h⟩ := h
  obtain ⟨p', c', rfl, h'⟩ := h'
  have := h.le
  have := h'.le
  have := Nat.le_of_dvd hL h.dv
  have := Nat.le_of_dvd hL' h'.dv
  refine ps_within (k := k) h.cn.bp h.cn.bc h'.cn.bp h'.cn.bc h.cn.ne h'.cn.ne (by omega) (by omega) (by omega) (by omega) fun b hb => q b ?_
  rw [hb, show has p c = f from funext h.fn, show has p' c' = g from funext h'.fn]
end Gk07


set_option Elab.async false
set_option linter.all false
set_option maxRecDepth 100000
set_option maxHeartbeats 8000000
namespace Gk07
open PySem L2 Vg Gk
variable {k : Nat} {Q : DV → Prop}
section
variable {per res N x : Nat} {r : Rw}
theorem lane_big (hp : 0 < per) : x < N + per * ((x - N) / per + 1) := by
  have := Nat.lt_mul_div_succ (x - N) hp
  omega
theorem lane_eq (h : x % per = N % per) (hx : N ≤ x) : ∃ k, x = N + per * k := by
  have := Nat.sub_mod_eq_zero_of_mod_eq h
  refine ⟨(x - N) / per, ?_⟩
  have := Nat.div_add_mod (x - N) per
  omega
theorem lg_lt {n : Nat} (h : x < n) : lg per r n x = decide (r.1.getD (x % per) 0 = 49) := by
  unfold lg
  rw [if_pos h]
theorem lg_eq {n : Nat} (h : x = n) : lg per r n x = decide (r.2.1 = 49) := by
  unfold lg
  rw [if_neg (by omega), if_pos h]
theorem lg_gt {n : Nat} (h : n < x) : lg per r n x = decide (r.2.2.getD (x % per) 0 = 49) := by
  unfold lg
  rw [if_neg (by omega), if_neg (by omega)]
theorem getD_range {n i : Nat} {f : Nat → Nat} (h : i < n) : ((List.range n).map f).getD i 0 = f i := by
  rw [List.getD_eq_getElem?_getD, List.getElem?_map, List.getElem?_range h]
  rfl
theorem tail_iff (ok : RowOk per r) (hp : 0 < per) (hN : N % per = res) : lg per (tailRow per res r) N x = true ↔ ∀ k, lg per r (N + per * k) x = true := by
  have hm := Nat.mod_lt x hp
  rcases Nat.lt_trichotomy x N with h | h | h
  · rw [lg_lt h]
    constructor
    · intro e k
      rw [lg_lt (by omega)]
      exact e
    · intro e
      have := e 0
      rw [lg_lt (by omega)] at this
      exact this
  · subst h
    rw [lg_eq rfl]
    show decide (t01 _ = 49) = true ↔ _
    rw [t01_49, Bool.and_eq_true]
    constructor
    · rintro ⟨e1, e2⟩ k
      cases k with
      | zero => rw [lg_eq (by omega)]; exact e2
      | succ k =>
        rw [lg_lt (by have := Nat.le_mul_of_pos_right per (show 0 < k + 1 by omega); omega), hN]
        exact e1
    · intro e
      have e0 := e 0
      have e1 := e 1
      rw [lg_eq (by omega)] at e0
      rw [lg_lt (by omega), hN] at e1
      exact ⟨e1, e0⟩
  · rw [lg_gt h]
    rw [show (tailRow per res r).2.2.getD (x % per) 0 = t01 (tb res r (x % per)) from getD_range hm, t01_49]
    unfold tb
    rw [Bool.and_eq_true, Bool.and_eq_true, Bool.not_eq_true', Bool.and_eq_false_iff, decide_eq_false_iff_not, decide_eq_false_iff_not]
    constructor
    · rintro ⟨⟨e1, e2⟩, e3⟩ k
      rcases Nat.lt_trichotomy x (N + per * k) with g | g | g
      · rw [lg_lt g]; exact e1
      · rw [lg_eq g]
        have : x % per = res := by rw [g, Nat.add_mul_mod_self_left, hN]
        rcases ok.m with m | m
        · rcases e3 with e3 | e3
          · exact absurd this e3
          · exact absurd m e3
        · rw [m]; rfl
      · rw [lg_gt g]; exact e2
    · intro e
      have e1 := e ((x - N) / per + 1)
      rw [lg_lt (lane_big hp)] at e1
      have e0 := e 0
      rw [lg_gt (by omega)] at e0
      refine ⟨⟨e1, e0⟩, ?_⟩
      by_cases g : x % per = res
      · right
        obtain ⟨k, hk⟩ := lane_eq (N := N) (g.trans hN.symm) (by omega)
        have := e k
        rw [lg_eq hk] at this
        intro m
        rw [m] at this
        exact absurd this (by decide)
      · exact .inl g
theorem spr_iff (ok : RowOk per r) (hp : 0 < per) (hN : N % per = res) : lg per (sprRow per res r) N x = true ↔ ∃ k, lg per r (N + per * k) x = true := by
  have hm := Nat.mod_lt x hp
  rcases Nat.lt_trichotomy x N with h | h | h
  · rw [lg_lt h]
    constructor
    · intro e
      refine ⟨0, ?_⟩
      rw [lg_lt (by omega)]
      exact e
    · rintro ⟨k, e⟩
      rw [lg_lt (by omega)] at e
      exact e
  · subst h
    rw [lg_eq rfl]
    show decide (t01 _ = 49) = true ↔ _
    rw [t01_49, Bool.or_eq_true]
    constructor
    · rintro (e | e)
      · refine ⟨1, ?_⟩
        rw [lg_lt (by omega), hN]
        exact e
      · refine ⟨0, ?_⟩
        rw [lg_eq (by omega)]
        exact e
    · rintro ⟨k, e⟩
      cases k with
      | zero => rw [lg_eq (by omega)] at e; exact .inr e
      | succ k =>
        rw [lg_lt (by have := Nat.le_mul_of_pos_right per (show 0 < k + 1 by omega); omega), hN] at e
        exact .inl e
  · rw [lg_gt h]
    rw [show (sprRow per res r).2.2.getD (x % per) 0 = t01 (sb res r (x % per)) from getD_range hm, t01_49]
    unfold sb
    rw [Bool.or_eq_true, Bool.or_eq_true, Bool.and_eq_true]
    constructor
    · rintro ((e | e) | ⟨e1, e2⟩)
      · refine ⟨(x - N) / per + 1, ?_⟩
        rw [lg_lt (lane_big hp)]
        exact e
      · refine ⟨0, ?_⟩
        rw [lg_gt (by omega)]
        exact e
      · obtain ⟨k, hk⟩ := lane_eq (N := N) ((of_decide_eq_true e1).trans hN.symm) (by omega)
        refine ⟨k, ?_⟩
        rw [lg_eq hk]
        exact e2
    · rintro ⟨k, e⟩
      rcases Nat.lt_trichotomy x (N + per * k) with g | g | g
      · rw [lg_lt g] at e; exact .inl (.inl e)
      · rw [lg_eq g] at e
        have : x % per = res := by rw [g, Nat.add_mul_mod_self_left, hN]
        exact .inr ⟨decide_eq_true this, e⟩
      · rw [lg_gt g] at e; exact .inl (.inr e)
/-- the numbers up to beyond x decide all -/
theorem lane_far (hp : 0 < per) {k : Nat} (h : (x - N) / per + 3 ≤ k) : lg per r (N + per * k) x = lg per r (N + per * ((x - N) / per + 1)) x := by
  have h1 := lane_big (N := N) (x := x) hp
  have h2 : per * ((x - N) / per + 1) ≤ per * k := Nat.mul_le_mul_left _ (by omega)
  rw [lg_lt h1, lg_lt (by omega)]
theorem tail_have (ok : RowOk per r) (hp : 0 < per) (hN : N % per = res) : (!decide (false ∈ (List.range ((x - N) / per + 3)).map fun k => lg per r (N + per * k) x)) = lg per (tailRow per res r) N x := by
  rw [Bool.eq_iff_iff, tail_iff ok hp hN, Bool.not_eq_true', decide_eq_false_iff_not]
  constructor
  · intro h k
    by_cases hk : k < (x - N) / per + 3
    · rw [← Bool.not_eq_false]
      exact fun e => h (List.mem_map.2 ⟨k, List.mem_range.2 hk, e⟩)
    · rw [lane_far hp (by omega), ← Bool.not_eq_false]
      exact fun e => h (List.mem_map.2 ⟨_, List.mem_range.2 (by omega), e⟩)
  · intro h e
    obtain ⟨k, _, e⟩ := List.mem_map.1 e
    rw [h k] at e
    cases e
theorem spr_have (ok : RowOk per r) (hp : 0 < per) (hN : N % per = res) : decide (true ∈ (List.range ((x - N) / per + 3)).map fun k => lg per r (N + per * k) x) = lg per (sprRow per res r) N x := by
  rw [Bool.eq_iff_iff, spr_iff ok hp hN, decide_eq_true_eq]
  constructor
  · intro e
    obtain ⟨k, _, e⟩ := List.mem_map.1 e
    exact ⟨k, e⟩
  · rintro ⟨k, e⟩
    by_cases hk : k < (x - N) / per + 3
    · exact List.mem_map.2 ⟨k, List.mem_range.2 hk, e⟩
    · rw [lane_far hp (by omega)] at e
      exact List.mem_map.2 ⟨_, List.mem_range.2 (by omega), e⟩
theorem lane_uniq {s N M : Nat} (h1 : s ≤ N) (h2 : N < s + per) (g1 : s ≤ M) (g2 : M < s + per) (e : N % per = M % per) : N = M := by
  rcases Nat.le_total N M with h | h
  · obtain ⟨k, hk⟩ := lane_eq (x := M) (N := N) e.symm h
    cases k with
    | zero => omega
    | succ k => have := Nat.le_mul_of_pos_right per (show 0 < k + 1 by omega); omega
  · obtain ⟨k, hk⟩ := lane_eq (x := N) (N := M) e h
    cases k with
    | zero => omega
    | succ k => have := Nat.le_mul_of_pos_right per (show 0 < k + 1 by omega); omega
end
/-- start + int(r - start) % period -/
theorem lane_first {per r s : Nat} (hp : 0 < per) : ∃ N t : Nat, ((r : Int) - (s : Int)).fmod (per : Int) = (t : Int) ∧ N = s + t ∧ s ≤ N ∧ N < s + per ∧ N % per = r % per := by
  obtain ⟨t, ht, htl⟩ := fmod_ex ((r : Int) - (s : Int)) hp
  refine ⟨s + t, t, ht, rfl, by omega, by omega, ?_⟩
  have h1 := Int.fmod_add_mul_fdiv ((r : Int) - (s : Int)) (per : Int)
  rw [ht] at h1
  have h2 : ((s + t : Nat) : Int) % (per : Int) = (r : Int) % (per : Int) := by
    have : ((s + t : Nat) : Int) = (r : Int) + (per : Int) * (-(((r : Int) - (s : Int)).fdiv (per : Int))) := by
      rw [Int.mul_neg]
      omega
    rw [this, Int.add_mul_emod_self_left]
  omega
theorem law_is_set {d : DV} {f : Nat → Bool} {L z : Nat} (h : PS d f L z) (hL : L ∣ 12) (hz : z ≤ 6000) (q : Q (.bl true)) : (sem P (k + 1)).F i__law_is_set [d] Q := by
  have zz := sz
  obtain ⟨p, c, rfl, h⟩ := h
  have a1 := h.le
  have ne := h.cn.ne
  have dv := Nat.dvd_trans h.dv hL
  have a2 := Nat.le_of_dvd (by decide : 0 < 12) dv
  refine run_f rfl rfl rfl ?_
  show ex (sem P k) (.seq (.ite _ _ _) (.seq (.ite _ _ _) (.ret _))) [some (.val (.ins c_PeriodicSet [.str c, .str p])), none] (endsN Q)
  have e1 : decide ((6000 : Int) < (p.length : Int)) = false := by rw [decide_eq_false_iff_not]; omega
  have e2 : decide ((c.length : Int) = 0) = false := by rw [decide_eq_false_iff_not]; omega
  have e3 : decide ((12 : Int) < (c.length : Int)) = false := by rw [decide_eq_false_iff_not]; omega
  have e0 : (c.length : Int) ≠ 0 := by omega
  have e4 : decide (((12 : Int).fmod (c.length : Int)) = 0) = true := by
    rw [decide_eq_true_eq, show (12 : Int) = ((12 : Nat) : Int) from rfl, fmod_nat ne, Nat.mod_eq_zero_of_dvd dv]
    rfl
  simp only [ex_seq, ex_asg, ex_asgO, ex_ite, ex_nop, ex_ret, ex_retO, ex_retF, ex_app, ex_frz, ex_seti, ev, args_tup, List.set, List.getElem?_cons_zero, List.getElem?_cons_succ, q_val, q_own, q_bl, q_int, q_lst, part_non, part_int, bi_lenS, bi_lenL, bi_lenT, bi_lenC, bi_intI, bi_intB, bi_max2, bi_max3, bi_min2, cmp_lt, cmp_le, cmp_gt, cmp_ge, cmp_eqI, cmp_eqT, cmp_eqB, cmp_neI, cmp_neT, cmp_neB, cmp_inT, cmp_ninT, sqD_l, sqD_t, bi_tupL, bi_tupT, bi_listL, bi_listT, isN_non, isN_int, isN_lst, isN_tup, isN_ins, isi_int, isi_intB, isi_blB, isi_tup, isi_strS, cmp_is, cmp_isn, cmp_isB, cmp_isnB, bin_add, bin_sub, bin_mul, bin_fdiv, bin_mod, Vg.un_neg, idx_l0, idx_l1, idx_t0, idx_t1, idx_t2, idx_l2, isLT_l, isLT_t, count_str, bmTy, if_true, if_false, Bool.false_eq_true, Bool.not_true, Bool.not_false, true_and, and_true, decide_true, decide_false, isi_ins, fld0, fld1, e1, e2, e3, e4, e0, ne_eq, not_false_eq_true, bin_cat]
  refine ⟨by omega, by omega, by omega, by omega, by omega, _, rfl, ?_⟩
  refine lc_filtA (fun x : Nat => .str [x]) (fun x => .str [x]) (fun x => !decide (x ∈ [48, 49])) (fun x hx K hk => hk _ (fun K2 q2 => ?_) (fun K2 q2 => ?_)) (by simp; omega) ?_
  · simp only [ex_seq, ex_asg, ex_asgO, ex_ite, ex_nop, ex_ret, ex_retO, ex_retF, ex_app, ex_frz, ex_seti, ev, args_tup, List.set, List.getElem?_cons_zero, List.getElem?_cons_succ, q_val, q_own, q_bl, q_int, q_lst, part_non, part_int, bi_lenS, bi_lenL, bi_lenT, bi_lenC, bi_intI, bi_intB, bi_max2, bi_max3, bi_min2, cmp_lt, cmp_le, cmp_gt, cmp_ge, cmp_eqI, cmp_eqT, cmp_eqB, cmp_neI, cmp_neT, cmp_neB, cmp_inT, cmp_ninT, sqD_l, sqD_t, bi_tupL, bi_tupT, bi_listL, bi_listT, isN_non, isN_int, isN_lst, isN_tup, isN_ins, isi_int, isi_intB, isi_blB, isi_tup, isi_strS, cmp_is, cmp_isn, cmp_isB, cmp_isnB, bin_add, bin_sub, bin_mul, bin_fdiv, bin_mod, Vg.un_neg, idx_l0, idx_l1, idx_t0, idx_t1, idx_t2, idx_l2, isLT_l, isLT_t, count_str, bmTy, if_true, if_false, Bool.false_eq_true, Bool.not_true, Bool.not_false, true_and, and_true, decide_true, decide_false, wipeE, Tg.slots]
    exact q2
  · simp only [ex_seq, ex_asg, ex_asgO, ex_ite, ex_nop, ex_ret, ex_retO, ex_retF, ex_app, ex_frz, ex_seti, ev, args_tup, List.set, List.getElem?_cons_zero, List.getElem?_cons_succ, q_val, q_own, q_bl, q_int, q_lst, part_non, part_int, bi_lenS, bi_lenL, bi_lenT, bi_lenC, bi_intI, bi_intB, bi_max2, bi_max3, bi_min2, cmp_lt, cmp_le, cmp_gt, cmp_ge, cmp_eqI, cmp_eqT, cmp_eqB, cmp_neI, cmp_neT, cmp_neB, cmp_inT, cmp_ninT, sqD_l, sqD_t, bi_tupL, bi_tupT, bi_listL, bi_listT, isN_non, isN_int, isN_lst, isN_tup, isN_ins, isi_int, isi_intB, isi_blB, isi_tup, isi_strS, cmp_is, cmp_isn, cmp_isB, cmp_isnB, bin_add, bin_sub, bin_mul, bin_fdiv, bin_mod, Vg.un_neg, idx_l0, idx_l1, idx_t0, idx_t1, idx_t2, idx_l2, isLT_l, isLT_t, count_str, bmTy, if_true, if_false, Bool.false_eq_true, Bool.not_true, Bool.not_false, true_and, and_true, decide_true, decide_false, wipeE, Tg.slots]
    exact q2
  have e5 : (p ++ c).filter (fun x => !decide (x ∈ [48, 49])) = [] := by
    rw [List.filter_eq_nil_iff]
    intro x hx
    have : x = 48 ∨ x = 49 := bits_app h.cn.bp h.cn.bc x hx
    rcases this with rfl | rfl <;> decide
  rw [e5]
  simp only [ex_seq, ex_asg, ex_asgO, ex_ite, ex_nop, ex_ret, ex_retO, ex_retF, ex_app, ex_frz, ex_seti, ev, args_tup, List.set, List.getElem?_cons_zero, List.getElem?_cons_succ, q_val, q_own, q_bl, q_int, q_lst, part_non, part_int, bi_lenS, bi_lenL, bi_lenT, bi_lenC, bi_intI, bi_intB, bi_max2, bi_max3, bi_min2, cmp_lt, cmp_le, cmp_gt, cmp_ge, cmp_eqI, cmp_eqT, cmp_eqB, cmp_neI, cmp_neT, cmp_neB, cmp_inT, cmp_ninT, sqD_l, sqD_t, bi_tupL, bi_tupT, bi_listL, bi_listT, isN_non, isN_int, isN_lst, isN_tup, isN_ins, isi_int, isi_intB, isi_blB, isi_tup, isi_strS, cmp_is, cmp_isn, cmp_isB, cmp_isnB, bin_add, bin_sub, bin_mul, bin_fdiv, bin_mod, Vg.un_neg, idx_l0, idx_l1, idx_t0, idx_t1, idx_t2, idx_l2, isLT_l, isLT_t, count_str, bmTy, if_true, if_false, Bool.false_eq_true, Bool.not_true, Bool.not_false, true_and, and_true, decide_true, decide_false, List.map_nil, List.nil_append, List.length_nil]
  exact q
theorem law_numbers {per r s x : Nat} (hp : 0 < per) (hp4 : per ≤ 1000000) (hx : x ≤ 10000000) (q : ∀ N, s ≤ N → N < s + per → N % per = r % per → Q (.lst ((List.range ((x - N) / per + 3)).map fun k => nI (N + per * k)))) : (sem P (k + 1)).F i__law_numbers [nI per, nI r, nI s, nI x] Q := by
  have zz := sz
  refine run_f rfl rfl rfl ?_
  show ex (sem P k) (.seq _ (.ret _)) [some (.val (nI per)), some (.val (nI r)), some (.val (nI s)), some (.val (nI x)), none, none] (endsN Q)
  obtain ⟨N, t, ht, hN, h1, h2, h3⟩ := lane_first (per := per) (r := r) (s := s) hp
  have e0 : (per : Int) ≠ 0 := by omega
  have eN : ((s : Int) + (t : Int)) = ((N : Nat) : Int) := by omega
  have em : (if ((x : Int) - (N : Int)) > 0 then ((x : Int) - (N : Int)) else 0) = ((x - N : Nat) : Int) := by
    split <;> omega
  simp only [ex_seq, ex_asg, ex_asgO, ex_ite, ex_nop, ex_ret, ex_retO, ex_retF, ex_app, ex_frz, ex_seti, ev, args_tup, List.set, List.getElem?_cons_zero, List.getElem?_cons_succ, q_val, q_own, q_bl, q_int, q_lst, part_non, part_int, bi_lenS, bi_lenL, bi_lenT, bi_lenC, bi_intI, bi_intB, bi_max2, bi_max3, bi_min2, cmp_lt, cmp_le, cmp_gt, cmp_ge, cmp_eqI, cmp_eqT, cmp_eqB, cmp_neI, cmp_neT, cmp_neB, cmp_inT, cmp_ninT, sqD_l, sqD_t, bi_tupL, bi_tupT, bi_listL, bi_listT, isN_non, isN_int, isN_lst, isN_tup, isN_ins, isi_int, isi_intB, isi_blB, isi_tup, isi_strS, cmp_is, cmp_isn, cmp_isB, cmp_isnB, bin_add, bin_sub, bin_mul, bin_fdiv, bin_mod, Vg.un_neg, idx_l0, idx_l1, idx_t0, idx_t1, idx_t2, idx_l2, isLT_l, isLT_t, count_str, bmTy, if_true, if_false, Bool.false_eq_true, Bool.not_true, Bool.not_false, true_and, and_true, decide_true, decide_false, e0, ne_eq, not_false_eq_true, ht, eN, em]
  rw [fdiv_nat]
  have hd : (x - N) / per ≤ x - N := Nat.div_le_self _ _
  have qq := q N h1 h2 h3
  have c0 : ((per : Int)).natAbs < 2 ^ 64 := by rw [Int.natAbs_natCast]; omega
  generalize (x - N) / per = m at hd qq
  refine ⟨⟨e0, c0⟩, by omega, by omega, _, rfl, ?_⟩
  rw [show (((m : Int) + 3).toNat) = m + 3 by omega]
  refine lc_mapA (fun x : Nat => nI x) (fun k => nI (N + per * k)) (fun Γ' K h => h) (fun k hk K hK => hK _ fun K2 q2 => ?_) (by simp; omega) ?_
  · have hk2 := List.mem_range.1 hk
    simp only [ex_seq, ex_asg, ex_asgO, ex_ite, ex_nop, ex_ret, ex_retO, ex_retF, ex_app, ex_frz, ex_seti, ev, args_tup, List.set, List.getElem?_cons_zero, List.getElem?_cons_succ, q_val, q_own, q_bl, q_int, q_lst, part_non, part_int, bi_lenS, bi_lenL, bi_lenT, bi_lenC, bi_intI, bi_intB, bi_max2, bi_max3, bi_min2, cmp_lt, cmp_le, cmp_gt, cmp_ge, cmp_eqI, cmp_eqT, cmp_eqB, cmp_neI, cmp_neT, cmp_neB, cmp_inT, cmp_ninT, sqD_l, sqD_t, bi_tupL, bi_tupT, bi_listL, bi_listT, isN_non, isN_int, isN_lst, isN_tup, isN_ins, isi_int, isi_intB, isi_blB, isi_tup, isi_strS, cmp_is, cmp_isn, cmp_isB, cmp_isnB, bin_add, bin_sub, bin_mul, bin_fdiv, bin_mod, Vg.un_neg, idx_l0, idx_l1, idx_t0, idx_t1, idx_t2, idx_l2, isLT_l, isLT_t, count_str, bmTy, if_true, if_false, Bool.false_eq_true, Bool.not_true, Bool.not_false, true_and, and_true, decide_true, decide_false, wipeE, Tg.slots]
    refine ⟨.inl ⟨by omega, by omega⟩, ?_⟩
    rw [show ((N : Int) + (per : Int) * (k : Int)) = ((N + per * k : Nat) : Int) by rw [Int.natCast_add, Int.natCast_mul]]
    exact q2
  · rw [List.nil_append]
    exact qq
theorem law_band_line {rs : List Rw} {n : Nat} {r : Rw} (h : BandOk rs) (hr : rs[n % rs.length]? = some r) (hn : n ≤ 1000000) {dd : DV} (q : Q (.lst [.str (ln0 rs.length r n), .str r.2.2])) : (sem P (k + 1)).F i__law_band_line [.lst [nI rs.length, dd, .lst [.lst (rs.map rowL)]], .int 0, nI n] Q := by
  have zz := sz
  have lo := h.lo
  have hi := h.hi
  have ok := h.row r (List.mem_of_getElem? hr)
  have e0 : (rs.length : Int) ≠ 0 := by omega
  refine run_f rfl rfl rfl ?_
  show ex (sem P k) (.seq _ (.ret _)) [some (.val (.lst [nI rs.length, dd, .lst [.lst (rs.map rowL)]])), some (.val (.int 0)), some (.val (nI n)), none, none] (endsN Q)
  simp only [ex_seq, ex_asg, ex_asgO, ex_ite, ex_nop, ex_ret, ex_retO, ex_retF, ex_app, ex_frz, ex_seti, ev, args_tup, List.set, List.getElem?_cons_zero, List.getElem?_cons_succ, q_val, q_own, q_bl, q_int, q_lst, part_non, part_int, bi_lenS, bi_lenL, bi_lenT, bi_lenC, bi_intI, bi_intB, bi_max2, bi_max3, bi_min2, cmp_lt, cmp_le, cmp_gt, cmp_ge, cmp_eqI, cmp_eqT, cmp_eqB, cmp_neI, cmp_neT, cmp_neB, cmp_inT, cmp_ninT, sqD_l, sqD_t, bi_tupL, bi_tupT, bi_listL, bi_listT, isN_non, isN_int, isN_lst, isN_tup, isN_ins, isi_int, isi_intB, isi_blB, isi_tup, isi_strS, cmp_is, cmp_isn, cmp_isB, cmp_isnB, bin_add, bin_sub, bin_mul, bin_fdiv, bin_mod, Vg.un_neg, idx_l0, idx_l1, idx_t0, idx_t1, idx_t2, idx_l2, isLT_l, isLT_t, count_str, bmTy, if_true, if_false, Bool.false_eq_true, Bool.not_true, Bool.not_false, true_and, and_true, decide_true, decide_false, e0, ne_eq, not_false_eq_true, fmod_nat lo, idx_lstN]
  refine ⟨_, by rw [List.getElem?_map, hr]; rfl, ?_⟩
  simp only [ex_seq, ex_asg, ex_asgO, ex_ite, ex_nop, ex_ret, ex_retO, ex_retF, ex_app, ex_frz, ex_seti, ev, args_tup, List.set, List.getElem?_cons_zero, List.getElem?_cons_succ, q_val, q_own, q_bl, q_int, q_lst, part_non, part_int, bi_lenS, bi_lenL, bi_lenT, bi_lenC, bi_intI, bi_intB, bi_max2, bi_max3, bi_min2, cmp_lt, cmp_le, cmp_gt, cmp_ge, cmp_eqI, cmp_eqT, cmp_eqB, cmp_neI, cmp_neT, cmp_neB, cmp_inT, cmp_ninT, sqD_l, sqD_t, bi_tupL, bi_tupT, bi_listL, bi_listT, isN_non, isN_int, isN_lst, isN_tup, isN_ins, isi_int, isi_intB, isi_blB, isi_tup, isi_strS, cmp_is, cmp_isn, cmp_isB, cmp_isnB, bin_add, bin_sub, bin_mul, bin_fdiv, bin_mod, Vg.un_neg, idx_l0, idx_l1, idx_t0, idx_t1, idx_t2, idx_l2, isLT_l, isLT_t, count_str, bmTy, if_true, if_false, Bool.false_eq_true, Bool.not_true, Bool.not_false, true_and, and_true, decide_true, decide_false, rowL]
  refine ⟨by omega, by omega, _, rfl, ?_⟩
  rw [Int.toNat_natCast]
  refine lc_mapA (fun x : Nat => nI x) (fun x => .str [r.1.getD (x % rs.length) 0]) (fun Γ' K h => h) (fun x hx K hk => hk _ fun K2 q2 => ?_) (by simp; omega) ?_
  · simp only [ex_seq, ex_asg, ex_asgO, ex_ite, ex_nop, ex_ret, ex_retO, ex_retF, ex_app, ex_frz, ex_seti, ev, args_tup, List.set, List.getElem?_cons_zero, List.getElem?_cons_succ, q_val, q_own, q_bl, q_int, q_lst, part_non, part_int, bi_lenS, bi_lenL, bi_lenT, bi_lenC, bi_intI, bi_intB, bi_max2, bi_max3, bi_min2, cmp_lt, cmp_le, cmp_gt, cmp_ge, cmp_eqI, cmp_eqT, cmp_eqB, cmp_neI, cmp_neT, cmp_neB, cmp_inT, cmp_ninT, sqD_l, sqD_t, bi_tupL, bi_tupT, bi_listL, bi_listT, isN_non, isN_int, isN_lst, isN_tup, isN_ins, isi_int, isi_intB, isi_blB, isi_tup, isi_strS, cmp_is, cmp_isn, cmp_isB, cmp_isnB, bin_add, bin_sub, bin_mul, bin_fdiv, bin_mod, Vg.un_neg, idx_l0, idx_l1, idx_t0, idx_t1, idx_t2, idx_l2, isLT_l, isLT_t, count_str, bmTy, if_true, if_false, Bool.false_eq_true, Bool.not_true, Bool.not_false, true_and, and_true, decide_true, decide_false, wipeE, Tg.slots, e0, ne_eq, not_false_eq_true, fmod_nat lo]
    exact idx_strG (by rw [ok.al]; omega) (by rw [ok.al]; exact Nat.mod_lt _ lo) q2
  rw [List.nil_append]
  refine bm_join1 (by rw [List.length_range]; omega) ?_
  simp only [ex_seq, ex_asg, ex_asgO, ex_ite, ex_nop, ex_ret, ex_retO, ex_retF, ex_app, ex_frz, ex_seti, ev, args_tup, List.set, List.getElem?_cons_zero, List.getElem?_cons_succ, q_val, q_own, q_bl, q_int, q_lst, part_non, part_int, bi_lenS, bi_lenL, bi_lenT, bi_lenC, bi_intI, bi_intB, bi_max2, bi_max3, bi_min2, cmp_lt, cmp_le, cmp_gt, cmp_ge, cmp_eqI, cmp_eqT, cmp_eqB, cmp_neI, cmp_neT, cmp_neB, cmp_inT, cmp_ninT, sqD_l, sqD_t, bi_tupL, bi_tupT, bi_listL, bi_listT, isN_non, isN_int, isN_lst, isN_tup, isN_ins, isi_int, isi_intB, isi_blB, isi_tup, isi_strS, cmp_is, cmp_isn, cmp_isB, cmp_isnB, bin_add, bin_sub, bin_mul, bin_fdiv, bin_mod, Vg.un_neg, idx_l0, idx_l1, idx_t0, idx_t1, idx_t2, idx_l2, isLT_l, isLT_t, count_str, bmTy, if_true, if_false, Bool.false_eq_true, Bool.not_true, Bool.not_false, true_and, and_true, decide_true, decide_false, bin_cat, List.length_map, List.length_range, List.length_cons, List.length_nil]
  refine ⟨by omega, by omega, ?_⟩
  exact q
end Gk07


set_option Elab.async false
set_option linter.all false
set_option maxRecDepth 100000
set_option maxHeartbeats 8000000
namespace Gk07
open PySem L2 Vg Gk
variable {k : Nat} {Q : DV → Prop}
def datB (rs : List Rw) : DV := .lst [nI rs.length, .lst [], .lst [.lst (rs.map rowL)]]
theorem lane_row {rs : List Rw} {res N k : Nat} {r : Rw} (hg : rs[res]? = some r) (hN : N % rs.length = res) : rs[(N + rs.length * k) % rs.length]? = some r := by
  rw [Nat.add_mul_mod_self_left, hN]
  exact hg
theorem law_right {rs : List Rw} (h : BandOk rs) {res s far : Nat} (hr : res < rs.length) (hs : s ≤ 1000) (hf : far ≤ 1000) (q : Q (.bl true)) : (sem P (k + 4)).F i__law_right [datB rs, bandD rs, nI res, nI s, nI far] Q := by
  have zz := sz
  have lo := h.lo
  have hi := h.hi
  have e0 : (rs.length : Int) ≠ 0 := by omega
  have d12 : rs.length ∣ 12 := by
    have : rs.length = 1 ∨ rs.length = 2 ∨ rs.length = 3 ∨ rs.length = 4 := by omega
    rcases this with e | e | e | e <;> rw [e] <;> decide
  refine run_f rfl rfl rfl ?_
  show ex (sem P (k + 3)) (.seq _ (.seq _ (.seq (.ite _ _ _) (.seq _ (.seq (.for_ _ _ _) (.seq _ (.ret _))))))) [some (.val (datB rs)), some (.val (bandD rs)), some (.val (nI res)), some (.val (nI s)), some (.val (nI far)), none, none, none, none, none, none, none] (endsN Q)
  generalize hB : (Cm.seq (.for_ _ _ _) (.seq _ (.ret _)) : Cm) = B
  rw [ex_seq, ex_asg]
  simp only [ev, args_tup, List.set, List.getElem?_cons_zero, List.getElem?_cons_succ, q_val, q_own, q_bl, q_int, q_lst, part_non, part_int, bi_lenS, bi_lenL, bi_lenT, bi_lenC, bi_intI, bi_intB, bi_max2, bi_max3, bi_min2, cmp_lt, cmp_le, cmp_gt, cmp_ge, cmp_eqI, cmp_eqT, cmp_eqB, cmp_neI, cmp_neT, cmp_neB, cmp_inT, cmp_ninT, sqD_l, sqD_t, bi_tupL, bi_tupT, bi_listL, bi_listT, isN_non, isN_int, isN_lst, isN_tup, isN_ins, isi_int, isi_intB, isi_blB, isi_tup, isi_strS, cmp_is, cmp_isn, cmp_isB, cmp_isnB, bin_add, bin_sub, bin_mul, bin_fdiv, bin_mod, Vg.un_neg, idx_l0, idx_l1, idx_t0, idx_t1, idx_t2, idx_l2, isLT_l, isLT_t, count_str, bmTy, if_true, if_false, Bool.false_eq_true, Bool.not_true, Bool.not_false, true_and, and_true, decide_true, decide_false]
  refine ⟨_, _, _, rfl, rfl, tail (k := k) h hr (by omega) fun dt r N hg ok h1 h2 h3 ht => ?_⟩
  simp only [ex_seq, ex_asg, ex_asgO, ex_ite, ex_nop, ex_ret, ex_retO, ex_retF, ex_app, ex_frz, ex_seti, ev, args_tup, List.set, List.getElem?_cons_zero, List.getElem?_cons_succ, q_val, q_own, q_bl, q_int, q_lst, part_non, part_int, bi_lenS, bi_lenL, bi_lenT, bi_lenC, bi_intI, bi_intB, bi_max2, bi_max3, bi_min2, cmp_lt, cmp_le, cmp_gt, cmp_ge, cmp_eqI, cmp_eqT, cmp_eqB, cmp_neI, cmp_neT, cmp_neB, cmp_inT, cmp_ninT, sqD_l, sqD_t, bi_tupL, bi_tupT, bi_listL, bi_listT, isN_non, isN_int, isN_lst, isN_tup, isN_ins, isi_int, isi_intB, isi_blB, isi_tup, isi_strS, cmp_is, cmp_isn, cmp_isB, cmp_isnB, bin_add, bin_sub, bin_mul, bin_fdiv, bin_mod, Vg.un_neg, idx_l0, idx_l1, idx_t0, idx_t1, idx_t2, idx_l2, isLT_l, isLT_t, count_str, bmTy, if_true, if_false, Bool.false_eq_true, Bool.not_true, Bool.not_false, true_and, and_true, decide_true, decide_false]
  refine ⟨_, _, _, rfl, rfl, spread (k := k) h hr (by omega) fun dw r' N' hg' ok' h1' h2' h3' hw => ?_⟩
  obtain rfl : r = r' := Option.some.inj (hg.symm.trans hg')
  obtain rfl : N = N' := lane_uniq h1 h2 h1' h2' (h3.trans h3'.symm)
  obtain ⟨pt, ct, rfl, pst⟩ := ht
  obtain ⟨pw, cw, rfl, psw⟩ := hw
  have ht : PS (.ins c_PeriodicSet [.str ct, .str pt]) _ _ _ := ⟨pt, ct, rfl, pst⟩
  have hw : PS (.ins c_PeriodicSet [.str cw, .str pw]) _ _ _ := ⟨pw, cw, rfl, psw⟩
  have t1 := pst.le
  have w1 := psw.le
  have nt := pst.cn.ne
  have nw := psw.cn.ne
  have t2 := Nat.le_of_dvd lo pst.dv
  have w2 := Nat.le_of_dvd lo psw.dv
  have et : decide (((rs.length % ct.length : Nat) : Int) = 0) = true := by rw [decide_eq_true_eq, Nat.mod_eq_zero_of_dvd pst.dv]; rfl
  have ew : decide (((rs.length % cw.length : Nat) : Int) = 0) = true := by rw [decide_eq_true_eq, Nat.mod_eq_zero_of_dvd psw.dv]; rfl
  have ct0 : (ct.length : Int) ≠ 0 := by omega
  have cw0 : (cw.length : Int) ≠ 0 := by omega
  refine law_is_set (k := k + 2) ht d12 (by omega) ?_
  simp only [ex_seq, ex_asg, ex_asgO, ex_ite, ex_nop, ex_ret, ex_retO, ex_retF, ex_app, ex_frz, ex_seti, ev, args_tup, List.set, List.getElem?_cons_zero, List.getElem?_cons_succ, q_val, q_own, q_bl, q_int, q_lst, part_non, part_int, bi_lenS, bi_lenL, bi_lenT, bi_lenC, bi_intI, bi_intB, bi_max2, bi_max3, bi_min2, cmp_lt, cmp_le, cmp_gt, cmp_ge, cmp_eqI, cmp_eqT, cmp_eqB, cmp_neI, cmp_neT, cmp_neB, cmp_inT, cmp_ninT, sqD_l, sqD_t, bi_tupL, bi_tupT, bi_listL, bi_listT, isN_non, isN_int, isN_lst, isN_tup, isN_ins, isi_int, isi_intB, isi_blB, isi_tup, isi_strS, cmp_is, cmp_isn, cmp_isB, cmp_isnB, bin_add, bin_sub, bin_mul, bin_fdiv, bin_mod, Vg.un_neg, idx_l0, idx_l1, idx_t0, idx_t1, idx_t2, idx_l2, isLT_l, isLT_t, count_str, bmTy, if_true, if_false, Bool.false_eq_true, Bool.not_true, Bool.not_false, true_and, and_true, decide_true, decide_false]
  refine law_is_set (k := k + 2) hw d12 (by omega) ?_
  simp only [ex_seq, ex_asg, ex_asgO, ex_ite, ex_nop, ex_ret, ex_retO, ex_retF, ex_app, ex_frz, ex_seti, ev, args_tup, List.set, List.getElem?_cons_zero, List.getElem?_cons_succ, q_val, q_own, q_bl, q_int, q_lst, part_non, part_int, bi_lenS, bi_lenL, bi_lenT, bi_lenC, bi_intI, bi_intB, bi_max2, bi_max3, bi_min2, cmp_lt, cmp_le, cmp_gt, cmp_ge, cmp_eqI, cmp_eqT, cmp_eqB, cmp_neI, cmp_neT, cmp_neB, cmp_inT, cmp_ninT, sqD_l, sqD_t, bi_tupL, bi_tupT, bi_listL, bi_listT, isN_non, isN_int, isN_lst, isN_tup, isN_ins, isi_int, isi_intB, isi_blB, isi_tup, isi_strS, cmp_is, cmp_isn, cmp_isB, cmp_isnB, bin_add, bin_sub, bin_mul, bin_fdiv, bin_mod, Vg.un_neg, idx_l0, idx_l1, idx_t0, idx_t1, idx_t2, idx_l2, isLT_l, isLT_t, count_str, bmTy, if_true, if_false, Bool.false_eq_true, Bool.not_true, Bool.not_false, true_and, and_true, decide_true, decide_false, datB, fld0, fld1, fmod_nat nt, fmod_nat nw, et, ew, ct0, cw0, ne_eq, not_false_eq_true]
  refine ⟨by omega, by omega, by omega, by omega, .inl ⟨by decide, by decide⟩, ?_⟩
  generalize hwin : (if (s : Int) + (rs.length : Int) > (if (pw.length : Int) > (pt.length : Int) then (pw.length : Int) else (pt.length : Int)) then (s : Int) + (rs.length : Int) else (if (pw.length : Int) > (pt.length : Int) then (pw.length : Int) else (pt.length : Int))) + 2 * (rs.length : Int) = win
  obtain ⟨w, rfl⟩ : ∃ w : Nat, win = (w : Int) := ⟨win.toNat, by subst hwin; split <;> (try split) <;> omega⟩
  have wle : w ≤ 100000 := by
    split at hwin <;> (try split at hwin) <;> omega
  subst hB
  rw [ex_seq]
  refine ex_for ?_
  simp only [ev, args_tup, List.set, List.getElem?_cons_zero, List.getElem?_cons_succ, q_val, q_own, q_bl, q_int, q_lst, part_non, part_int, bi_lenS, bi_lenL, bi_lenT, bi_lenC, bi_intI, bi_intB, bi_max2, bi_max3, bi_min2, cmp_lt, cmp_le, cmp_gt, cmp_ge, cmp_eqI, cmp_eqT, cmp_eqB, cmp_neI, cmp_neT, cmp_neB, cmp_inT, cmp_ninT, sqD_l, sqD_t, bi_tupL, bi_tupT, bi_listL, bi_listT, isN_non, isN_int, isN_lst, isN_tup, isN_ins, isi_int, isi_intB, isi_blB, isi_tup, isi_strS, cmp_is, cmp_isn, cmp_isB, cmp_isnB, bin_add, bin_sub, bin_mul, bin_fdiv, bin_mod, Vg.un_neg, idx_l0, idx_l1, idx_t0, idx_t1, idx_t2, idx_l2, isLT_l, isLT_t, count_str, bmTy, if_true, if_false, Bool.false_eq_true, Bool.not_true, Bool.not_false, true_and, and_true, decide_true, decide_false, List.length_cons, List.length_nil]
  refine ⟨by omega, by omega, ?_⟩
  rw [Int.toNat_natCast, bin_catL]
  refine ⟨by simp; omega, _, rfl, ?_⟩
  have eit : ((List.range w).map fun i : Nat => DV.int (i : Int)) ++ [DV.int ((w : Int) + (far : Int))] = (List.range w ++ [w + far]).map nI := by
    rw [List.map_append]
    rfl
  rw [eit]
  refine for_one (fun i Γ => ∃ o8 o10 o11, Γ = [some (.val (datB rs)), some (.val (bandD rs)), some (.val (nI res)), some (.val (nI s)), some (.val (nI far)), some (.val (.ins c_PeriodicSet [.str ct, .str pt])), some (.val (.ins c_PeriodicSet [.str cw, .str pw])), some (.val (nI w)), o8, none, o10, o11]) ?_ ?_ ⟨_, _, _, rfl⟩
  · rintro i x Γ D' hx hi2 ⟨o8, o10, o11, rfl⟩ e1 e2 e3 nx ct'
    rw [List.length_map] at hi2
    rw [List.getElem?_map, List.getElem?_eq_getElem hi2] at hx
    cases hx
    have hxle : (List.range w ++ [w + far])[i] ≤ w + far := by
      have := List.getElem_mem hi2
      rcases List.mem_append.1 this with g | g
      · have := List.mem_range.1 g
        omega
      · rw [List.mem_singleton.1 g]
        exact Nat.le_refl _
    generalize (List.range w ++ [w + far])[i] = x at hxle
    simp only [ex_seq, ex_asg, ex_asgO, ex_ite, ex_nop, ex_ret, ex_retO, ex_retF, ex_app, ex_frz, ex_seti, ev, args_tup, List.set, List.getElem?_cons_zero, List.getElem?_cons_succ, q_val, q_own, q_bl, q_int, q_lst, part_non, part_int, bi_lenS, bi_lenL, bi_lenT, bi_lenC, bi_intI, bi_intB, bi_max2, bi_max3, bi_min2, cmp_lt, cmp_le, cmp_gt, cmp_ge, cmp_eqI, cmp_eqT, cmp_eqB, cmp_neI, cmp_neT, cmp_neB, cmp_inT, cmp_ninT, sqD_l, sqD_t, bi_tupL, bi_tupT, bi_listL, bi_listT, isN_non, isN_int, isN_lst, isN_tup, isN_ins, isi_int, isi_intB, isi_blB, isi_tup, isi_strS, cmp_is, cmp_isn, cmp_isB, cmp_isnB, bin_add, bin_sub, bin_mul, bin_fdiv, bin_mod, Vg.un_neg, idx_l0, idx_l1, idx_t0, idx_t1, idx_t2, idx_l2, isLT_l, isLT_t, count_str, bmTy, if_true, if_false, Bool.false_eq_true, Bool.not_true, Bool.not_false, true_and, and_true, decide_true, decide_false, datB]
    refine law_numbers (k := k + 2) lo (by omega) (by omega) fun M g1 g2 g3 => ?_
    rw [Nat.mod_eq_of_lt hr] at g3
    obtain rfl : N = M := lane_uniq h1 h2 g1 g2 (h3.trans g3.symm)
    refine ⟨_, rfl, ?_⟩
    have hdl : (x - N) / rs.length ≤ x - N := Nat.div_le_self _ _
    refine lc_mapA (fun k => nI (N + rs.length * k)) (fun k => .bl (lg rs.length r (N + rs.length * k) x)) (fun Γ' K h => h) (fun k' hk K hK => hK _ fun K2 q2 => ?_) ?_ ?_
    · have hk2 := List.mem_range.1 hk
      have hb : rs.length * k' ≤ 4 * k' := Nat.mul_le_mul_right _ hi
      simp only [ex_seq, ex_asg, ex_asgO, ex_ite, ex_nop, ex_ret, ex_retO, ex_retF, ex_app, ex_frz, ex_seti, ev, args_tup, List.set, List.getElem?_cons_zero, List.getElem?_cons_succ, q_val, q_own, q_bl, q_int, q_lst, part_non, part_int, bi_lenS, bi_lenL, bi_lenT, bi_lenC, bi_intI, bi_intB, bi_max2, bi_max3, bi_min2, cmp_lt, cmp_le, cmp_gt, cmp_ge, cmp_eqI, cmp_eqT, cmp_eqB, cmp_neI, cmp_neT, cmp_neB, cmp_inT, cmp_ninT, sqD_l, sqD_t, bi_tupL, bi_tupT, bi_listL, bi_listT, isN_non, isN_int, isN_lst, isN_tup, isN_ins, isi_int, isi_intB, isi_blB, isi_tup, isi_strS, cmp_is, cmp_isn, cmp_isB, cmp_isnB, bin_add, bin_sub, bin_mul, bin_fdiv, bin_mod, Vg.un_neg, idx_l0, idx_l1, idx_t0, idx_t1, idx_t2, idx_l2, isLT_l, isLT_t, count_str, bmTy, if_true, if_false, Bool.false_eq_true, Bool.not_true, Bool.not_false, true_and, and_true, decide_true, decide_false, wipeE, Tg.slots]
      refine law_band_line (k := k + 2) h (lane_row hg h3) (by omega) ?_
      refine law_in' (k := k + 2) (by rw [ok.bl]; exact lo) (by rw [ln0_len]; omega) (by rw [ok.bl]; omega) ?_
      rw [ln_has ok.bl]
      exact q2
    · rw [List.length_range, List.length_nil]
      omega
    rw [List.nil_append, show ((List.range ((x - N) / rs.length + 3)).map fun k => DV.bl (lg rs.length r (N + rs.length * k) x)) = ((List.range ((x - N) / rs.length + 3)).map fun k => lg rs.length r (N + rs.length * k) x).map DV.bl by rw [List.map_map]; rfl]
    have A : ∀ {R : DV → Prop}, R (.bl (lg rs.length (tailRow rs.length res r) N x)) → cmpS (sem P (k + 3)) .In (nI x) (.ins c_PeriodicSet [.str ct, .str pt]) R := fun r => PS_in (k := k + 1) ht lo (by omega) (by omega) r
    have B : ∀ {R : DV → Prop}, R (.bl (lg rs.length (sprRow rs.length res r) N x)) → cmpS (sem P (k + 3)) .In (nI x) (.ins c_PeriodicSet [.str cw, .str pw]) R := fun r => PS_in (k := k + 1) hw lo (by omega) (by omega) r
    refine A ?_
    simp only [ex_seq, ex_asg, ex_asgO, ex_ite, ex_nop, ex_ret, ex_retO, ex_retF, ex_app, ex_frz, ex_seti, ev, args_tup, List.set, List.getElem?_cons_zero, List.getElem?_cons_succ, q_val, q_own, q_bl, q_int, q_lst, part_non, part_int, bi_lenS, bi_lenL, bi_lenT, bi_lenC, bi_intI, bi_intB, bi_max2, bi_max3, bi_min2, cmp_lt, cmp_le, cmp_gt, cmp_ge, cmp_eqI, cmp_eqT, cmp_eqB, cmp_neI, cmp_neT, cmp_neB, cmp_inT, cmp_ninT, sqD_l, sqD_t, bi_tupL, bi_tupT, bi_listL, bi_listT, isN_non, isN_int, isN_lst, isN_tup, isN_ins, isi_int, isi_intB, isi_blB, isi_tup, isi_strS, cmp_is, cmp_isn, cmp_isB, cmp_isnB, bin_add, bin_sub, bin_mul, bin_fdiv, bin_mod, Vg.un_neg, idx_l0, idx_l1, idx_t0, idx_t1, idx_t2, idx_l2, isLT_l, isLT_t, count_str, bmTy, if_true, if_false, Bool.false_eq_true, Bool.not_true, Bool.not_false, true_and, and_true, decide_true, decide_false, nin_bls, tail_have ok lo h3]
    refine B ?_
    simp only [ex_seq, ex_asg, ex_asgO, ex_ite, ex_nop, ex_ret, ex_retO, ex_retF, ex_app, ex_frz, ex_seti, ev, args_tup, List.set, List.getElem?_cons_zero, List.getElem?_cons_succ, q_val, q_own, q_bl, q_int, q_lst, part_non, part_int, bi_lenS, bi_lenL, bi_lenT, bi_lenC, bi_intI, bi_intB, bi_max2, bi_max3, bi_min2, cmp_lt, cmp_le, cmp_gt, cmp_ge, cmp_eqI, cmp_eqT, cmp_eqB, cmp_neI, cmp_neT, cmp_neB, cmp_inT, cmp_ninT, sqD_l, sqD_t, bi_tupL, bi_tupT, bi_listL, bi_listT, isN_non, isN_int, isN_lst, isN_tup, isN_ins, isi_int, isi_intB, isi_blB, isi_tup, isi_strS, cmp_is, cmp_isn, cmp_isB, cmp_isnB, bin_add, bin_sub, bin_mul, bin_fdiv, bin_mod, Vg.un_neg, idx_l0, idx_l1, idx_t0, idx_t1, idx_t2, idx_l2, isLT_l, isLT_t, count_str, bmTy, if_true, if_false, Bool.false_eq_true, Bool.not_true, Bool.not_false, true_and, and_true, decide_true, decide_false, in_bls, spr_have ok lo h3]
    exact nx _ ⟨_, _, _, rfl⟩
  rintro Γ ⟨o8, o10, o11, rfl⟩
  obtain ⟨M, t, htt, hM, g1, g2, g3⟩ := lane_first (per := rs.length) (r := res) (s := s) lo
  rw [Nat.mod_eq_of_lt hr] at g3
  obtain rfl : N = M := lane_uniq h1 h2 g1 g2 (h3.trans g3.symm)
  have e5 : (((s : Int) + (t : Int)) + (rs.length : Int) * (far : Int)) = ((N + rs.length * far : Nat) : Int) := by
    rw [Int.natCast_add, Int.natCast_mul]
    omega
  have hb : rs.length * far ≤ 4 * far := Nat.mul_le_mul_right _ hi
  simp only [ex_seq, ex_asg, ex_asgO, ex_ite, ex_nop, ex_ret, ex_retO, ex_retF, ex_app, ex_frz, ex_seti, ev, args_tup, List.set, List.getElem?_cons_zero, List.getElem?_cons_succ, q_val, q_own, q_bl, q_int, q_lst, part_non, part_int, bi_lenS, bi_lenL, bi_lenT, bi_lenC, bi_intI, bi_intB, bi_max2, bi_max3, bi_min2, cmp_lt, cmp_le, cmp_gt, cmp_ge, cmp_eqI, cmp_eqT, cmp_eqB, cmp_neI, cmp_neT, cmp_neB, cmp_inT, cmp_ninT, sqD_l, sqD_t, bi_tupL, bi_tupT, bi_listL, bi_listT, isN_non, isN_int, isN_lst, isN_tup, isN_ins, isi_int, isi_intB, isi_blB, isi_tup, isi_strS, cmp_is, cmp_isn, cmp_isB, cmp_isnB, bin_add, bin_sub, bin_mul, bin_fdiv, bin_mod, Vg.un_neg, idx_l0, idx_l1, idx_t0, idx_t1, idx_t2, idx_l2, isLT_l, isLT_t, count_str, bmTy, if_true, if_false, Bool.false_eq_true, Bool.not_true, Bool.not_false, true_and, and_true, decide_true, decide_false, datB, e0, ne_eq, not_false_eq_true, htt]
  refine ⟨_, _, _, rfl, rfl, .inl ⟨by omega, by omega⟩, ?_⟩
  rw [e5]
  refine language (k := k) h (by omega) fun dl r2 hr2 ok2 hl => ?_
  obtain ⟨pl, cl, rfl, psl⟩ := hl
  have hl : PS (.ins c_PeriodicSet [.str cl, .str pl]) _ _ _ := ⟨pl, cl, rfl, psl⟩
  obtain rfl : r = r2 := Option.some.inj ((lane_row hg h3).symm.trans hr2)
  refine ⟨_, _, _, rfl, rfl, PS_within (k := k) ht hl lo lo (by omega) (by omega) (by omega) (by omega) fun b hb1 => ?_⟩
  have b1 : b = true := hb1.2 fun x hx => (tail_iff ok lo h3).1 hx far
  subst b1
  simp only [ex_seq, ex_asg, ex_asgO, ex_ite, ex_nop, ex_ret, ex_retO, ex_retF, ex_app, ex_frz, ex_seti, ev, args_tup, List.set, List.getElem?_cons_zero, List.getElem?_cons_succ, q_val, q_own, q_bl, q_int, q_lst, part_non, part_int, bi_lenS, bi_lenL, bi_lenT, bi_lenC, bi_intI, bi_intB, bi_max2, bi_max3, bi_min2, cmp_lt, cmp_le, cmp_gt, cmp_ge, cmp_eqI, cmp_eqT, cmp_eqB, cmp_neI, cmp_neT, cmp_neB, cmp_inT, cmp_ninT, sqD_l, sqD_t, bi_tupL, bi_tupT, bi_listL, bi_listT, isN_non, isN_int, isN_lst, isN_tup, isN_ins, isi_int, isi_intB, isi_blB, isi_tup, isi_strS, cmp_is, cmp_isn, cmp_isB, cmp_isnB, bin_add, bin_sub, bin_mul, bin_fdiv, bin_mod, Vg.un_neg, idx_l0, idx_l1, idx_t0, idx_t1, idx_t2, idx_l2, isLT_l, isLT_t, count_str, bmTy, if_true, if_false, Bool.false_eq_true, Bool.not_true, Bool.not_false, true_and, and_true, decide_true, decide_false]
  refine ⟨_, _, _, rfl, rfl, PS_within (k := k) hl hw lo lo (by omega) (by omega) (by omega) (by omega) fun b hb2 => ?_⟩
  have b2 : b = true := hb2.2 fun x hx => (spr_iff ok lo h3).2 ⟨far, hx⟩
  subst b2
  simp only [ex_seq, ex_asg, ex_asgO, ex_ite, ex_nop, ex_ret, ex_retO, ex_retF, ex_app, ex_frz, ex_seti, ev, args_tup, List.set, List.getElem?_cons_zero, List.getElem?_cons_succ, q_val, q_own, q_bl, q_int, q_lst, part_non, part_int, bi_lenS, bi_lenL, bi_lenT, bi_lenC, bi_intI, bi_intB, bi_max2, bi_max3, bi_min2, cmp_lt, cmp_le, cmp_gt, cmp_ge, cmp_eqI, cmp_eqT, cmp_eqB, cmp_neI, cmp_neT, cmp_neB, cmp_inT, cmp_ninT, sqD_l, sqD_t, bi_tupL, bi_tupT, bi_listL, bi_listT, isN_non, isN_int, isN_lst, isN_tup, isN_ins, isi_int, isi_intB, isi_blB, isi_tup, isi_strS, cmp_is, cmp_isn, cmp_isB, cmp_isnB, bin_add, bin_sub, bin_mul, bin_fdiv, bin_mod, Vg.un_neg, idx_l0, idx_l1, idx_t0, idx_t1, idx_t2, idx_l2, isLT_l, isLT_t, count_str, bmTy, if_true, if_false, Bool.false_eq_true, Bool.not_true, Bool.not_false, true_and, and_true, decide_true, decide_false]
  have es : ((s : Int) + 1) = ((s + 1 : Nat) : Int) := rfl
  rw [es]
  refine ⟨_, _, _, rfl, rfl, _, _, _, rfl, rfl, tail (k := k) h hr (by omega) fun dt2 r3 N2 hg3 ok3 k1 k2 k3 ht2 => ?_⟩
  obtain rfl : r = r3 := Option.some.inj (hg.symm.trans hg3)
  obtain ⟨j, rfl⟩ := lane_eq (x := N2) (N := N) (k3.trans h3.symm) (by
    rcases Nat.lt_or_ge N2 N with g | g
    · exact absurd (lane_uniq (s := s) h1 h2 (by omega) (by omega) (h3.trans k3.symm)) (by omega)
    · exact g)
  refine PS_within (k := k) ht ht2 lo lo (by omega) (by omega) (by omega) (by omega) fun b hb3 => ?_
  have b3 : b = true := hb3.2 fun x hx => (tail_iff ok lo k3).2 fun i => by
    rw [Nat.add_assoc, ← Nat.mul_add]
    exact (tail_iff ok lo h3).1 hx _
  subst b3
  simp only [ex_seq, ex_asg, ex_asgO, ex_ite, ex_nop, ex_ret, ex_retO, ex_retF, ex_app, ex_frz, ex_seti, ev, args_tup, List.set, List.getElem?_cons_zero, List.getElem?_cons_succ, q_val, q_own, q_bl, q_int, q_lst, part_non, part_int, bi_lenS, bi_lenL, bi_lenT, bi_lenC, bi_intI, bi_intB, bi_max2, bi_max3, bi_min2, cmp_lt, cmp_le, cmp_gt, cmp_ge, cmp_eqI, cmp_eqT, cmp_eqB, cmp_neI, cmp_neT, cmp_neB, cmp_inT, cmp_ninT, sqD_l, sqD_t, bi_tupL, bi_tupT, bi_listL, bi_listT, isN_non, isN_int, isN_lst, isN_tup, isN_ins, isi_int, isi_intB, isi_blB, isi_tup, isi_strS, cmp_is, cmp_isn, cmp_isB, cmp_isnB, bin_add, bin_sub, bin_mul, bin_fdiv, bin_mod, Vg.un_neg, idx_l0, idx_l1, idx_t0, idx_t1, idx_t2, idx_l2, isLT_l, isLT_t, count_str, bmTy, if_true, if_false, Bool.false_eq_true, Bool.not_true, Bool.not_false, true_and, and_true, decide_true, decide_false]
  refine ⟨_, _, _, rfl, rfl, spread (k := k) h hr (by omega) fun dw2 r4 N4 hg4 ok4 l1 l2 l3 hw2 => ?_⟩
  obtain ⟨pl4, cl4, rfl, psl4⟩ := hw2
  have hw2 : PS (.ins c_PeriodicSet [.str cl4, .str pl4]) _ _ _ := ⟨pl4, cl4, rfl, psl4⟩
  obtain rfl : r = r4 := Option.some.inj (hg.symm.trans hg4)
  obtain rfl : N + rs.length * j = N4 := lane_uniq k1 k2 l1 l2 (k3.trans l3.symm)
  refine ⟨_, _, _, rfl, rfl, PS_within (k := k) hw2 hw lo lo (by omega) (by omega) (by omega) (by omega) fun b hb4 => ?_⟩
  have b4 : b = true := hb4.2 fun x hx => by
    obtain ⟨i, hi⟩ := (spr_iff ok lo k3).1 hx
    refine (spr_iff ok lo h3).2 ⟨j + i, ?_⟩
    rw [Nat.mul_add, ← Nat.add_assoc]
    exact hi
  subst b4
  simp only [ex_seq, ex_asg, ex_asgO, ex_ite, ex_nop, ex_ret, ex_retO, ex_retF, ex_app, ex_frz, ex_seti, ev, args_tup, List.set, List.getElem?_cons_zero, List.getElem?_cons_succ, q_val, q_own, q_bl, q_int, q_lst, part_non, part_int, bi_lenS, bi_lenL, bi_lenT, bi_lenC, bi_intI, bi_intB, bi_max2, bi_max3, bi_min2, cmp_lt, cmp_le, cmp_gt, cmp_ge, cmp_eqI, cmp_eqT, cmp_eqB, cmp_neI, cmp_neT, cmp_neB, cmp_inT, cmp_ninT, sqD_l, sqD_t, bi_tupL, bi_tupT, bi_listL, bi_listT, isN_non, isN_int, isN_lst, isN_tup, isN_ins, isi_int, isi_intB, isi_blB, isi_tup, isi_strS, cmp_is, cmp_isn, cmp_isB, cmp_isnB, bin_add, bin_sub, bin_mul, bin_fdiv, bin_mod, Vg.un_neg, idx_l0, idx_l1, idx_t0, idx_t1, idx_t2, idx_l2, isLT_l, isLT_t, count_str, bmTy, if_true, if_false, Bool.false_eq_true, Bool.not_true, Bool.not_false, true_and, and_true, decide_true, decide_false]
  exact q
end Gk07


set_option Elab.async false
set_option linter.all false
set_option maxRecDepth 100000
set_option maxHeartbeats 8000000
namespace Gk07
open PySem L2 Vg Gk
variable {k : Nat} {Q : DV → Prop}
/-- the row of draws of a band -/
structure RwB (per : Nat) (row : List Nat) : Prop where
  len : row.length = 1 + 2 * (per * per) + per
  mood : row.getD 0 0 < 8
  hi : ∀ j, j < per * per → row.getD (2 + 2 * j) 0 ≤ 1
  at_ : ∀ r, r < per → row.getD (1 + 2 * (per * per) + r) 0 ≤ 1
theorem idxN {row : List Nat} {n : Nat} (h : n < row.length) (q : Q (nI (row.getD n 0))) : idxS (.lst (row.map nI)) (.int (n : Int)) Q := by
  refine idx_lst (c := nI (row.getD n 0)) ?_ q
  rw [List.getElem?_map, List.getElem?_eq_getElem h, List.getD_eq_getElem?_getD, List.getElem?_eq_getElem h]
  rfl
theorem ex_lendE {Sm : Sem} {i : Nat} {e : E} {Γ : Vg.Env} : ev Sm (.lend i e) Γ Q = ∃ xs, Γ[i]? = some (some (.own xs)) ∧ ev Sm e (Γ.set i (some (.val (.lst xs)))) fun d => noL d = true ∧ Q d := rfl
theorem atI_map {xs : List Nat} {i : Nat} (h : i < xs.length) : atI (xs.map nI) (i : Int) = some (nI (xs.getD i 0)) := by
  refine at_nat ?_
  rw [List.getElem?_map, List.getElem?_eq_getElem h, List.getD_eq_getElem?_getD, List.getElem?_eq_getElem h]
  rfl
def B01 (per : Nat) (xs : List Nat) : Prop := xs.length = per ∧ ∀ x ∈ xs, x ≤ 1
theorem B01.get {per : Nat} {xs : List Nat} (h : B01 per xs) (i : Nat) : xs.getD i 0 ≤ 1 := by
  rw [List.getD_eq_getElem?_getD]
  cases e : xs[i]? with
  | none => exact Nat.zero_le _
  | some v => exact h.2 v (List.mem_of_getElem? e)
theorem B01.set {per : Nat} {xs : List Nat} (h : B01 per xs) (i : Nat) : B01 per (xs.set i 1) := by
  refine ⟨by rw [List.length_set]; exact h.1, fun x hx => ?_⟩
  rcases List.mem_or_eq_of_mem_set hx with g | g
  · exact h.2 x g
  · rw [g]; exact Nat.le_refl _
theorem B01.map {per : Nat} {f : Nat → Nat} (h : ∀ c, c < per → f c ≤ 1) : B01 per ((List.range per).map f) := by
  refine ⟨by rw [List.length_map, List.length_range], fun x hx => ?_⟩
  obtain ⟨c, hc, rfl⟩ := List.mem_map.1 hx
  exact h c (List.mem_range.1 hc)
theorem sum_01 : ∀ {xs : List Nat}, (∀ x ∈ xs, x ≤ 1) → xs.sum ≠ 0 → 1 ∈ xs
  | [], _, h => absurd rfl h
  | x :: r, h, hs => by
    have hx := h x (List.mem_cons_self ..)
    by_cases e : x = 1
    · rw [e]; exact List.mem_cons_self ..
    · refine List.mem_cons_of_mem _ (sum_01 (fun y hy => h y (List.mem_cons_of_mem _ hy)) ?_)
      rw [List.sum_cons] at hs
      omega
theorem mem_set1 {xs : List Nat} {i a : Nat} (h : i < xs.length) : a ∈ xs.set i a := List.mem_set h a
def bT (x : Nat) : Nat := if x = 1 then 49 else 48
theorem ixN01 {x : Nat} (h : x ≤ 1) {Q : DV → Prop} (q : Q (.str [bT x])) : idxS (.str [48, 49]) (.int (x : Int)) Q := by
  have : x = 0 ∨ x = 1 := by omega
  rcases this with rfl | rfl
  · exact ix0.symm ▸ q
  · exact ix1.symm ▸ q
def band9 (lo hi : List Nat) (at_ : Nat) : Rw := (lo.map bT, bT at_, hi.map bT)
theorem bT_bits (x : Nat) : bT x = 48 ∨ bT x = 49 := by unfold bT; split <;> simp
theorem band9_ok {per at_ : Nat} {lo hi : List Nat} (hl : B01 per lo) (hh : B01 per hi) (h1 : 1 ∈ hi) : RowOk per (band9 lo hi at_) := by
  refine ⟨fun x hx => ?_, by show (lo.map bT).length = per; rw [List.length_map]; exact hl.1, (bT_bits _).symm.symm, fun x hx => ?_, by show (hi.map bT).length = per; rw [List.length_map]; exact hh.1, List.mem_map.2 ⟨1, h1, rfl⟩⟩
  · obtain ⟨y, _, rfl⟩ := List.mem_map.1 hx
    exact bT_bits y
  · obtain ⟨y, _, rfl⟩ := List.mem_map.1 hx
    exact bT_bits y
def bdT9 : Cm := .app 2 (.lst (.cons (.bm .join (.k (.str [])) (.lc (.one 8) (.ownI 4) .tt (.idx (.k (.str [48, 49])) (.var 8)))) (.cons (.idx (.k (.str [48, 49])) (.var 6)) (.cons (.bm .join (.k (.str [])) (.lc (.one 8) (.ownI 5) .tt (.idx (.k (.str [48, 49])) (.var 8)))) .nil))))
def bdT8 : Cm := .seq (.ite (.lend 5 (.cmp .Eq (.bi .sum (.cons (.var 5) .nil)) (.k (.int 0))))
    (.seti 5 (.var 3) (.k (.int 1)))
    .nop) bdT9
def bdT7 : Cm := .seq (.ite (.cmp .Eq (.idx (.var 1) (.k (.int 0))) (.k (.int 5)))
    (.asgO 4 (.lc (.one 7) (.rng1 (.var 0)) .tt (.k (.int 0))))
    .nop) bdT8
def bdT6 : Cm := .seq (.ite (.cmp .Eq (.idx (.var 1) (.k (.int 0))) (.k (.int 4)))
    (.asgO 4 (.lc (.one 7) (.rng1 (.var 0)) .tt (.bin .Mult (.idxO 4 (.var 7)) (.idxO 5 (.var 7)))))
    .nop) bdT7
def bdTa : Cm := .asg 6 (.bin .Mult (.idx (.lst (.cons (.var 6) (.cons (.var 6) (.cons (.k (.int 1)) (.cons (.k (.int 0)) .nil))))) (.idx (.var 1) (.k (.int 0)))) (.idxO 4 (.var 3)))
def bdTb : Cm := .seq (.ite (.lend 5 (.bor (.cmp .Eq (.bi .sum (.cons (.var 5) .nil)) (.k (.int 0))) (.cmp .Eq (.idx (.var 1) (.k (.int 0))) (.k (.int 3)))))
    (.asgO 5 (.cpyO 4))
    .nop) bdTa
def bdTc : Cm := .seq (.asgO 5 (.lc (.one 7) (.rng1 (.var 0)) .tt (.bin .Mult (.idxO 5 (.var 7)) (.idxO 4 (.var 7))))) bdTb
def bdTd : Cm := .seq (.ite (.lend 4 (.cmp .Eq (.bi .sum (.cons (.var 4) .nil)) (.k (.int 0))))
    (.seti 4 (.var 3) (.k (.int 1)))
    .nop) bdTc
def bdT5 : Cm := .seq (.ite (.cmp .LtE (.idx (.var 1) (.k (.int 0))) (.k (.int 3))) bdTd .nop) bdT6
section
variable {per r at_ : Nat} {row lo hi : List Nat} {rs : List Rw} {o7 o8 : Option Bd} {D : DE}
abbrev bdE (per : Nat) (row : List Nat) (rs : List Rw) (r : Nat) (lo hi : List Nat) (at_ : Nat) (o7 o8 : Option Bd) : Vg.Env := [some (.val (nI per)), some (.val (.lst (row.map nI))), some (.own (rs.map rowL)), some (.val (nI r)), some (.own (lo.map nI)), some (.own (hi.map nI)), some (.val (nI at_)), o7, o8]
theorem bd9 (hl : B01 per lo) (hh : B01 per hi) (h1 : 1 ∈ hi) (ha : at_ ≤ 1) (hp : per ≤ 4) (hn : rs.length ≤ 4) (q : ∀ rw o8, RowOk per rw → D.nx (bdE per row (rs ++ [rw]) r lo hi at_ o7 o8)) : ex (sem P k) bdT9 (bdE per row rs r lo hi at_ o7 o8) D := by
  have zz := sz
  have l1 := hl.1
  have l2 := hh.1
  simp only [ex_seq, ex_asg, ex_asgO, ex_ite, ex_nop, ex_ret, ex_retO, ex_retF, ex_app, ex_frz, ex_seti, ev, args_tup, List.set, List.getElem?_cons_zero, List.getElem?_cons_succ, q_val, q_own, q_bl, q_int, q_lst, part_non, part_int, bi_lenS, bi_lenL, bi_lenT, bi_lenC, bi_intI, bi_intB, bi_max2, bi_max3, bi_min2, cmp_lt, cmp_le, cmp_gt, cmp_ge, cmp_eqI, cmp_eqT, cmp_eqB, cmp_neI, cmp_neT, cmp_neB, cmp_inT, cmp_ninT, sqD_l, sqD_t, bi_tupL, bi_tupT, bi_listL, bi_listT, isN_non, isN_int, isN_lst, isN_tup, isN_ins, isi_int, isi_intB, isi_blB, isi_tup, isi_strS, cmp_is, cmp_isn, cmp_isB, cmp_isnB, bin_add, bin_sub, bin_mul, bin_fdiv, bin_mod, Vg.un_neg, idx_l0, idx_l1, idx_t0, idx_t1, idx_t2, idx_l2, isLT_l, isLT_t, count_str, bmTy, if_true, if_false, Bool.false_eq_true, Bool.not_true, Bool.not_false, true_and, and_true, decide_true, decide_false, bdT9, bdE]
  refine ⟨_, rfl, ?_⟩
  refine lc_mapA (fun x : Nat => nI x) (fun x => .str [bT x]) (fun Γ' K h => h) (fun x hx K hk => hk _ fun K2 q2 => ?_) (by simp; omega) ?_
  · simp only [ex_seq, ex_asg, ex_asgO, ex_ite, ex_nop, ex_ret, ex_retO, ex_retF, ex_app, ex_frz, ex_seti, ev, args_tup, List.set, List.getElem?_cons_zero, List.getElem?_cons_succ, q_val, q_own, q_bl, q_int, q_lst, part_non, part_int, bi_lenS, bi_lenL, bi_lenT, bi_lenC, bi_intI, bi_intB, bi_max2, bi_max3, bi_min2, cmp_lt, cmp_le, cmp_gt, cmp_ge, cmp_eqI, cmp_eqT, cmp_eqB, cmp_neI, cmp_neT, cmp_neB, cmp_inT, cmp_ninT, sqD_l, sqD_t, bi_tupL, bi_tupT, bi_listL, bi_listT, isN_non, isN_int, isN_lst, isN_tup, isN_ins, isi_int, isi_intB, isi_blB, isi_tup, isi_strS, cmp_is, cmp_isn, cmp_isB, cmp_isnB, bin_add, bin_sub, bin_mul, bin_fdiv, bin_mod, Vg.un_neg, idx_l0, idx_l1, idx_t0, idx_t1, idx_t2, idx_l2, isLT_l, isLT_t, count_str, bmTy, if_true, if_false, Bool.false_eq_true, Bool.not_true, Bool.not_false, true_and, and_true, decide_true, decide_false, wipeE, Tg.slots]
    exact ixN01 (hl.2 x hx) q2
  rw [List.nil_append]
  refine bm_join1 (by omega) ?_
  refine ixN01 ha ?_
  refine ⟨_, rfl, ?_⟩
  refine lc_mapA (fun x : Nat => nI x) (fun x => .str [bT x]) (fun Γ' K h => h) (fun x hx K hk => hk _ fun K2 q2 => ?_) (by simp; omega) ?_
  · simp only [ex_seq, ex_asg, ex_asgO, ex_ite, ex_nop, ex_ret, ex_retO, ex_retF, ex_app, ex_frz, ex_seti, ev, args_tup, List.set, List.getElem?_cons_zero, List.getElem?_cons_succ, q_val, q_own, q_bl, q_int, q_lst, part_non, part_int, bi_lenS, bi_lenL, bi_lenT, bi_lenC, bi_intI, bi_intB, bi_max2, bi_max3, bi_min2, cmp_lt, cmp_le, cmp_gt, cmp_ge, cmp_eqI, cmp_eqT, cmp_eqB, cmp_neI, cmp_neT, cmp_neB, cmp_inT, cmp_ninT, sqD_l, sqD_t, bi_tupL, bi_tupT, bi_listL, bi_listT, isN_non, isN_int, isN_lst, isN_tup, isN_ins, isi_int, isi_intB, isi_blB, isi_tup, isi_strS, cmp_is, cmp_isn, cmp_isB, cmp_isnB, bin_add, bin_sub, bin_mul, bin_fdiv, bin_mod, Vg.un_neg, idx_l0, idx_l1, idx_t0, idx_t1, idx_t2, idx_l2, isLT_l, isLT_t, count_str, bmTy, if_true, if_false, Bool.false_eq_true, Bool.not_true, Bool.not_false, true_and, and_true, decide_true, decide_false, wipeE, Tg.slots]
    exact ixN01 (hh.2 x hx) q2
  rw [List.nil_append]
  refine bm_join1 (by omega) ?_
  simp only [ex_seq, ex_asg, ex_asgO, ex_ite, ex_nop, ex_ret, ex_retO, ex_retF, ex_app, ex_frz, ex_seti, ev, args_tup, List.set, List.getElem?_cons_zero, List.getElem?_cons_succ, q_val, q_own, q_bl, q_int, q_lst, part_non, part_int, bi_lenS, bi_lenL, bi_lenT, bi_lenC, bi_intI, bi_intB, bi_max2, bi_max3, bi_min2, cmp_lt, cmp_le, cmp_gt, cmp_ge, cmp_eqI, cmp_eqT, cmp_eqB, cmp_neI, cmp_neT, cmp_neB, cmp_inT, cmp_ninT, sqD_l, sqD_t, bi_tupL, bi_tupT, bi_listL, bi_listT, isN_non, isN_int, isN_lst, isN_tup, isN_ins, isi_int, isi_intB, isi_blB, isi_tup, isi_strS, cmp_is, cmp_isn, cmp_isB, cmp_isnB, bin_add, bin_sub, bin_mul, bin_fdiv, bin_mod, Vg.un_neg, idx_l0, idx_l1, idx_t0, idx_t1, idx_t2, idx_l2, isLT_l, isLT_t, count_str, bmTy, if_true, if_false, Bool.false_eq_true, Bool.not_true, Bool.not_false, true_and, and_true, decide_true, decide_false, List.length_cons, List.length_nil, List.length_map]
  refine ⟨by omega, by omega, ?_⟩
  have := q (band9 lo hi at_) o8 (band9_ok hl hh h1)
  rw [bdE, List.map_append] at this
  exact this
theorem bd8 (hl : B01 per lo) (hh : B01 per hi) (hr : r < per) (ha : at_ ≤ 1) (hp : per ≤ 4) (hn : rs.length ≤ 4) (q : ∀ rw lo hi o8, RowOk per rw → D.nx (bdE per row (rs ++ [rw]) r lo hi at_ o7 o8)) : ex (sem P k) bdT8 (bdE per row rs r lo hi at_ o7 o8) D := by
  generalize e9 : bdT9 = T9
  simp only [ex_seq, ex_asg, ex_asgO, ex_ite, ex_nop, ex_ret, ex_retO, ex_retF, ex_app, ex_frz, ex_seti, ev, args_tup, List.set, List.getElem?_cons_zero, List.getElem?_cons_succ, q_val, q_own, q_bl, q_int, q_lst, part_non, part_int, bi_lenS, bi_lenL, bi_lenT, bi_lenC, bi_intI, bi_intB, bi_max2, bi_max3, bi_min2, cmp_lt, cmp_le, cmp_gt, cmp_ge, cmp_eqI, cmp_eqT, cmp_eqB, cmp_neI, cmp_neT, cmp_neB, cmp_inT, cmp_ninT, sqD_l, sqD_t, bi_tupL, bi_tupT, bi_listL, bi_listT, isN_non, isN_int, isN_lst, isN_tup, isN_ins, isi_int, isi_intB, isi_blB, isi_tup, isi_strS, cmp_is, cmp_isn, cmp_isB, cmp_isnB, bin_add, bin_sub, bin_mul, bin_fdiv, bin_mod, Vg.un_neg, idx_l0, idx_l1, idx_t0, idx_t1, idx_t2, idx_l2, isLT_l, isLT_t, count_str, bmTy, if_true, if_false, Bool.false_eq_true, Bool.not_true, Bool.not_false, true_and, and_true, decide_true, decide_false, bdT8, ex_lendE]
  refine sum_nats ?_
  simp only [ex_seq, ex_asg, ex_asgO, ex_ite, ex_nop, ex_ret, ex_retO, ex_retF, ex_app, ex_frz, ex_seti, ev, args_tup, List.set, List.getElem?_cons_zero, List.getElem?_cons_succ, q_val, q_own, q_bl, q_int, q_lst, part_non, part_int, bi_lenS, bi_lenL, bi_lenT, bi_lenC, bi_intI, bi_intB, bi_max2, bi_max3, bi_min2, cmp_lt, cmp_le, cmp_gt, cmp_ge, cmp_eqI, cmp_eqT, cmp_eqB, cmp_neI, cmp_neT, cmp_neB, cmp_inT, cmp_ninT, sqD_l, sqD_t, bi_tupL, bi_tupT, bi_listL, bi_listT, isN_non, isN_int, isN_lst, isN_tup, isN_ins, isi_int, isi_intB, isi_blB, isi_tup, isi_strS, cmp_is, cmp_isn, cmp_isB, cmp_isnB, bin_add, bin_sub, bin_mul, bin_fdiv, bin_mod, Vg.un_neg, idx_l0, idx_l1, idx_t0, idx_t1, idx_t2, idx_l2, isLT_l, isLT_t, count_str, bmTy, if_true, if_false, Bool.false_eq_true, Bool.not_true, Bool.not_false, true_and, and_true, decide_true, decide_false]
  by_cases h : hi.sum = 0
  · rw [if_pos (decide_eq_true (by omega))]
    refine ⟨rfl, ?_⟩
    refine ⟨_, _, rfl, ixN_nat (by rw [List.length_map, hh.1]; exact hr), ?_⟩
    subst e9
    have := bd9 (k := k) (row := row) (r := r) (o7 := o7) (o8 := o8) (D := D) hl (hh.set r) (mem_set1 (by rw [hh.1]; exact hr)) ha hp hn fun rw o8 ok => q rw _ _ o8 ok
    rw [bdE, List.map_set] at this
    exact this
  · rw [if_neg (nd (by omega))]
    refine ⟨rfl, ?_⟩
    subst e9
    exact bd9 (k := k) hl hh (sum_01 hh.2 h) ha hp hn fun rw o8 ok => q rw _ _ o8 ok
theorem row0 (R : RwB per row) {R' : DV → Prop} (q : R' (nI (row.getD 0 0))) : idxS (.lst (row.map nI)) (.int 0) R' := idxN (n := 0) (by rw [R.len]; omega) q
theorem bd7 (R : RwB per row) (hl : B01 per lo) (hh : B01 per hi) (hr : r < per) (ha : at_ ≤ 1) (hp : per ≤ 4) (hn : rs.length ≤ 4) (q : ∀ rw lo hi at_ o7 o8, RowOk per rw → D.nx (bdE per row (rs ++ [rw]) r lo hi at_ o7 o8)) : ex (sem P k) bdT7 (bdE per row rs r lo hi at_ o7 o8) D := by
  have zz := sz
  generalize e9 : bdT8 = T9
  simp only [ex_seq, ex_asg, ex_asgO, ex_ite, ex_nop, ex_ret, ex_retO, ex_retF, ex_app, ex_frz, ex_seti, ev, args_tup, List.set, List.getElem?_cons_zero, List.getElem?_cons_succ, q_val, q_own, q_bl, q_int, q_lst, part_non, part_int, bi_lenS, bi_lenL, bi_lenT, bi_lenC, bi_intI, bi_intB, bi_max2, bi_max3, bi_min2, cmp_lt, cmp_le, cmp_gt, cmp_ge, cmp_eqI, cmp_eqT, cmp_eqB, cmp_neI, cmp_neT, cmp_neB, cmp_inT, cmp_ninT, sqD_l, sqD_t, bi_tupL, bi_tupT, bi_listL, bi_listT, isN_non, isN_int, isN_lst, isN_tup, isN_ins, isi_int, isi_intB, isi_blB, isi_tup, isi_strS, cmp_is, cmp_isn, cmp_isB, cmp_isnB, bin_add, bin_sub, bin_mul, bin_fdiv, bin_mod, Vg.un_neg, idx_l0, idx_l1, idx_t0, idx_t1, idx_t2, idx_l2, isLT_l, isLT_t, count_str, bmTy, if_true, if_false, Bool.false_eq_true, Bool.not_true, Bool.not_false, true_and, and_true, decide_true, decide_false, bdT7]
  refine row0 R ?_
  simp only [ex_seq, ex_asg, ex_asgO, ex_ite, ex_nop, ex_ret, ex_retO, ex_retF, ex_app, ex_frz, ex_seti, ev, args_tup, List.set, List.getElem?_cons_zero, List.getElem?_cons_succ, q_val, q_own, q_bl, q_int, q_lst, part_non, part_int, bi_lenS, bi_lenL, bi_lenT, bi_lenC, bi_intI, bi_intB, bi_max2, bi_max3, bi_min2, cmp_lt, cmp_le, cmp_gt, cmp_ge, cmp_eqI, cmp_eqT, cmp_eqB, cmp_neI, cmp_neT, cmp_neB, cmp_inT, cmp_ninT, sqD_l, sqD_t, bi_tupL, bi_tupT, bi_listL, bi_listT, isN_non, isN_int, isN_lst, isN_tup, isN_ins, isi_int, isi_intB, isi_blB, isi_tup, isi_strS, cmp_is, cmp_isn, cmp_isB, cmp_isnB, bin_add, bin_sub, bin_mul, bin_fdiv, bin_mod, Vg.un_neg, idx_l0, idx_l1, idx_t0, idx_t1, idx_t2, idx_l2, isLT_l, isLT_t, count_str, bmTy, if_true, if_false, Bool.false_eq_true, Bool.not_true, Bool.not_false, true_and, and_true, decide_true, decide_false]
  by_cases h : row.getD 0 0 = 5
  · rw [if_pos (decide_eq_true (by omega))]
    refine ⟨by omega, by omega, _, rfl, ?_⟩
    rw [Int.toNat_natCast]
    refine lc_mapA (fun x : Nat => nI x) (fun x => nI 0) (fun Γ' K h => h) (fun x hx K hk => hk _ fun K2 q2 => q2) (by simp; omega) ?_
    rw [List.nil_append]
    subst e9
    have := bd8 (k := k) (row := row) (rs := rs) (r := r) (hi := hi) (o7 := o7) (o8 := o8) (D := D) (B01.map (per := per) (f := fun _ => 0) fun _ _ => Nat.zero_le _) hh hr ha hp hn fun rw lo hi o8 ok => q rw lo hi _ _ o8 ok
    rw [bdE, List.map_map] at this
    exact this
  · rw [if_neg (nd (by omega))]
    subst e9
    exact bd8 (k := k) hl hh hr ha hp hn fun rw lo hi o8 ok => q rw lo hi _ _ o8 ok
theorem bd6 (R : RwB per row) (hl : B01 per lo) (hh : B01 per hi) (hr : r < per) (ha : at_ ≤ 1) (hp : per ≤ 4) (hn : rs.length ≤ 4) (q : ∀ rw lo hi at_ o7 o8, RowOk per rw → D.nx (bdE per row (rs ++ [rw]) r lo hi at_ o7 o8)) : ex (sem P k) bdT6 (bdE per row rs r lo hi at_ o7 o8) D := by
  have zz := sz
  generalize e9 : bdT7 = T9
  simp only [ex_seq, ex_asg, ex_asgO, ex_ite, ex_nop, ex_ret, ex_retO, ex_retF, ex_app, ex_frz, ex_seti, ev, args_tup, List.set, List.getElem?_cons_zero, List.getElem?_cons_succ, q_val, q_own, q_bl, q_int, q_lst, part_non, part_int, bi_lenS, bi_lenL, bi_lenT, bi_lenC, bi_intI, bi_intB, bi_max2, bi_max3, bi_min2, cmp_lt, cmp_le, cmp_gt, cmp_ge, cmp_eqI, cmp_eqT, cmp_eqB, cmp_neI, cmp_neT, cmp_neB, cmp_inT, cmp_ninT, sqD_l, sqD_t, bi_tupL, bi_tupT, bi_listL, bi_listT, isN_non, isN_int, isN_lst, isN_tup, isN_ins, isi_int, isi_intB, isi_blB, isi_tup, isi_strS, cmp_is, cmp_isn, cmp_isB, cmp_isnB, bin_add, bin_sub, bin_mul, bin_fdiv, bin_mod, Vg.un_neg, idx_l0, idx_l1, idx_t0, idx_t1, idx_t2, idx_l2, isLT_l, isLT_t, count_str, bmTy, if_true, if_false, Bool.false_eq_true, Bool.not_true, Bool.not_false, true_and, and_true, decide_true, decide_false, bdT6]
  refine row0 R ?_
  simp only [ex_seq, ex_asg, ex_asgO, ex_ite, ex_nop, ex_ret, ex_retO, ex_retF, ex_app, ex_frz, ex_seti, ev, args_tup, List.set, List.getElem?_cons_zero, List.getElem?_cons_succ, q_val, q_own, q_bl, q_int, q_lst, part_non, part_int, bi_lenS, bi_lenL, bi_lenT, bi_lenC, bi_intI, bi_intB, bi_max2, bi_max3, bi_min2, cmp_lt, cmp_le, cmp_gt, cmp_ge, cmp_eqI, cmp_eqT, cmp_eqB, cmp_neI, cmp_neT, cmp_neB, cmp_inT, cmp_ninT, sqD_l, sqD_t, bi_tupL, bi_tupT, bi_listL, bi_listT, isN_non, isN_int, isN_lst, isN_tup, isN_ins, isi_int, isi_intB, isi_blB, isi_tup, isi_strS, cmp_is, cmp_isn, cmp_isB, cmp_isnB, bin_add, bin_sub, bin_mul, bin_fdiv, bin_mod, Vg.un_neg, idx_l0, idx_l1, idx_t0, idx_t1, idx_t2, idx_l2, isLT_l, isLT_t, count_str, bmTy, if_true, if_false, Bool.false_eq_true, Bool.not_true, Bool.not_false, true_and, and_true, decide_true, decide_false]
  by_cases h : row.getD 0 0 = 4
  · rw [if_pos (decide_eq_true (by omega))]
    refine ⟨by omega, by omega, _, rfl, ?_⟩
    rw [Int.toNat_natCast]
    refine lc_mapA (fun x : Nat => nI x) (fun x => nI (lo.getD x 0 * hi.getD x 0)) (fun Γ' K h => h) (fun x hx K hk => hk _ fun K2 q2 => ?_) (by simp; omega) ?_
    · have hx := List.mem_range.1 hx
      simp only [ex_seq, ex_asg, ex_asgO, ex_ite, ex_nop, ex_ret, ex_retO, ex_retF, ex_app, ex_frz, ex_seti, ev, args_tup, List.set, List.getElem?_cons_zero, List.getElem?_cons_succ, q_val, q_own, q_bl, q_int, q_lst, part_non, part_int, bi_lenS, bi_lenL, bi_lenT, bi_lenC, bi_intI, bi_intB, bi_max2, bi_max3, bi_min2, cmp_lt, cmp_le, cmp_gt, cmp_ge, cmp_eqI, cmp_eqT, cmp_eqB, cmp_neI, cmp_neT, cmp_neB, cmp_inT, cmp_ninT, sqD_l, sqD_t, bi_tupL, bi_tupT, bi_listL, bi_listT, isN_non, isN_int, isN_lst, isN_tup, isN_ins, isi_int, isi_intB, isi_blB, isi_tup, isi_strS, cmp_is, cmp_isn, cmp_isB, cmp_isnB, bin_add, bin_sub, bin_mul, bin_fdiv, bin_mod, Vg.un_neg, idx_l0, idx_l1, idx_t0, idx_t1, idx_t2, idx_l2, isLT_l, isLT_t, count_str, bmTy, if_true, if_false, Bool.false_eq_true, Bool.not_true, Bool.not_false, true_and, and_true, decide_true, decide_false, wipeE, Tg.slots]
      refine ⟨_, _, rfl, atI_map (by rw [hl.1]; exact hx), ?_⟩
      refine ⟨_, _, rfl, atI_map (by rw [hh.1]; exact hx), ?_⟩
      have a := hl.get x
      simp only [ex_seq, ex_asg, ex_asgO, ex_ite, ex_nop, ex_ret, ex_retO, ex_retF, ex_app, ex_frz, ex_seti, ev, args_tup, List.set, List.getElem?_cons_zero, List.getElem?_cons_succ, q_val, q_own, q_bl, q_int, q_lst, part_non, part_int, bi_lenS, bi_lenL, bi_lenT, bi_lenC, bi_intI, bi_intB, bi_max2, bi_max3, bi_min2, cmp_lt, cmp_le, cmp_gt, cmp_ge, cmp_eqI, cmp_eqT, cmp_eqB, cmp_neI, cmp_neT, cmp_neB, cmp_inT, cmp_ninT, sqD_l, sqD_t, bi_tupL, bi_tupT, bi_listL, bi_listT, isN_non, isN_int, isN_lst, isN_tup, isN_ins, isi_int, isi_intB, isi_blB, isi_tup, isi_strS, cmp_is, cmp_isn, cmp_isB, cmp_isnB, bin_add, bin_sub, bin_mul, bin_fdiv, bin_mod, Vg.un_neg, idx_l0, idx_l1, idx_t0, idx_t1, idx_t2, idx_l2, isLT_l, isLT_t, count_str, bmTy, if_true, if_false, Bool.false_eq_true, Bool.not_true, Bool.not_false, true_and, and_true, decide_true, decide_false]
      exact ⟨.inl ⟨by omega, by omega⟩, q2⟩
    rw [List.nil_append]
    subst e9
    have := bd7 (k := k) (row := row) (rs := rs) (r := r) (hi := hi) (o7 := o7) (o8 := o8) (D := D) R (B01.map (per := per) (f := fun x => lo.getD x 0 * hi.getD x 0) fun c _ => by
      have a := hl.get c
      have b := hh.get c
      have := Nat.mul_le_mul a b
      omega) hh hr ha hp hn q
    rw [bdE, List.map_map] at this
    exact this
  · rw [if_neg (nd (by omega))]
    subst e9
    exact bd7 (k := k) R hl hh hr ha hp hn q
section
variable (R : RwB per row) (hm : row.getD 0 0 ≤ 3) (hr : r < per) (ha : at_ ≤ 1) (hp : per ≤ 4) (q : ∀ lo hi at_ o7 o8, B01 per lo → B01 per hi → at_ ≤ 1 → D.nx (bdE per row rs r lo hi at_ o7 o8))
include R hm hr ha hp q
theorem bda (hl : B01 per lo) (hh : B01 per hi) : ex (sem P k) bdTa (bdE per row rs r lo hi at_ o7 o8) D := by
  have zz := sz
  simp only [ex_seq, ex_asg, ex_asgO, ex_ite, ex_nop, ex_ret, ex_retO, ex_retF, ex_app, ex_frz, ex_seti, ev, args_tup, List.set, List.getElem?_cons_zero, List.getElem?_cons_succ, q_val, q_own, q_bl, q_int, q_lst, part_non, part_int, bi_lenS, bi_lenL, bi_lenT, bi_lenC, bi_intI, bi_intB, bi_max2, bi_max3, bi_min2, cmp_lt, cmp_le, cmp_gt, cmp_ge, cmp_eqI, cmp_eqT, cmp_eqB, cmp_neI, cmp_neT, cmp_neB, cmp_inT, cmp_ninT, sqD_l, sqD_t, bi_tupL, bi_tupT, bi_listL, bi_listT, isN_non, isN_int, isN_lst, isN_tup, isN_ins, isi_int, isi_intB, isi_blB, isi_tup, isi_strS, cmp_is, cmp_isn, cmp_isB, cmp_isnB, bin_add, bin_sub, bin_mul, bin_fdiv, bin_mod, Vg.un_neg, idx_l0, idx_l1, idx_t0, idx_t1, idx_t2, idx_l2, isLT_l, isLT_t, count_str, bmTy, if_true, if_false, Bool.false_eq_true, Bool.not_true, Bool.not_false, true_and, and_true, decide_true, decide_false, bdTa, List.length_cons, List.length_nil]
  refine ⟨by omega, row0 R ?_⟩
  have key : ∀ R' : DV → Prop, (∀ a, a ≤ 1 → R' (nI a)) → idxS (.lst [nI at_, nI at_, .int 1, .int 0]) (nI (row.getD 0 0)) R' := fun R' g => by
    have : row.getD 0 0 = 0 ∨ row.getD 0 0 = 1 ∨ row.getD 0 0 = 2 ∨ row.getD 0 0 = 3 := by omega
    rcases this with e | e | e | e <;> rw [e]
    · exact ⟨_, rfl, g at_ ha⟩
    · exact ⟨_, rfl, g at_ ha⟩
    · exact ⟨_, rfl, g 1 (Nat.le_refl _)⟩
    · exact ⟨_, rfl, g 0 (Nat.zero_le _)⟩
  refine key _ fun a ha => ?_
  refine ⟨_, _, rfl, atI_map (by rw [hl.1]; exact hr), ?_⟩
  have b := hl.get r
  simp only [ex_seq, ex_asg, ex_asgO, ex_ite, ex_nop, ex_ret, ex_retO, ex_retF, ex_app, ex_frz, ex_seti, ev, args_tup, List.set, List.getElem?_cons_zero, List.getElem?_cons_succ, q_val, q_own, q_bl, q_int, q_lst, part_non, part_int, bi_lenS, bi_lenL, bi_lenT, bi_lenC, bi_intI, bi_intB, bi_max2, bi_max3, bi_min2, cmp_lt, cmp_le, cmp_gt, cmp_ge, cmp_eqI, cmp_eqT, cmp_eqB, cmp_neI, cmp_neT, cmp_neB, cmp_inT, cmp_ninT, sqD_l, sqD_t, bi_tupL, bi_tupT, bi_listL, bi_listT, isN_non, isN_int, isN_lst, isN_tup, isN_ins, isi_int, isi_intB, isi_blB, isi_tup, isi_strS, cmp_is, cmp_isn, cmp_isB, cmp_isnB, bin_add, bin_sub, bin_mul, bin_fdiv, bin_mod, Vg.un_neg, idx_l0, idx_l1, idx_t0, idx_t1, idx_t2, idx_l2, isLT_l, isLT_t, count_str, bmTy, if_true, if_false, Bool.false_eq_true, Bool.not_true, Bool.not_false, true_and, and_true, decide_true, decide_false]
  refine ⟨.inl ⟨by omega, by omega⟩, ?_⟩
  have hm := Nat.mul_le_mul ha b
  exact q lo hi (a * lo.getD r 0) o7 o8 hl hh (by omega)
theorem bdb (hl : B01 per lo) (hh : B01 per hi) : ex (sem P k) bdTb (bdE per row rs r lo hi at_ o7 o8) D := by
  simp only [ex_seq, ex_asg, ex_asgO, ex_ite, ex_nop, ex_ret, ex_retO, ex_retF, ex_app, ex_frz, ex_seti, ev, args_tup, List.set, List.getElem?_cons_zero, List.getElem?_cons_succ, q_val, q_own, q_bl, q_int, q_lst, part_non, part_int, bi_lenS, bi_lenL, bi_lenT, bi_lenC, bi_intI, bi_intB, bi_max2, bi_max3, bi_min2, cmp_lt, cmp_le, cmp_gt, cmp_ge, cmp_eqI, cmp_eqT, cmp_eqB, cmp_neI, cmp_neT, cmp_neB, cmp_inT, cmp_ninT, sqD_l, sqD_t, bi_tupL, bi_tupT, bi_listL, bi_listT, isN_non, isN_int, isN_lst, isN_tup, isN_ins, isi_int, isi_intB, isi_blB, isi_tup, isi_strS, cmp_is, cmp_isn, cmp_isB, cmp_isnB, bin_add, bin_sub, bin_mul, bin_fdiv, bin_mod, Vg.un_neg, idx_l0, idx_l1, idx_t0, idx_t1, idx_t2, idx_l2, isLT_l, isLT_t, count_str, bmTy, if_true, if_false, Bool.false_eq_true, Bool.not_true, Bool.not_false, true_and, and_true, decide_true, decide_false, bdTb, ex_lendE]
  refine sum_nats ?_
  simp only [ex_seq, ex_asg, ex_asgO, ex_ite, ex_nop, ex_ret, ex_retO, ex_retF, ex_app, ex_frz, ex_seti, ev, args_tup, List.set, List.getElem?_cons_zero, List.getElem?_cons_succ, q_val, q_own, q_bl, q_int, q_lst, part_non, part_int, bi_lenS, bi_lenL, bi_lenT, bi_lenC, bi_intI, bi_intB, bi_max2, bi_max3, bi_min2, cmp_lt, cmp_le, cmp_gt, cmp_ge, cmp_eqI, cmp_eqT, cmp_eqB, cmp_neI, cmp_neT, cmp_neB, cmp_inT, cmp_ninT, sqD_l, sqD_t, bi_tupL, bi_tupT, bi_listL, bi_listT, isN_non, isN_int, isN_lst, isN_tup, isN_ins, isi_int, isi_intB, isi_blB, isi_tup, isi_strS, cmp_is, cmp_isn, cmp_isB, cmp_isnB, bin_add, bin_sub, bin_mul, bin_fdiv, bin_mod, Vg.un_neg, idx_l0, idx_l1, idx_t0, idx_t1, idx_t2, idx_l2, isLT_l, isLT_t, count_str, bmTy, if_true, if_false, Bool.false_eq_true, Bool.not_true, Bool.not_false, true_and, and_true, decide_true, decide_false]
  by_cases g : hi.sum = 0
  · rw [if_pos (decide_eq_true (by omega))]
    exact ⟨rfl, bda (k := k) R hm hr ha hp q hl hl⟩
  · rw [if_neg (nd (by omega))]
    refine row0 R ?_
    simp only [ex_seq, ex_asg, ex_asgO, ex_ite, ex_nop, ex_ret, ex_retO, ex_retF, ex_app, ex_frz, ex_seti, ev, args_tup, List.set, List.getElem?_cons_zero, List.getElem?_cons_succ, q_val, q_own, q_bl, q_int, q_lst, part_non, part_int, bi_lenS, bi_lenL, bi_lenT, bi_lenC, bi_intI, bi_intB, bi_max2, bi_max3, bi_min2, cmp_lt, cmp_le, cmp_gt, cmp_ge, cmp_eqI, cmp_eqT, cmp_eqB, cmp_neI, cmp_neT, cmp_neB, cmp_inT, cmp_ninT, sqD_l, sqD_t, bi_tupL, bi_tupT, bi_listL, bi_listT, isN_non, isN_int, isN_lst, isN_tup, isN_ins, isi_int, isi_intB, isi_blB, isi_tup, isi_strS, cmp_is, cmp_isn, cmp_isB, cmp_isnB, bin_add, bin_sub, bin_mul, bin_fdiv, bin_mod, Vg.un_neg, idx_l0, idx_l1, idx_t0, idx_t1, idx_t2, idx_l2, isLT_l, isLT_t, count_str, bmTy, if_true, if_false, Bool.false_eq_true, Bool.not_true, Bool.not_false, true_and, and_true, decide_true, decide_false]
    by_cases g3 : row.getD 0 0 = 3
    · rw [decide_eq_true (show ((row.getD 0 0 : Nat) : Int) = 3 by omega)]
      exact ⟨rfl, bda (k := k) R hm hr ha hp q hl hl⟩
    · rw [decide_eq_false (show ¬ ((row.getD 0 0 : Nat) : Int) = 3 by omega)]
      exact ⟨rfl, bda (k := k) R hm hr ha hp q hl hh⟩
theorem bdc (hl : B01 per lo) (hh : B01 per hi) : ex (sem P k) bdTc (bdE per row rs r lo hi at_ o7 o8) D := by
  have zz := sz
  simp only [ex_seq, ex_asg, ex_asgO, ex_ite, ex_nop, ex_ret, ex_retO, ex_retF, ex_app, ex_frz, ex_seti, ev, args_tup, List.set, List.getElem?_cons_zero, List.getElem?_cons_succ, q_val, q_own, q_bl, q_int, q_lst, part_non, part_int, bi_lenS, bi_lenL, bi_lenT, bi_lenC, bi_intI, bi_intB, bi_max2, bi_max3, bi_min2, cmp_lt, cmp_le, cmp_gt, cmp_ge, cmp_eqI, cmp_eqT, cmp_eqB, cmp_neI, cmp_neT, cmp_neB, cmp_inT, cmp_ninT, sqD_l, sqD_t, bi_tupL, bi_tupT, bi_listL, bi_listT, isN_non, isN_int, isN_lst, isN_tup, isN_ins, isi_int, isi_intB, isi_blB, isi_tup, isi_strS, cmp_is, cmp_isn, cmp_isB, cmp_isnB, bin_add, bin_sub, bin_mul, bin_fdiv, bin_mod, Vg.un_neg, idx_l0, idx_l1, idx_t0, idx_t1, idx_t2, idx_l2, isLT_l, isLT_t, count_str, bmTy, if_true, if_false, Bool.false_eq_true, Bool.not_true, Bool.not_false, true_and, and_true, decide_true, decide_false, bdTc]
  refine ⟨by omega, by omega, _, rfl, ?_⟩
  rw [Int.toNat_natCast]
  refine lc_mapA (fun x : Nat => nI x) (fun x => nI (hi.getD x 0 * lo.getD x 0)) (fun Γ' K h => h) (fun x hx K hk => hk _ fun K2 q2 => ?_) (by simp; omega) ?_
  · have hx := List.mem_range.1 hx
    simp only [ex_seq, ex_asg, ex_asgO, ex_ite, ex_nop, ex_ret, ex_retO, ex_retF, ex_app, ex_frz, ex_seti, ev, args_tup, List.set, List.getElem?_cons_zero, List.getElem?_cons_succ, q_val, q_own, q_bl, q_int, q_lst, part_non, part_int, bi_lenS, bi_lenL, bi_lenT, bi_lenC, bi_intI, bi_intB, bi_max2, bi_max3, bi_min2, cmp_lt, cmp_le, cmp_gt, cmp_ge, cmp_eqI, cmp_eqT, cmp_eqB, cmp_neI, cmp_neT, cmp_neB, cmp_inT, cmp_ninT, sqD_l, sqD_t, bi_tupL, bi_tupT, bi_listL, bi_listT, isN_non, isN_int, isN_lst, isN_tup, isN_ins, isi_int, isi_intB, isi_blB, isi_tup, isi_strS, cmp_is, cmp_isn, cmp_isB, cmp_isnB, bin_add, bin_sub, bin_mul, bin_fdiv, bin_mod, Vg.un_neg, idx_l0, idx_l1, idx_t0, idx_t1, idx_t2, idx_l2, isLT_l, isLT_t, count_str, bmTy, if_true, if_false, Bool.false_eq_true, Bool.not_true, Bool.not_false, true_and, and_true, decide_true, decide_false, wipeE, Tg.slots]
    refine ⟨_, _, rfl, atI_map (by rw [hh.1]; exact hx), ?_⟩
    refine ⟨_, _, rfl, atI_map (by rw [hl.1]; exact hx), ?_⟩
    have a := hh.get x
    simp only [ex_seq, ex_asg, ex_asgO, ex_ite, ex_nop, ex_ret, ex_retO, ex_retF, ex_app, ex_frz, ex_seti, ev, args_tup, List.set, List.getElem?_cons_zero, List.getElem?_cons_succ, q_val, q_own, q_bl, q_int, q_lst, part_non, part_int, bi_lenS, bi_lenL, bi_lenT, bi_lenC, bi_intI, bi_intB, bi_max2, bi_max3, bi_min2, cmp_lt, cmp_le, cmp_gt, cmp_ge, cmp_eqI, cmp_eqT, cmp_eqB, cmp_neI, cmp_neT, cmp_neB, cmp_inT, cmp_ninT, sqD_l, sqD_t, bi_tupL, bi_tupT, bi_listL, bi_listT, isN_non, isN_int, isN_lst, isN_tup, isN_ins, isi_int, isi_intB, isi_blB, isi_tup, isi_strS, cmp_is, cmp_isn, cmp_isB, cmp_isnB, bin_add, bin_sub, bin_mul, bin_fdiv, bin_mod, Vg.un_neg, idx_l0, idx_l1, idx_t0, idx_t1, idx_t2, idx_l2, isLT_l, isLT_t, count_str, bmTy, if_true, if_false, Bool.false_eq_true, Bool.not_true, Bool.not_false, true_and, and_true, decide_true, decide_false]
    exact ⟨.inl ⟨by omega, by omega⟩, q2⟩
  rw [List.nil_append, show ((List.range per).map fun x => nI (hi.getD x 0 * lo.getD x 0)) = ((List.range per).map fun x => hi.getD x 0 * lo.getD x 0).map nI by rw [List.map_map]; rfl]
  refine bdb (k := k) R hm hr ha hp q hl (B01.map fun c _ => ?_)
  have a := hh.get c
  have b := hl.get c
  have := Nat.mul_le_mul a b
  omega
theorem bdd (hl : B01 per lo) (hh : B01 per hi) : ex (sem P k) bdTd (bdE per row rs r lo hi at_ o7 o8) D := by
  simp only [ex_seq, ex_asg, ex_asgO, ex_ite, ex_nop, ex_ret, ex_retO, ex_retF, ex_app, ex_frz, ex_seti, ev, args_tup, List.set, List.getElem?_cons_zero, List.getElem?_cons_succ, q_val, q_own, q_bl, q_int, q_lst, part_non, part_int, bi_lenS, bi_lenL, bi_lenT, bi_lenC, bi_intI, bi_intB, bi_max2, bi_max3, bi_min2, cmp_lt, cmp_le, cmp_gt, cmp_ge, cmp_eqI, cmp_eqT, cmp_eqB, cmp_neI, cmp_neT, cmp_neB, cmp_inT, cmp_ninT, sqD_l, sqD_t, bi_tupL, bi_tupT, bi_listL, bi_listT, isN_non, isN_int, isN_lst, isN_tup, isN_ins, isi_int, isi_intB, isi_blB, isi_tup, isi_strS, cmp_is, cmp_isn, cmp_isB, cmp_isnB, bin_add, bin_sub, bin_mul, bin_fdiv, bin_mod, Vg.un_neg, idx_l0, idx_l1, idx_t0, idx_t1, idx_t2, idx_l2, isLT_l, isLT_t, count_str, bmTy, if_true, if_false, Bool.false_eq_true, Bool.not_true, Bool.not_false, true_and, and_true, decide_true, decide_false, bdTd, ex_lendE]
  refine sum_nats ?_
  simp only [ex_seq, ex_asg, ex_asgO, ex_ite, ex_nop, ex_ret, ex_retO, ex_retF, ex_app, ex_frz, ex_seti, ev, args_tup, List.set, List.getElem?_cons_zero, List.getElem?_cons_succ, q_val, q_own, q_bl, q_int, q_lst, part_non, part_int, bi_lenS, bi_lenL, bi_lenT, bi_lenC, bi_intI, bi_intB, bi_max2, bi_max3, bi_min2, cmp_lt, cmp_le, cmp_gt, cmp_ge, cmp_eqI, cmp_eqT, cmp_eqB, cmp_neI, cmp_neT, cmp_neB, cmp_inT, cmp_ninT, sqD_l, sqD_t, bi_tupL, bi_tupT, bi_listL, bi_listT, isN_non, isN_int, isN_lst, isN_tup, isN_ins, isi_int, isi_intB, isi_blB, isi_tup, isi_strS, cmp_is, cmp_isn, cmp_isB, cmp_isnB, bin_add, bin_sub, bin_mul, bin_fdiv, bin_mod, Vg.un_neg, idx_l0, idx_l1, idx_t0, idx_t1, idx_t2, idx_l2, isLT_l, isLT_t, count_str, bmTy, if_true, if_false, Bool.false_eq_true, Bool.not_true, Bool.not_false, true_and, and_true, decide_true, decide_false]
  by_cases g : lo.sum = 0
  · rw [if_pos (decide_eq_true (by omega))]
    refine ⟨rfl, _, _, rfl, ixN_nat (by rw [List.length_map, hl.1]; exact hr), ?_⟩
    have := bdc (k := k) (o7 := o7) (o8 := o8) R hm hr ha hp q (hl.set r) hh
    rw [bdE, List.map_set] at this
    exact this
  · rw [if_neg (nd (by omega))]
    exact ⟨rfl, bdc (k := k) R hm hr ha hp q hl hh⟩
end
theorem bd5 (R : RwB per row) (hl : B01 per lo) (hh : B01 per hi) (hr : r < per) (ha : at_ ≤ 1) (hp : per ≤ 4) (hn : rs.length ≤ 4) (q : ∀ rw lo hi at_ o7 o8, RowOk per rw → D.nx (bdE per row (rs ++ [rw]) r lo hi at_ o7 o8)) : ex (sem P k) bdT5 (bdE per row rs r lo hi at_ o7 o8) D := by
  simp only [ex_seq, ex_asg, ex_asgO, ex_ite, ex_nop, ex_ret, ex_retO, ex_retF, ex_app, ex_frz, ex_seti, ev, args_tup, List.set, List.getElem?_cons_zero, List.getElem?_cons_succ, q_val, q_own, q_bl, q_int, q_lst, part_non, part_int, bi_lenS, bi_lenL, bi_lenT, bi_lenC, bi_intI, bi_intB, bi_max2, bi_max3, bi_min2, cmp_lt, cmp_le, cmp_gt, cmp_ge, cmp_eqI, cmp_eqT, cmp_eqB, cmp_neI, cmp_neT, cmp_neB, cmp_inT, cmp_ninT, sqD_l, sqD_t, bi_tupL, bi_tupT, bi_listL, bi_listT, isN_non, isN_int, isN_lst, isN_tup, isN_ins, isi_int, isi_intB, isi_blB, isi_tup, isi_strS, cmp_is, cmp_isn, cmp_isB, cmp_isnB, bin_add, bin_sub, bin_mul, bin_fdiv, bin_mod, Vg.un_neg, idx_l0, idx_l1, idx_t0, idx_t1, idx_t2, idx_l2, isLT_l, isLT_t, count_str, bmTy, if_true, if_false, Bool.false_eq_true, Bool.not_true, Bool.not_false, true_and, and_true, decide_true, decide_false, bdT5]
  refine row0 R ?_
  simp only [ex_seq, ex_asg, ex_asgO, ex_ite, ex_nop, ex_ret, ex_retO, ex_retF, ex_app, ex_frz, ex_seti, ev, args_tup, List.set, List.getElem?_cons_zero, List.getElem?_cons_succ, q_val, q_own, q_bl, q_int, q_lst, part_non, part_int, bi_lenS, bi_lenL, bi_lenT, bi_lenC, bi_intI, bi_intB, bi_max2, bi_max3, bi_min2, cmp_lt, cmp_le, cmp_gt, cmp_ge, cmp_eqI, cmp_eqT, cmp_eqB, cmp_neI, cmp_neT, cmp_neB, cmp_inT, cmp_ninT, sqD_l, sqD_t, bi_tupL, bi_tupT, bi_listL, bi_listT, isN_non, isN_int, isN_lst, isN_tup, isN_ins, isi_int, isi_intB, isi_blB, isi_tup, isi_strS, cmp_is, cmp_isn, cmp_isB, cmp_isnB, bin_add, bin_sub, bin_mul, bin_fdiv, bin_mod, Vg.un_neg, idx_l0, idx_l1, idx_t0, idx_t1, idx_t2, idx_l2, isLT_l, isLT_t, count_str, bmTy, if_true, if_false, Bool.false_eq_true, Bool.not_true, Bool.not_false, true_and, and_true, decide_true, decide_false]
  by_cases h : row.getD 0 0 ≤ 3
  · rw [if_pos (decide_eq_true (by omega))]
    exact bdd (k := k) R h hr ha hp (fun lo hi at_ o7 o8 hl hh ha => bd6 (k := k) R hl hh hr ha hp hn q) hl hh
  · rw [if_neg (nd (by omega))]
    exact bd6 (k := k) R hl hh hr ha hp hn q
theorem law_band (R : RwB per row) (hp0 : 0 < per) (hp : per ≤ 4) (q : ∀ rs, BandOk rs → rs.length = per → Q (.lst (rs.map rowL))) : (sem P (k + 1)).F i__law_band [nI per, .lst (row.map nI)] Q := by
  have zz := sz
  have lenR := R.len
  refine run_f rfl rfl rfl ?_
  show ex (sem P k) (.seq (.asgO 2 (.lst .nil)) (.seq (.for_ (.one 3) (.rng1 (.var 0)) (.seq _ (.seq _ (.seq _ bdT5)))) (.retO 2))) [some (.val (nI per)), some (.val (.lst (row.map nI))), none, none, none, none, none, none, none] (endsN Q)
  rw [ex_seq, ex_asgO]
  simp only [ev, args_tup, List.set, List.getElem?_cons_zero, List.getElem?_cons_succ, q_val, q_own, q_bl, q_int, q_lst, part_non, part_int, bi_lenS, bi_lenL, bi_lenT, bi_lenC, bi_intI, bi_intB, bi_max2, bi_max3, bi_min2, cmp_lt, cmp_le, cmp_gt, cmp_ge, cmp_eqI, cmp_eqT, cmp_eqB, cmp_neI, cmp_neT, cmp_neB, cmp_inT, cmp_ninT, sqD_l, sqD_t, bi_tupL, bi_tupT, bi_listL, bi_listT, isN_non, isN_int, isN_lst, isN_tup, isN_ins, isi_int, isi_intB, isi_blB, isi_tup, isi_strS, cmp_is, cmp_isn, cmp_isB, cmp_isnB, bin_add, bin_sub, bin_mul, bin_fdiv, bin_mod, Vg.un_neg, idx_l0, idx_l1, idx_t0, idx_t1, idx_t2, idx_l2, isLT_l, isLT_t, count_str, bmTy, if_true, if_false, Bool.false_eq_true, Bool.not_true, Bool.not_false, true_and, and_true, decide_true, decide_false]
  refine ⟨Nat.zero_le _, ?_⟩
  rw [ex_seq]
  refine ex_for ?_
  simp only [ev, args_tup, List.set, List.getElem?_cons_zero, List.getElem?_cons_succ, q_val, q_own, q_bl, q_int, q_lst, part_non, part_int, bi_lenS, bi_lenL, bi_lenT, bi_lenC, bi_intI, bi_intB, bi_max2, bi_max3, bi_min2, cmp_lt, cmp_le, cmp_gt, cmp_ge, cmp_eqI, cmp_eqT, cmp_eqB, cmp_neI, cmp_neT, cmp_neB, cmp_inT, cmp_ninT, sqD_l, sqD_t, bi_tupL, bi_tupT, bi_listL, bi_listT, isN_non, isN_int, isN_lst, isN_tup, isN_ins, isi_int, isi_intB, isi_blB, isi_tup, isi_strS, cmp_is, cmp_isn, cmp_isB, cmp_isnB, bin_add, bin_sub, bin_mul, bin_fdiv, bin_mod, Vg.un_neg, idx_l0, idx_l1, idx_t0, idx_t1, idx_t2, idx_l2, isLT_l, isLT_t, count_str, bmTy, if_true, if_false, Bool.false_eq_true, Bool.not_true, Bool.not_false, true_and, and_true, decide_true, decide_false]
  refine ⟨by omega, by omega, _, rfl, ?_⟩
  rw [Int.toNat_natCast]
  refine for_one (fun i Γ => ∃ rs o3 o4 o5 o6 o7 o8, rs.length = i ∧ (∀ r ∈ rs, RowOk per r) ∧ Γ = [some (.val (nI per)), some (.val (.lst (row.map nI))), some (.own (rs.map rowL)), o3, o4, o5, o6, o7, o8]) ?_ ?_ ⟨[], _, _, _, _, _, _, rfl, by simp, rfl⟩
  · rintro i x Γ D' hx hi2 ⟨rs, o3, o4, o5, o6, o7, o8, hrl, hrs, rfl⟩ e1 e2 e3 nx ct
    rw [List.length_map, List.length_range] at hi2
    rw [List.getElem?_map, List.getElem?_range hi2] at hx
    cases hx
    have hj : ∀ c, c < per → i * per + c < per * per := fun c hc => by
      have : (i + 1) * per ≤ per * per := Nat.mul_le_mul_right _ hi2
      rw [Nat.add_mul, Nat.one_mul] at this
      omega
    have hpp : per * per ≤ 4 * 4 := Nat.mul_le_mul hp hp
    have ip : i * per ≤ 4 * 4 := Nat.mul_le_mul (by omega) hp
    simp only [ex_seq, ex_asg, ex_asgO, ex_ite, ex_nop, ex_ret, ex_retO, ex_retF, ex_app, ex_frz, ex_seti, ev, args_tup, List.set, List.getElem?_cons_zero, List.getElem?_cons_succ, q_val, q_own, q_bl, q_int, q_lst, part_non, part_int, bi_lenS, bi_lenL, bi_lenT, bi_lenC, bi_intI, bi_intB, bi_max2, bi_max3, bi_min2, cmp_lt, cmp_le, cmp_gt, cmp_ge, cmp_eqI, cmp_eqT, cmp_eqB, cmp_neI, cmp_neT, cmp_neB, cmp_inT, cmp_ninT, sqD_l, sqD_t, bi_tupL, bi_tupT, bi_listL, bi_listT, isN_non, isN_int, isN_lst, isN_tup, isN_ins, isi_int, isi_intB, isi_blB, isi_tup, isi_strS, cmp_is, cmp_isn, cmp_isB, cmp_isnB, bin_add, bin_sub, bin_mul, bin_fdiv, bin_mod, Vg.un_neg, idx_l0, idx_l1, idx_t0, idx_t1, idx_t2, idx_l2, isLT_l, isLT_t, count_str, bmTy, if_true, if_false, Bool.false_eq_true, Bool.not_true, Bool.not_false, true_and, and_true, decide_true, decide_false]
    refine ⟨by omega, by omega, _, rfl, ?_⟩
    rw [Int.toNat_natCast]
    refine lc_mapA (fun x : Nat => nI x) (fun c => nI (if row.getD (1 + 2 * (i * per + c)) 0 > 0 then 1 else 0)) (fun Γ' K h => h) (fun c hc K hk => hk _ fun K2 q2 => ?_) (by simp; omega) ?_
    · have hc := hj c (List.mem_range.1 hc)
      simp only [ex_seq, ex_asg, ex_asgO, ex_ite, ex_nop, ex_ret, ex_retO, ex_retF, ex_app, ex_frz, ex_seti, ev, args_tup, List.set, List.getElem?_cons_zero, List.getElem?_cons_succ, q_val, q_own, q_bl, q_int, q_lst, part_non, part_int, bi_lenS, bi_lenL, bi_lenT, bi_lenC, bi_intI, bi_intB, bi_max2, bi_max3, bi_min2, cmp_lt, cmp_le, cmp_gt, cmp_ge, cmp_eqI, cmp_eqT, cmp_eqB, cmp_neI, cmp_neT, cmp_neB, cmp_inT, cmp_ninT, sqD_l, sqD_t, bi_tupL, bi_tupT, bi_listL, bi_listT, isN_non, isN_int, isN_lst, isN_tup, isN_ins, isi_int, isi_intB, isi_blB, isi_tup, isi_strS, cmp_is, cmp_isn, cmp_isB, cmp_isnB, bin_add, bin_sub, bin_mul, bin_fdiv, bin_mod, Vg.un_neg, idx_l0, idx_l1, idx_t0, idx_t1, idx_t2, idx_l2, isLT_l, isLT_t, count_str, bmTy, if_true, if_false, Bool.false_eq_true, Bool.not_true, Bool.not_false, true_and, and_true, decide_true, decide_false, wipeE, Tg.slots]
      refine ⟨.inl ⟨by omega, by omega⟩, .inl ⟨by decide, by decide⟩, ?_⟩
      rw [show ((1 : Int) + 2 * ((i : Int) * (per : Int) + (c : Int))) = ((1 + 2 * (i * per + c) : Nat) : Int) by simp only [Int.natCast_add, Int.natCast_mul]; rfl]
      refine idxN (by omega) ?_
      simp only [ex_seq, ex_asg, ex_asgO, ex_ite, ex_nop, ex_ret, ex_retO, ex_retF, ex_app, ex_frz, ex_seti, ev, args_tup, List.set, List.getElem?_cons_zero, List.getElem?_cons_succ, q_val, q_own, q_bl, q_int, q_lst, part_non, part_int, bi_lenS, bi_lenL, bi_lenT, bi_lenC, bi_intI, bi_intB, bi_max2, bi_max3, bi_min2, cmp_lt, cmp_le, cmp_gt, cmp_ge, cmp_eqI, cmp_eqT, cmp_eqB, cmp_neI, cmp_neT, cmp_neB, cmp_inT, cmp_ninT, sqD_l, sqD_t, bi_tupL, bi_tupT, bi_listL, bi_listT, isN_non, isN_int, isN_lst, isN_tup, isN_ins, isi_int, isi_intB, isi_blB, isi_tup, isi_strS, cmp_is, cmp_isn, cmp_isB, cmp_isnB, bin_add, bin_sub, bin_mul, bin_fdiv, bin_mod, Vg.un_neg, idx_l0, idx_l1, idx_t0, idx_t1, idx_t2, idx_l2, isLT_l, isLT_t, count_str, bmTy, if_true, if_false, Bool.false_eq_true, Bool.not_true, Bool.not_false, true_and, and_true, decide_true, decide_false]
      by_cases g : row.getD (1 + 2 * (i * per + c)) 0 > 0
      · rw [if_pos g] at q2
        rw [if_pos (decide_eq_true (by omega))]
        exact q2
      · rw [if_neg g] at q2
        rw [if_neg (nd (by omega))]
        exact q2
    rw [List.nil_append]
    refine ⟨by omega, by omega, _, rfl, ?_⟩
    refine lc_mapA (fun x : Nat => nI x) (fun c => nI (row.getD (2 + 2 * (i * per + c)) 0)) (fun Γ' K h => h) (fun c hc K hk => hk _ fun K2 q2 => ?_) (by simp; omega) ?_
    · have hc := hj c (List.mem_range.1 hc)
      simp only [ex_seq, ex_asg, ex_asgO, ex_ite, ex_nop, ex_ret, ex_retO, ex_retF, ex_app, ex_frz, ex_seti, ev, args_tup, List.set, List.getElem?_cons_zero, List.getElem?_cons_succ, q_val, q_own, q_bl, q_int, q_lst, part_non, part_int, bi_lenS, bi_lenL, bi_lenT, bi_lenC, bi_intI, bi_intB, bi_max2, bi_max3, bi_min2, cmp_lt, cmp_le, cmp_gt, cmp_ge, cmp_eqI, cmp_eqT, cmp_eqB, cmp_neI, cmp_neT, cmp_neB, cmp_inT, cmp_ninT, sqD_l, sqD_t, bi_tupL, bi_tupT, bi_listL, bi_listT, isN_non, isN_int, isN_lst, isN_tup, isN_ins, isi_int, isi_intB, isi_blB, isi_tup, isi_strS, cmp_is, cmp_isn, cmp_isB, cmp_isnB, bin_add, bin_sub, bin_mul, bin_fdiv, bin_mod, Vg.un_neg, idx_l0, idx_l1, idx_t0, idx_t1, idx_t2, idx_l2, isLT_l, isLT_t, count_str, bmTy, if_true, if_false, Bool.false_eq_true, Bool.not_true, Bool.not_false, true_and, and_true, decide_true, decide_false, wipeE, Tg.slots]
      refine ⟨.inl ⟨by omega, by omega⟩, .inl ⟨by decide, by decide⟩, ?_⟩
      rw [show ((2 : Int) + 2 * ((i : Int) * (per : Int) + (c : Int))) = ((2 + 2 * (i * per + c) : Nat) : Int) by simp only [Int.natCast_add, Int.natCast_mul]; rfl]
      exact idxN (by omega) q2
    rw [List.nil_append]
    refine ⟨.inl ⟨by decide, by decide⟩, .inl ⟨by omega, by omega⟩, ?_⟩
    rw [show ((1 : Int) + 2 * (per : Int) * (per : Int) + (i : Int)) = ((1 + 2 * (per * per) + i : Nat) : Int) by simp only [Int.natCast_add, Int.natCast_mul, Int.mul_assoc]; rfl]
    refine idxN (by omega) ?_
    have := bd5 (k := k) (row := row) (rs := rs) (r := i) (o7 := o7) (o8 := o8) (D := D') R (B01.map (per := per) (f := fun c => if row.getD (1 + 2 * (i * per + c)) 0 > 0 then 1 else 0) fun c _ => by split <;> omega) (B01.map (per := per) (f := fun c => row.getD (2 + 2 * (i * per + c)) 0) fun c hc => R.hi _ (hj c hc)) hi2 (R.at_ i hi2) hp (by omega) fun rw lo hi at_ o7 o8 ok => nx _ ⟨rs ++ [rw], _, _, _, _, _, _, by simp; omega, fun r hr => by
      rcases List.mem_append.1 hr with g | g
      · exact hrs r g
      · rw [List.mem_singleton.1 g]; exact ok, rfl⟩
    rw [bdE, List.map_map, List.map_map] at this
    exact this
  rintro Γ ⟨rs, o3, o4, o5, o6, o7, o8, hrl, hrs, rfl⟩
  rw [List.length_map, List.length_range] at hrl
  simp only [ex_seq, ex_asg, ex_asgO, ex_ite, ex_nop, ex_ret, ex_retO, ex_retF, ex_app, ex_frz, ex_seti, ev, args_tup, List.set, List.getElem?_cons_zero, List.getElem?_cons_succ, q_val, q_own, q_bl, q_int, q_lst, part_non, part_int, bi_lenS, bi_lenL, bi_lenT, bi_lenC, bi_intI, bi_intB, bi_max2, bi_max3, bi_min2, cmp_lt, cmp_le, cmp_gt, cmp_ge, cmp_eqI, cmp_eqT, cmp_eqB, cmp_neI, cmp_neT, cmp_neB, cmp_inT, cmp_ninT, sqD_l, sqD_t, bi_tupL, bi_tupT, bi_listL, bi_listT, isN_non, isN_int, isN_lst, isN_tup, isN_ins, isi_int, isi_intB, isi_blB, isi_tup, isi_strS, cmp_is, cmp_isn, cmp_isB, cmp_isnB, bin_add, bin_sub, bin_mul, bin_fdiv, bin_mod, Vg.un_neg, idx_l0, idx_l1, idx_t0, idx_t1, idx_t2, idx_l2, isLT_l, isLT_t, count_str, bmTy, if_true, if_false, Bool.false_eq_true, Bool.not_true, Bool.not_false, true_and, and_true, decide_true, decide_false]
  exact q rs ⟨by omega, by omega, by rw [hrl]; exact hrs⟩ hrl
end
end Gk07


set_option Elab.async false
set_option linter.all false
set_option maxRecDepth 100000
set_option maxHeartbeats 8000000
namespace Gk07
open PySem L2 Vg Gk
variable {k : Nat} {Q : DV → Prop}
def szB (per : Nat) : List Nat := [8] ++ rep [3, 2] (per * per) ++ rep [2] per
theorem szB_len (per : Nat) : (szB per).length = 1 + 2 * (per * per) + per := by
  unfold szB
  rw [List.length_append, List.length_append, rep_len, rep_len]
  simp
  omega
theorem rep32_mem : ∀ n : Nat, ∀ s ∈ rep [3, 2] n, s = 3 ∨ s = 2
  | 0, s, h => by simp [rep] at h
  | n + 1, s, h => by
    rcases List.mem_append.1 h with g | g
    · simp at g; exact g
    · exact rep32_mem n s g
theorem rep2_get : ∀ {n i : Nat}, i < n → (rep [2] n)[i]? = some 2
  | n + 1, 0, _ => rfl
  | n + 1, i + 1, h => rep2_get (n := n) (i := i) (by omega)
theorem rep32_get : ∀ {n j : Nat}, j < n → (rep [3, 2] n)[2 * j + 1]? = some 2
  | n + 1, 0, _ => rfl
  | n + 1, j + 1, h => by
    have := rep32_get (n := n) (j := j) (by omega)
    show (3 :: 2 :: rep [3, 2] n)[2 * j + 1 + 1 + 1]? = some 2
    rw [List.getElem?_cons_succ, List.getElem?_cons_succ]
    exact this
theorem szB_ok (per : Nat) : ∀ s ∈ szB per, 0 < s ∧ s < 2 ^ 64 := fun s h => by
  unfold szB at h
  rcases List.mem_append.1 h with h | h
  · rcases List.mem_append.1 h with h | h
    · rw [List.mem_singleton.1 h]; decide
    · rcases rep32_mem _ s h with rfl | rfl <;> decide
  · have : ∀ n : Nat, ∀ s ∈ rep [2] n, s = 2 := fun n => by
      induction n with
      | zero => intro s h; simp [rep] at h
      | succ n ih =>
        intro s h
        rcases List.mem_append.1 h with g | g
        · exact List.mem_singleton.1 g
        · exact ih s g
    rw [this _ s h]; decide
theorem szB_hi {per j : Nat} (h : j < per * per) : (szB per)[2 + 2 * j]? = some 2 := by
  unfold szB
  rw [List.getElem?_append_left (by rw [List.length_append, rep_len]; simp; omega), show 2 + 2 * j = (2 * j + 1) + 1 by omega]
  show (8 :: rep [3, 2] (per * per))[(2 * j + 1) + 1]? = some 2
  rw [List.getElem?_cons_succ]
  exact rep32_get h
theorem szB_at {per r : Nat} (h : r < per) : (szB per)[1 + 2 * (per * per) + r]? = some 2 := by
  unfold szB
  have e : ([8] ++ rep [3, 2] (per * per)).length = 1 + 2 * (per * per) := by rw [List.length_append, rep_len]; simp; omega
  rw [List.getElem?_append_right (by rw [e]; omega), e, show 1 + 2 * (per * per) + r - (1 + 2 * (per * per)) = r by omega]
  exact rep2_get h
theorem RwB.of {per m : Nat} {drow : List Nat} (h : Row (szB per) drow) (hm : m < 8) : RwB per (m :: drow.drop 1) := by
  have hl : drow.length = 1 + 2 * (per * per) + per := h.len.trans (szB_len per)
  have g : ∀ i, (m :: drow.drop 1).getD (i + 1) 0 = drow.getD (i + 1) 0 := fun i => by
    rw [List.getD_cons_succ, List.getD_eq_getElem?_getD, List.getD_eq_getElem?_getD, List.getElem?_drop, Nat.add_comm 1 i]
  refine ⟨by rw [List.length_cons, List.length_drop]; omega, hm, fun j hj => ?_, fun r hr => ?_⟩
  · have := row_lt h (szB_hi hj)
    rw [show 2 + 2 * j = (2 * j + 1) + 1 by omega] at this ⊢
    rw [g]
    omega
  · have := row_lt h (szB_at hr)
    rw [show 1 + 2 * (per * per) + r = (2 * (per * per) + r) + 1 by omega] at this ⊢
    rw [g]
    omega
theorem rep_map {a : List Nat} : ∀ {n : Nat}, rep (a.map nI) n = (rep a n).map nI
  | 0 => rfl
  | n + 1 => by
    show a.map nI ++ rep (a.map nI) n = (a ++ rep a n).map nI
    rw [rep_map, List.map_append]
def szV : List Nat := [4, 8, 24, 9, 12, 2, 8]
theorem szV_ok : ∀ s ∈ szV, 0 < s ∧ s < 2 ^ 64 := by decide
theorem mem_cut {α : Type} {xs : List α} {a b : Option Int} {x : α} (h : x ∈ cut xs a b) : x ∈ xs := List.mem_of_mem_drop (List.mem_of_mem_take h)
theorem cut_map {α β : Type} {s : List α} {g : α → β} {lo hi : Option Int} : cut (s.map g) lo hi = (cut s lo hi).map g := by
  unfold cut
  rw [List.length_map, ← List.map_drop, ← List.map_take]
def lvT : Cm := (.seq (.for_ (.one 8) (.rng1 (.var 3))
    (.for_ (.one 10) (.slc (.lst (.cons (.k (.int 0)) (.cons (.idx (.var 1) (.k (.int 2))) (.cons (.bin .Add (.idx (.var 1) (.k (.int 2))) (.k (.int 1))) (.cons (.var 8) (.cons (.bin .Mult (.k (.int 3)) (.var 3)) .nil)))))) .nopart (.part (.bin .Sub (.k (.int 5)) (.bin .Mult (.k (.int 2)) (.var 2)))))
    (.ite (.bnot (.call i__law_right (.cons (.var 7) (.cons (.var 6) (.cons (.var 8) (.cons (.var 10) (.cons (.idx (.var 1) (.k (.int 3))) .nil)))))))
    (.ret (.k (.bl false)))
    .nop)))
    (.seq (.asg 9 (.mk c_Family (.cons (.var 3) (.cons (.tup .nil) (.cons (.tup (.cons (.var 6) .nil)) .nil)))))
    (.ite (.bor (.cmp .NotEq (.idx (.fld (.var 9) f_bands) (.k (.int 0))) (.var 6)) (.bnot (.call i__law_right (.cons (.var 7) (.cons (.idx (.fld (.var 9) f_bands) (.k (.int 0))) (.cons (.bin .Mod (.bi .int (.cons (.idx (.var 1) (.k (.int 4))) .nil)) (.var 3)) (.cons (.bin .Add (.k (.int 40)) (.idx (.var 1) (.k (.int 2)))) (.cons (.idx (.var 1) (.k (.int 3))) .nil))))))))
    (.ret (.k (.bl false)))
    .nop)))
theorem lv_tail {ns : List Int} {row : List Nat} {i : Nat} {rs : List Rw} {o4 o5 o8 o9 o10 : Option Bd} {D : DE} (hr : Row szV row) (h : BandOk rs) (q : ∀ o8 o9 o10, D.nx [some (.val (.scr ns)), some (.val (.lst (row.map nI))), some (.val (nI i)), some (.val (nI rs.length)), o4, o5, some (.val (bandD rs)), some (.val (datB rs)), o8, o9, o10]) :
    ex (sem P (k + 5)) lvT [some (.val (.scr ns)), some (.val (.lst (row.map nI))), some (.val (nI i)), some (.val (nI rs.length)), o4, o5, some (.val (bandD rs)), some (.val (datB rs)), o8, o9, o10] D := by
  have z := sz
  have m2 := row_lt hr (n := 2) (s := 24) rfl
  have m3 := row_lt hr (n := 3) (s := 9) rfl
  have m4 := row_lt hr (n := 4) (s := 12) rfl
  have lo := h.lo
  have hi := h.hi
  have e0 : (rs.length : Int) ≠ 0 := by omega
  have r2 : ∀ {R : DV → Prop}, idxS (.lst (row.map nI)) (.int 2) R = R (nI (row.getD 2 0)) := row_idx hr (n := 2) (s := 24) rfl
  have r3 : ∀ {R : DV → Prop}, idxS (.lst (row.map nI)) (.int 3) R = R (nI (row.getD 3 0)) := row_idx hr (n := 3) (s := 9) rfl
  have r4 : ∀ {R : DV → Prop}, idxS (.lst (row.map nI)) (.int 4) R = R (nI (row.getD 4 0)) := row_idx hr (n := 4) (s := 12) rfl
  rw [lvT, ex_seq]
  refine ex_for ?_
  simp only [ev, args_tup, List.set, List.getElem?_cons_zero, List.getElem?_cons_succ, q_val, q_own, q_bl, q_int, q_lst, part_non, part_int, bi_lenS, bi_lenL, bi_lenT, bi_lenC, bi_intI, bi_intB, bi_max2, bi_max3, bi_min2, cmp_lt, cmp_le, cmp_gt, cmp_ge, cmp_eqI, cmp_eqT, cmp_eqB, cmp_neI, cmp_neT, cmp_neB, cmp_inT, cmp_ninT, sqD_l, sqD_t, bi_tupL, bi_tupT, bi_listL, bi_listT, isN_non, isN_int, isN_lst, isN_tup, isN_ins, isi_int, isi_intB, isi_blB, isi_tup, isi_strS, cmp_is, cmp_isn, cmp_isB, cmp_isnB, bin_add, bin_sub, bin_mul, bin_fdiv, bin_mod, Vg.un_neg, idx_l0, idx_l1, idx_t0, idx_t1, idx_t2, idx_l2, isLT_l, isLT_t, count_str, bmTy, if_true, if_false, Bool.false_eq_true, Bool.not_true, Bool.not_false, true_and, and_true, decide_true, decide_false]
  refine ⟨by omega, by omega, _, rfl, ?_⟩
  rw [Int.toNat_natCast]
  refine for_one (fun j Γ => ∃ o8 o10, Γ = [some (.val (.scr ns)), some (.val (.lst (row.map nI))), some (.val (nI i)), some (.val (nI rs.length)), o4, o5, some (.val (bandD rs)), some (.val (datB rs)), o8, o9, o10]) ?_ ?_ ⟨_, _, rfl⟩
  · rintro j x Γ D' hx hj ⟨o8, o10, rfl⟩ e1 e2 e3 nx ct
    rw [List.length_map, List.length_range] at hj
    rw [List.getElem?_map, List.getElem?_range hj] at hx
    cases hx
    refine ex_for ?_
    simp only [ev, args_tup, List.set, List.getElem?_cons_zero, List.getElem?_cons_succ, q_val, q_own, q_bl, q_int, q_lst, part_non, part_int, bi_lenS, bi_lenL, bi_lenT, bi_lenC, bi_intI, bi_intB, bi_max2, bi_max3, bi_min2, cmp_lt, cmp_le, cmp_gt, cmp_ge, cmp_eqI, cmp_eqT, cmp_eqB, cmp_neI, cmp_neT, cmp_neB, cmp_inT, cmp_ninT, sqD_l, sqD_t, bi_tupL, bi_tupT, bi_listL, bi_listT, isN_non, isN_int, isN_lst, isN_tup, isN_ins, isi_int, isi_intB, isi_blB, isi_tup, isi_strS, cmp_is, cmp_isn, cmp_isB, cmp_isnB, bin_add, bin_sub, bin_mul, bin_fdiv, bin_mod, Vg.un_neg, idx_l0, idx_l1, idx_t0, idx_t1, idx_t2, idx_l2, isLT_l, isLT_t, count_str, bmTy, if_true, if_false, Bool.false_eq_true, Bool.not_true, Bool.not_false, true_and, and_true, decide_true, decide_false, List.set, r2, List.length_cons, List.length_nil]
    refine ⟨.inl ⟨by decide, by decide⟩, by omega, .inl ⟨by decide, by decide⟩, ?_⟩
    rw [slc_lst, show ([DV.int 0, nI (row.getD 2 0), DV.int (((row.getD 2 0 : Nat) : Int) + 1), DV.int (j : Int), DV.int (3 * (rs.length : Int))] : List DV) = [0, row.getD 2 0, row.getD 2 0 + 1, j, 3 * rs.length].map nI from rfl, cut_map]
    have mem : ∀ x ∈ cut [0, row.getD 2 0, row.getD 2 0 + 1, j, 3 * rs.length] none (some (5 - 2 * (i : Int))), x ≤ 100 := fun x hx => by
      have := mem_cut hx
      simp only [List.mem_cons, List.not_mem_nil, or_false] at this
      omega
    generalize cut [0, row.getD 2 0, row.getD 2 0 + 1, j, 3 * rs.length] none (some (5 - 2 * (i : Int))) = xs at mem
    refine ⟨_, rfl, ?_⟩
    refine for_one (fun n Γ => ∃ o10, Γ = [some (.val (.scr ns)), some (.val (.lst (row.map nI))), some (.val (nI i)), some (.val (nI rs.length)), o4, o5, some (.val (bandD rs)), some (.val (datB rs)), some (.val (nI j)), o9, o10]) ?_ ?_ ⟨_, rfl⟩
    · rintro n x Γ D'' hx hn ⟨o10, rfl⟩ e1' e2' e3' nx' ct'
      rw [List.length_map] at hn
      rw [List.getElem?_map, List.getElem?_eq_getElem hn] at hx
      cases hx
      have := mem _ (List.getElem_mem hn)
      simp only [ex_seq, ex_asg, ex_asgO, ex_ite, ex_nop, ex_ret, ex_retO, ex_retF, ex_app, ex_frz, ex_seti, ev, args_tup, List.set, List.getElem?_cons_zero, List.getElem?_cons_succ, q_val, q_own, q_bl, q_int, q_lst, part_non, part_int, bi_lenS, bi_lenL, bi_lenT, bi_lenC, bi_intI, bi_intB, bi_max2, bi_max3, bi_min2, cmp_lt, cmp_le, cmp_gt, cmp_ge, cmp_eqI, cmp_eqT, cmp_eqB, cmp_neI, cmp_neT, cmp_neB, cmp_inT, cmp_ninT, sqD_l, sqD_t, bi_tupL, bi_tupT, bi_listL, bi_listT, isN_non, isN_int, isN_lst, isN_tup, isN_ins, isi_int, isi_intB, isi_blB, isi_tup, isi_strS, cmp_is, cmp_isn, cmp_isB, cmp_isnB, bin_add, bin_sub, bin_mul, bin_fdiv, bin_mod, Vg.un_neg, idx_l0, idx_l1, idx_t0, idx_t1, idx_t2, idx_l2, isLT_l, isLT_t, count_str, bmTy, if_true, if_false, Bool.false_eq_true, Bool.not_true, Bool.not_false, true_and, and_true, decide_true, decide_false, r3]
      refine law_right (k := k + 1) h hj (by omega) (by omega) ?_
      simp only [ex_seq, ex_asg, ex_asgO, ex_ite, ex_nop, ex_ret, ex_retO, ex_retF, ex_app, ex_frz, ex_seti, ev, args_tup, List.set, List.getElem?_cons_zero, List.getElem?_cons_succ, q_val, q_own, q_bl, q_int, q_lst, part_non, part_int, bi_lenS, bi_lenL, bi_lenT, bi_lenC, bi_intI, bi_intB, bi_max2, bi_max3, bi_min2, cmp_lt, cmp_le, cmp_gt, cmp_ge, cmp_eqI, cmp_eqT, cmp_eqB, cmp_neI, cmp_neT, cmp_neB, cmp_inT, cmp_ninT, sqD_l, sqD_t, bi_tupL, bi_tupT, bi_listL, bi_listT, isN_non, isN_int, isN_lst, isN_tup, isN_ins, isi_int, isi_intB, isi_blB, isi_tup, isi_strS, cmp_is, cmp_isn, cmp_isB, cmp_isnB, bin_add, bin_sub, bin_mul, bin_fdiv, bin_mod, Vg.un_neg, idx_l0, idx_l1, idx_t0, idx_t1, idx_t2, idx_l2, isLT_l, isLT_t, count_str, bmTy, if_true, if_false, Bool.false_eq_true, Bool.not_true, Bool.not_false, true_and, and_true, decide_true, decide_false]
      exact nx' _ ⟨_, rfl⟩
    rintro Γ ⟨o10, rfl⟩
    exact nx _ ⟨_, _, rfl⟩
  rintro Γ ⟨o8, o10, rfl⟩
  simp only [ex_seq, ex_asg, ex_asgO, ex_ite, ex_nop, ex_ret, ex_retO, ex_retF, ex_app, ex_frz, ex_seti, ev, args_tup, List.set, List.getElem?_cons_zero, List.getElem?_cons_succ, q_val, q_own, q_bl, q_int, q_lst, part_non, part_int, bi_lenS, bi_lenL, bi_lenT, bi_lenC, bi_intI, bi_intB, bi_max2, bi_max3, bi_min2, cmp_lt, cmp_le, cmp_gt, cmp_ge, cmp_eqI, cmp_eqT, cmp_eqB, cmp_neI, cmp_neT, cmp_neB, cmp_inT, cmp_ninT, sqD_l, sqD_t, bi_tupL, bi_tupT, bi_listL, bi_listT, isN_non, isN_int, isN_lst, isN_tup, isN_ins, isi_int, isi_intB, isi_blB, isi_tup, isi_strS, cmp_is, cmp_isn, cmp_isB, cmp_isnB, bin_add, bin_sub, bin_mul, bin_fdiv, bin_mod, Vg.un_neg, idx_l0, idx_l1, idx_t0, idx_t1, idx_t2, idx_l2, isLT_l, isLT_t, count_str, bmTy, if_true, if_false, Bool.false_eq_true, Bool.not_true, Bool.not_false, true_and, and_true, decide_true, decide_false, List.length_cons, List.length_nil]
  refine ⟨by omega, by omega, ?_⟩
  refine fam_init (k := k + 1) (per := rs.length) (fs := []) (bs := [rs]) (b1 := true) (b2 := true) ⟨lo, hi, by decide, by show 1 ≤ 2; decide, by show 0 < 0 + 1; decide, fun d hd => absurd hd (List.not_mem_nil), fun b hb => by
    rw [List.mem_singleton.1 hb]
    exact ⟨h, rfl⟩⟩ ?_
  simp only [ex_seq, ex_asg, ex_asgO, ex_ite, ex_nop, ex_ret, ex_retO, ex_retF, ex_app, ex_frz, ex_seti, ev, args_tup, List.set, List.getElem?_cons_zero, List.getElem?_cons_succ, q_val, q_own, q_bl, q_int, q_lst, part_non, part_int, bi_lenS, bi_lenL, bi_lenT, bi_lenC, bi_intI, bi_intB, bi_max2, bi_max3, bi_min2, cmp_lt, cmp_le, cmp_gt, cmp_ge, cmp_eqI, cmp_eqT, cmp_eqB, cmp_neI, cmp_neT, cmp_neB, cmp_inT, cmp_ninT, sqD_l, sqD_t, bi_tupL, bi_tupT, bi_listL, bi_listT, isN_non, isN_int, isN_lst, isN_tup, isN_ins, isi_int, isi_intB, isi_blB, isi_tup, isi_strS, cmp_is, cmp_isn, cmp_isB, cmp_isnB, bin_add, bin_sub, bin_mul, bin_fdiv, bin_mod, Vg.un_neg, idx_l0, idx_l1, idx_t0, idx_t1, idx_t2, idx_l2, isLT_l, isLT_t, count_str, bmTy, if_true, if_false, Bool.false_eq_true, Bool.not_true, Bool.not_false, true_and, and_true, decide_true, decide_false, famD, fldF2, List.map_cons]
  refine band_ne (k := k + 4) h ?_
  simp only [ex_seq, ex_asg, ex_asgO, ex_ite, ex_nop, ex_ret, ex_retO, ex_retF, ex_app, ex_frz, ex_seti, ev, args_tup, List.set, List.getElem?_cons_zero, List.getElem?_cons_succ, q_val, q_own, q_bl, q_int, q_lst, part_non, part_int, bi_lenS, bi_lenL, bi_lenT, bi_lenC, bi_intI, bi_intB, bi_max2, bi_max3, bi_min2, cmp_lt, cmp_le, cmp_gt, cmp_ge, cmp_eqI, cmp_eqT, cmp_eqB, cmp_neI, cmp_neT, cmp_neB, cmp_inT, cmp_ninT, sqD_l, sqD_t, bi_tupL, bi_tupT, bi_listL, bi_listT, isN_non, isN_int, isN_lst, isN_tup, isN_ins, isi_int, isi_intB, isi_blB, isi_tup, isi_strS, cmp_is, cmp_isn, cmp_isB, cmp_isnB, bin_add, bin_sub, bin_mul, bin_fdiv, bin_mod, Vg.un_neg, idx_l0, idx_l1, idx_t0, idx_t1, idx_t2, idx_l2, isLT_l, isLT_t, count_str, bmTy, if_true, if_false, Bool.false_eq_true, Bool.not_true, Bool.not_false, true_and, and_true, decide_true, decide_false, r2, r3, r4, e0, ne_eq, not_false_eq_true, fmod_nat lo]
  rw [show ((40 : Int) + ((row.getD 2 0 : Nat) : Int)) = ((40 + row.getD 2 0 : Nat) : Int) from rfl]
  refine law_right (k := k + 1) h (Nat.mod_lt _ lo) (by omega) (by omega) ?_
  simp only [ex_seq, ex_asg, ex_asgO, ex_ite, ex_nop, ex_ret, ex_retO, ex_retF, ex_app, ex_frz, ex_seti, ev, args_tup, List.set, List.getElem?_cons_zero, List.getElem?_cons_succ, q_val, q_own, q_bl, q_int, q_lst, part_non, part_int, bi_lenS, bi_lenL, bi_lenT, bi_lenC, bi_intI, bi_intB, bi_max2, bi_max3, bi_min2, cmp_lt, cmp_le, cmp_gt, cmp_ge, cmp_eqI, cmp_eqT, cmp_eqB, cmp_neI, cmp_neT, cmp_neB, cmp_inT, cmp_ninT, sqD_l, sqD_t, bi_tupL, bi_tupT, bi_listL, bi_listT, isN_non, isN_int, isN_lst, isN_tup, isN_ins, isi_int, isi_intB, isi_blB, isi_tup, isi_strS, cmp_is, cmp_isn, cmp_isB, cmp_isnB, bin_add, bin_sub, bin_mul, bin_fdiv, bin_mod, Vg.un_neg, idx_l0, idx_l1, idx_t0, idx_t1, idx_t2, idx_l2, isLT_l, isLT_t, count_str, bmTy, if_true, if_false, Bool.false_eq_true, Bool.not_true, Bool.not_false, true_and, and_true, decide_true, decide_false]
  exact q _ _ _
theorem law_go {ns : List Int} (q : Q (.bl true)) : (sem P (k + 6)).F i_law [.scr ns] Q := by
  have z := sz
  refine run_f rfl rfl rfl ?_
  show ex (sem P (k + 5)) (.seq _ (.seq (.for_ _ _ _) (.ret _))) [some (.val (.scr ns)), none, none, none, none, none, none, none, none, none, none] (endsN Q)
  rw [ex_seq, ex_asg]
  simp only [ev, args_tup, List.set, List.getElem?_cons_zero, List.getElem?_cons_succ, q_val, q_own, q_bl, q_int, q_lst, part_non, part_int, bi_lenS, bi_lenL, bi_lenT, bi_lenC, bi_intI, bi_intB, bi_max2, bi_max3, bi_min2, cmp_lt, cmp_le, cmp_gt, cmp_ge, cmp_eqI, cmp_eqT, cmp_eqB, cmp_neI, cmp_neT, cmp_neB, cmp_inT, cmp_ninT, sqD_l, sqD_t, bi_tupL, bi_tupT, bi_listL, bi_listT, isN_non, isN_int, isN_lst, isN_tup, isN_ins, isi_int, isi_intB, isi_blB, isi_tup, isi_strS, cmp_is, cmp_isn, cmp_isB, cmp_isnB, bin_add, bin_sub, bin_mul, bin_fdiv, bin_mod, Vg.un_neg, idx_l0, idx_l1, idx_t0, idx_t1, idx_t2, idx_l2, isLT_l, isLT_t, count_str, bmTy, if_true, if_false, Bool.false_eq_true, Bool.not_true, Bool.not_false, true_and, and_true, decide_true, decide_false, show ([DV.int 4, .int 8, .int 24, .int 9, .int 12, .int 2, .int 8] : List DV) = szV.map nI from rfl]
  refine law_cell (k := k + 4) (j := 0) (by decide) fun i0 => ?_
  refine ⟨by show 7 ≤ sizeLine; decide, ?_⟩
  refine law_digits (k := k + 4) (sizes := szV) szV_ok (by decide) fun row hr => ?_
  have m0 := row_lt hr (n := 0) (s := 4) rfl
  have m1 := row_lt hr (n := 1) (s := 8) rfl
  have m2 := row_lt hr (n := 2) (s := 24) rfl
  have m3 := row_lt hr (n := 3) (s := 9) rfl
  have m4 := row_lt hr (n := 4) (s := 12) rfl
  have m5 := row_lt hr (n := 5) (s := 2) rfl
  have m6 := row_lt hr (n := 6) (s := 8) rfl
  rw [ex_seq]
  refine ex_for ?_
  simp only [ev, args_tup, List.set, List.getElem?_cons_zero, List.getElem?_cons_succ, q_val, q_own, q_bl, q_int, q_lst, part_non, part_int, bi_lenS, bi_lenL, bi_lenT, bi_lenC, bi_intI, bi_intB, bi_max2, bi_max3, bi_min2, cmp_lt, cmp_le, cmp_gt, cmp_ge, cmp_eqI, cmp_eqT, cmp_eqB, cmp_neI, cmp_neT, cmp_neB, cmp_inT, cmp_ninT, sqD_l, sqD_t, bi_tupL, bi_tupT, bi_listL, bi_listT, isN_non, isN_int, isN_lst, isN_tup, isN_ins, isi_int, isi_intB, isi_blB, isi_tup, isi_strS, cmp_is, cmp_isn, cmp_isB, cmp_isnB, bin_add, bin_sub, bin_mul, bin_fdiv, bin_mod, Vg.un_neg, idx_l0, idx_l1, idx_t0, idx_t1, idx_t2, idx_l2, isLT_l, isLT_t, count_str, bmTy, if_true, if_false, Bool.false_eq_true, Bool.not_true, Bool.not_false, true_and, and_true, decide_true, decide_false]
  refine ⟨by decide, by decide, _, rfl, ?_⟩
  refine for_one (fun i Γ => ∃ o2 o3 o4 o5 o6 o7 o8 o9 o10, Γ = [some (.val (.scr ns)), some (.val (.lst (row.map nI))), o2, o3, o4, o5, o6, o7, o8, o9, o10]) ?_ ?_ ⟨_, _, _, _, _, _, _, _, _, rfl⟩
  · rintro i x Γ D' hx hi ⟨o2, o3, o4, o5, o6, o7, o8, o9, o10, rfl⟩ e1 e2 e3 nx ct
    rw [List.length_map, List.length_range] at hi
    rw [List.getElem?_map, List.getElem?_range hi] at hx
    cases hx
    have hi : i < 2 := hi
    generalize hT : (Cm.seq (.for_ (.one 8) _ _) _ : Cm) = T
    have r0 : ∀ {R : DV → Prop}, idxS (.lst (row.map nI)) (.int 0) R = R (nI (row.getD 0 0)) := row_idx hr (n := 0) (s := 4) rfl
    have r5 : ∀ {R : DV → Prop}, idxS (.lst (row.map nI)) (.int 5) R = R (nI (row.getD 5 0)) := row_idx hr (n := 5) (s := 2) rfl
    simp only [ex_seq, ex_asg, ex_asgO, ex_ite, ex_nop, ex_ret, ex_retO, ex_retF, ex_app, ex_frz, ex_seti, ev, args_tup, List.set, List.getElem?_cons_zero, List.getElem?_cons_succ, q_val, q_own, q_bl, q_int, q_lst, part_non, part_int, bi_lenS, bi_lenL, bi_lenT, bi_lenC, bi_intI, bi_intB, bi_max2, bi_max3, bi_min2, cmp_lt, cmp_le, cmp_gt, cmp_ge, cmp_eqI, cmp_eqT, cmp_eqB, cmp_neI, cmp_neT, cmp_neB, cmp_inT, cmp_ninT, sqD_l, sqD_t, bi_tupL, bi_tupT, bi_listL, bi_listT, isN_non, isN_int, isN_lst, isN_tup, isN_ins, isi_int, isi_intB, isi_blB, isi_tup, isi_strS, cmp_is, cmp_isn, cmp_isB, cmp_isnB, bin_add, bin_sub, bin_mul, bin_fdiv, bin_mod, Vg.un_neg, idx_l0, idx_l1, idx_t0, idx_t1, idx_t2, idx_l2, isLT_l, isLT_t, count_str, bmTy, if_true, if_false, Bool.false_eq_true, Bool.not_true, Bool.not_false, true_and, and_true, decide_true, decide_false, r0, r5, List.length_cons, List.length_nil]
    refine ⟨by omega, ?_⟩
    have per : ∀ {R : DV → Prop}, (∀ p : Nat, 0 < p → p ≤ 4 → R (nI p)) → idxS (.lst [.int (1 + ((row.getD 0 0 : Nat) : Int)), .int (3 + ((row.getD 5 0 : Nat) : Int))]) (nI i) R := fun {R} g => by
      have : i = 0 ∨ i = 1 := by omega
      rcases this with rfl | rfl
      · exact ⟨_, rfl, g (1 + row.getD 0 0) (by omega) (by omega)⟩
      · exact ⟨_, rfl, g (3 + row.getD 5 0) (by omega) (by omega)⟩
    refine per fun p hp hp4 => ?_
    have mood : row.getD (1 + 5 * i) 0 < 8 := by
      have : i = 0 ∨ i = 1 := by omega
      rcases this with rfl | rfl
      · exact m1
      · exact m6
    have hpp : p * p ≤ 4 * 4 := Nat.mul_le_mul hp4 hp4
    refine ⟨by omega, by omega, ?_⟩
    rw [bin_mul]
    refine ⟨.inl ⟨by omega, by omega⟩, ?_⟩
    have ep : ((p : Int) * (p : Int)).toNat = p * p := by rw [← Int.natCast_mul, Int.toNat_natCast]
    have ep2 : ((p : Int) * (p : Int)) = ((p * p : Nat) : Int) := (Int.natCast_mul p p).symm
    rw [bin_repL, ep]
    refine ⟨by omega, by omega, by simp; omega, ?_⟩
    rw [bin_catL, rep_len]
    refine ⟨by simp; omega, by omega, ?_⟩
    rw [bin_repL, Int.toNat_natCast]
    refine ⟨by omega, by omega, by simp; omega, ?_⟩
    rw [bin_catL]
    refine ⟨by rw [List.length_append, rep_len, rep_len]; simp; omega, .inl ⟨by decide, by decide⟩, ?_⟩
    rw [show ((1 : Int) + 5 * (i : Int)) = ((1 + 5 * i : Nat) : Int) from by rw [Int.natCast_add, Int.natCast_mul]; rfl]
    have hrl : row.length = 7 := hr.len
    refine idxN (by omega) ⟨by omega, ?_⟩
    rw [show ((1 : Int) + (i : Int)) = ((1 + i : Nat) : Int) from rfl]
    refine law_cell (k := k + 4) (j := 1 + i) (by omega) fun i1 => ?_
    rw [show ([DV.int 8] ++ rep [DV.int 3, .int 2] (p * p) ++ rep [DV.int 2] p : List DV) = (szB p).map nI by
      unfold szB
      rw [List.map_append, List.map_append, ← rep_map, ← rep_map]
      rfl]
    refine law_digits (k := k + 4) (sizes := szB p) (szB_ok p) (by rw [szB_len]; omega) fun drow hd => ?_
    have hdl : drow.length = 1 + 2 * (p * p) + p := hd.len.trans (szB_len p)
    rw [slc_lst, show ((1 : Int)) = ((1 : Nat) : Int) from rfl, cut_from, bin_catL, List.length_drop, List.length_map]
    refine ⟨by simp; omega, ?_⟩
    rw [← List.map_drop, show ([nI (row.getD (1 + 5 * i) 0)] ++ (drow.drop 1).map nI) = (row.getD (1 + 5 * i) 0 :: drow.drop 1).map nI from rfl]
    refine law_band (k := k + 4) (RwB.of hd mood) hp hp4 fun rs ok hrs => ?_
    refine band_init (k := k + 2) ok ⟨by omega, by omega, by omega, ?_⟩
    subst hT
    subst hrs
    exact lv_tail (k := k) hr ok fun o8 o9 o10 => nx _ ⟨_, _, _, _, _, _, _, _, _, rfl⟩
  rintro Γ ⟨o2, o3, o4, o5, o6, o7, o8, o9, o10, rfl⟩
  simp only [ex_seq, ex_asg, ex_asgO, ex_ite, ex_nop, ex_ret, ex_retO, ex_retF, ex_app, ex_frz, ex_seti, ev, args_tup, List.set, List.getElem?_cons_zero, List.getElem?_cons_succ, q_val, q_own, q_bl, q_int, q_lst, part_non, part_int, bi_lenS, bi_lenL, bi_lenT, bi_lenC, bi_intI, bi_intB, bi_max2, bi_max3, bi_min2, cmp_lt, cmp_le, cmp_gt, cmp_ge, cmp_eqI, cmp_eqT, cmp_eqB, cmp_neI, cmp_neT, cmp_neB, cmp_inT, cmp_ninT, sqD_l, sqD_t, bi_tupL, bi_tupT, bi_listL, bi_listT, isN_non, isN_int, isN_lst, isN_tup, isN_ins, isi_int, isi_intB, isi_blB, isi_tup, isi_strS, cmp_is, cmp_isn, cmp_isB, cmp_isnB, bin_add, bin_sub, bin_mul, bin_fdiv, bin_mod, Vg.un_neg, idx_l0, idx_l1, idx_t0, idx_t1, idx_t2, idx_l2, isLT_l, isLT_t, count_str, bmTy, if_true, if_false, Bool.false_eq_true, Bool.not_true, Bool.not_false, true_and, and_true, decide_true, decide_false]
  exact q
theorem law_plain (ns : List Int) (h : ns.length ≤ 63) : (sem P 16).F i_law [.scr ns] (fun r => r = .bl true) := law_go (k := 10) rfl
end Gk07


set_option maxHeartbeats 8000000
namespace Gk07
open PySem L2 Vg
section
theorem all_mk {l : PySem.W.OpenLaw} {w : World} {K : PySem.W.Frag} {h : Heap} {mg : Str → Option Value} {fa C0 C1 C2 f0 f1 f2 f3 f4 f5 f6 f7 f8 f9 f10 f11 f12 f13 f14 f15 f16 f17 f18 f19 f20 f21 f22 f23 f24 f25 f26 f27 f28 f29 f30 f31 fi0 fi1 fi2 : Addr} (X : K.In h) (G : h.Ns mainGlobals mg) (hfa : mg "law" = some (.ref fa))
    {od0 an0 od1 an1 od2 an2 od3 an3 od4 an4 od5 an5 od6 an6 od7 an7 od8 an8 od9 an9 od10 an10 od11 an11 od12 an12 od13 an13 od14 an14 od15 an15 od16 an16 od17 an17 od18 an18 od19 an19 od20 an20 od21 an21 od22 an22 od23 an23 od24 an24 od25 an25 od26 an26 od27 an27 od28 an28 od29 an29 od30 an30 od31 an31 odi0 ani0 odi1 ani1 odi2 ani2 : Option Addr} {sl0 sl1 sl2 sl3 sl4 sl5 sl6 sl7 sl8 sl9 sl10 sl11 sl12 sl13 sl14 sl15 sl16 sl17 sl18 sl19 sl20 sl21 sl22 sl23 sl24 sl25 sl26 sl27 sl28 sl29 sl30 sl31 sli0 sli1 sli2 : Array (Option Value)} {oc0 kV0 dc0 pm0 cd0 ct0 oc1 kV1 dc1 pm1 cd1 ct1 oc2 kV2 dc2 pm2 cd2 ct2 oc3 kV3 dc3 pm3 cd3 ct3 oc4 kV4 dc4 pm4 cd4 ct4 oc5 kV5 dc5 pm5 cd5 ct5 oc6 kV6 dc6 pm6 cd6 ct6 oc7 kV7 dc7 pm7 cd7 ct7 oc8 kV8 dc8 pm8 cd8 ct8 oc9 kV9 dc9 pm9 cd9 ct9 oc10 kV10 dc10 pm10 cd10 ct10 oc11 kV11 dc11 pm11 cd11 ct11 oc12 kV12 dc12 pm12 cd12 ct12 oc13 kV13 dc13 pm13 cd13 ct13 oc14 kV14 dc14 pm14 cd14 ct14 oc15 kV15 dc15 pm15 cd15 ct15 oc16 kV16 dc16 pm16 cd16 ct16 oc17 kV17 dc17 pm17 cd17 ct17 oc18 kV18 dc18 pm18 cd18 ct18 oc19 kV19 dc19 pm19 cd19 ct19 oc20 kV20 dc20 pm20 cd20 ct20 oc21 kV21 dc21 pm21 cd21 ct21 oc22 kV22 dc22 pm22 cd22 ct22 oc23 kV23 dc23 pm23 cd23 ct23 oc24 kV24 dc24 pm24 cd24 ct24 oc25 kV25 dc25 pm25 cd25 ct25 oc26 kV26 dc26 pm26 cd26 ct26 oc27 kV27 dc27 pm27 cd27 ct27 oc28 kV28 dc28 pm28 cd28 ct28 oc29 kV29 dc29 pm29 cd29 ct29 oc30 kV30 dc30 pm30 cd30 ct30 oc31 kV31 dc31 pm31 cd31 ct31 oci0 kVi0 dci0 pmi0 cdi0 cti0 oci1 kVi1 dci1 pmi1 cdi1 cti1 oci2 kVi2 dci2 pmi2 cdi2 cti2 : Value}
    {tk_MOST_PERIOD tk_MOST_FIXED tk_MOST_BANDS tk_LONGEST_PREFIX : Nat}
    (aC0 : PySem.W.nsIn K mainGlobals "Band" = some (some (.ref C0)))
    (aC1 : PySem.W.nsIn K mainGlobals "PeriodicSet" = some (some (.ref C1)))
    (aC2 : PySem.W.nsIn K mainGlobals "Family" = some (some (.ref C2)))
    (a0 : PySem.W.nsIn K mainGlobals "_law_digits" = some (some (.ref f0)))
    (l0 : K.lookup f0 = some ⟨oc0, od0, .func (PySem.W.fnOf "_law_digits" "_law_digits" (defArgs s__law_digits) (defBody s__law_digits) (defScope s__law_digits) .none kV0 dc0 pm0 an0 cd0 ct0), sl0⟩)
    (c0 : PySem.W.codeIn K cd0 "_law_digits" = true)
    (k0 : PySem.W.keepIn K (.ref f0) = true)
    (a1 : PySem.W.nsIn K mainGlobals "_law_cell" = some (some (.ref f1)))
    (l1 : K.lookup f1 = some ⟨oc1, od1, .func (PySem.W.fnOf "_law_cell" "_law_cell" (defArgs s__law_cell) (defBody s__law_cell) (defScope s__law_cell) .none kV1 dc1 pm1 an1 cd1 ct1), sl1⟩)
    (c1 : PySem.W.codeIn K cd1 "_law_cell" = true)
    (k1 : PySem.W.keepIn K (.ref f1) = true)
    (a2 : PySem.W.nsIn K mainGlobals "_law_band" = some (some (.ref f2)))
    (l2 : K.lookup f2 = some ⟨oc2, od2, .func (PySem.W.fnOf "_law_band" "_law_band" (defArgs s__law_band) (defBody s__law_band) (defScope s__law_band) .none kV2 dc2 pm2 an2 cd2 ct2), sl2⟩)
    (c2 : PySem.W.codeIn K cd2 "_law_band" = true)
    (k2 : PySem.W.keepIn K (.ref f2) = true)
    (a3 : PySem.W.nsIn K mainGlobals "checked_row" = some (some (.ref f3)))
    (l3 : K.lookup f3 = some ⟨oc3, od3, .func (PySem.W.fnOf "checked_row" "checked_row" (defArgs s_checked_row) (defBody s_checked_row) (defScope s_checked_row) .none kV3 dc3 pm3 an3 cd3 ct3), sl3⟩)
    (c3 : PySem.W.codeIn K cd3 "checked_row" = true)
    (k3 : PySem.W.keepIn K (.ref f3) = true)
    (a4 : PySem.W.nsIn K mainGlobals "is_bits" = some (some (.ref f4)))
    (l4 : K.lookup f4 = some ⟨oc4, od4, .func (PySem.W.fnOf "is_bits" "is_bits" (defArgs s_is_bits) (defBody s_is_bits) (defScope s_is_bits) .none kV4 dc4 pm4 an4 cd4 ct4), sl4⟩)
    (c4 : PySem.W.codeIn K cd4 "is_bits" = true)
    (k4 : PySem.W.keepIn K (.ref f4) = true)
    (a5 : PySem.W.nsIn K mainGlobals "_law_right" = some (some (.ref f5)))
    (l5 : K.lookup f5 = some ⟨oc5, od5, .func (PySem.W.fnOf "_law_right" "_law_right" (defArgs s__law_right) (defBody s__law_right) (defScope s__law_right) .none kV5 dc5 pm5 an5 cd5 ct5), sl5⟩)
    (c5 : PySem.W.codeIn K cd5 "_law_right" = true)
    (k5 : PySem.W.keepIn K (.ref f5) = true)
    (a6 : PySem.W.nsIn K mainGlobals "_law_is_set" = some (some (.ref f6)))
    (l6 : K.lookup f6 = some ⟨oc6, od6, .func (PySem.W.fnOf "_law_is_set" "_law_is_set" (defArgs s__law_is_set) (defBody s__law_is_set) (defScope s__law_is_set) .none kV6 dc6 pm6 an6 cd6 ct6), sl6⟩)
    (c6 : PySem.W.codeIn K cd6 "_law_is_set" = true)
    (k6 : PySem.W.keepIn K (.ref f6) = true)
    (a7 : PySem.W.nsIn K mainGlobals "least_cycle" = some (some (.ref f7)))
    (l7 : K.lookup f7 = some ⟨oc7, od7, .func (PySem.W.fnOf "least_cycle" "least_cycle" (defArgs s_least_cycle) (defBody s_least_cycle) (defScope s_least_cycle) .none kV7 dc7 pm7 an7 cd7 ct7), sl7⟩)
    (c7 : PySem.W.codeIn K cd7 "least_cycle" = true)
    (k7 : PySem.W.keepIn K (.ref f7) = true)
    (a8 : PySem.W.nsIn K mainGlobals "least_prefix" = some (some (.ref f8)))
    (l8 : K.lookup f8 = some ⟨oc8, od8, .func (PySem.W.fnOf "least_prefix" "least_prefix" (defArgs s_least_prefix) (defBody s_least_prefix) (defScope s_least_prefix) .none kV8 dc8 pm8 an8 cd8 ct8), sl8⟩)
    (c8 : PySem.W.codeIn K cd8 "least_prefix" = true)
    (k8 : PySem.W.keepIn K (.ref f8) = true)
    (a9 : PySem.W.nsIn K mainGlobals "_law_in" = some (some (.ref f9)))
    (l9 : K.lookup f9 = some ⟨oc9, od9, .func (PySem.W.fnOf "_law_in" "_law_in" (defArgs s__law_in) (defBody s__law_in) (defScope s__law_in) .none kV9 dc9 pm9 an9 cd9 ct9), sl9⟩)
    (c9 : PySem.W.codeIn K cd9 "_law_in" = true)
    (k9 : PySem.W.keepIn K (.ref f9) = true)
    (a10 : PySem.W.nsIn K mainGlobals "_law_band_line" = some (some (.ref f10)))
    (l10 : K.lookup f10 = some ⟨oc10, od10, .func (PySem.W.fnOf "_law_band_line" "_law_band_line" (defArgs s__law_band_line) (defBody s__law_band_line) (defScope s__law_band_line) .none kV10 dc10 pm10 an10 cd10 ct10), sl10⟩)
    (c10 : PySem.W.codeIn K cd10 "_law_band_line" = true)
    (k10 : PySem.W.keepIn K (.ref f10) = true)
    (a11 : PySem.W.nsIn K mainGlobals "_law_numbers" = some (some (.ref f11)))
    (l11 : K.lookup f11 = some ⟨oc11, od11, .func (PySem.W.fnOf "_law_numbers" "_law_numbers" (defArgs s__law_numbers) (defBody s__law_numbers) (defScope s__law_numbers) .none kV11 dc11 pm11 an11 cd11 ct11), sl11⟩)
    (c11 : PySem.W.codeIn K cd11 "_law_numbers" = true)
    (k11 : PySem.W.keepIn K (.ref f11) = true)
    (a12 : PySem.W.nsIn K mainGlobals "check_parts" = some (some (.ref f12)))
    (l12 : K.lookup f12 = some ⟨oc12, od12, .func (PySem.W.fnOf "check_parts" "check_parts" (defArgs s_check_parts) (defBody s_check_parts) (defScope s_check_parts) .none kV12 dc12 pm12 an12 cd12 ct12), sl12⟩)
    (c12 : PySem.W.codeIn K cd12 "check_parts" = true)
    (k12 : PySem.W.keepIn K (.ref f12) = true)
    (a13 : PySem.W.nsIn K mainGlobals "check_fixed" = some (some (.ref f13)))
    (l13 : K.lookup f13 = some ⟨oc13, od13, .func (PySem.W.fnOf "check_fixed" "check_fixed" (defArgs s_check_fixed) (defBody s_check_fixed) (defScope s_check_fixed) .none kV13 dc13 pm13 an13 cd13 ct13), sl13⟩)
    (c13 : PySem.W.codeIn K cd13 "check_fixed" = true)
    (k13 : PySem.W.keepIn K (.ref f13) = true)
    (a14 : PySem.W.nsIn K mainGlobals "unfolded" = some (some (.ref f14)))
    (l14 : K.lookup f14 = some ⟨oc14, od14, .func (PySem.W.fnOf "unfolded" "unfolded" (defArgs s_unfolded) (defBody s_unfolded) (defScope s_unfolded) .none kV14 dc14 pm14 an14 cd14 ct14), sl14⟩)
    (c14 : PySem.W.codeIn K cd14 "unfolded" = true)
    (k14 : PySem.W.keepIn K (.ref f14) = true)
    (a15 : PySem.W.nsIn K mainGlobals "has_bit" = some (some (.ref f15)))
    (l15 : K.lookup f15 = some ⟨oc15, od15, .func (PySem.W.fnOf "has_bit" "has_bit" (defArgs s_has_bit) (defBody s_has_bit) (defScope s_has_bit) .none kV15 dc15 pm15 an15 cd15 ct15), sl15⟩)
    (c15 : PySem.W.codeIn K cd15 "has_bit" = true)
    (k15 : PySem.W.keepIn K (.ref f15) = true)
    (a16 : PySem.W.nsIn K mainGlobals "combined" = some (some (.ref f16)))
    (l16 : K.lookup f16 = some ⟨oc16, od16, .func (PySem.W.fnOf "combined" "combined" (defArgs s_combined) (defBody s_combined) (defScope s_combined) .none kV16 dc16 pm16 an16 cd16 ct16), sl16⟩)
    (c16 : PySem.W.codeIn K cd16 "combined" = true)
    (k16 : PySem.W.keepIn K (.ref f16) = true)
    (a17 : PySem.W.nsIn K mainGlobals "merged" = some (some (.ref f17)))
    (l17 : K.lookup f17 = some ⟨oc17, od17, .func (PySem.W.fnOf "merged" "merged" (defArgs s_merged) (defBody s_merged) (defScope s_merged) .none kV17 dc17 pm17 an17 cd17 ct17), sl17⟩)
    (c17 : PySem.W.codeIn K cd17 "merged" = true)
    (k17 : PySem.W.keepIn K (.ref f17) = true)
    (a18 : PySem.W.findIn K (.ref C0) "__eq__" = some (some (.ref f18)))
    (n18 : PySem.W.isFn K (.ref f18) = true)
    (l18 : K.lookup f18 = some ⟨oc18, od18, .func (PySem.W.fnOf "__eq__" "Band.__eq__" (defArgs s_Band___eq__) (defBody s_Band___eq__) (defScope s_Band___eq__) .none kV18 dc18 pm18 an18 cd18 ct18), sl18⟩)
    (c18 : PySem.W.codeIn K cd18 "Band.__eq__" = true)
    (k18 : PySem.W.keepIn K (.ref f18) = true)
    (a19 : PySem.W.findIn K (.ref C0) "language" = some (some (.ref f19)))
    (n19 : PySem.W.isFn K (.ref f19) = true)
    (l19 : K.lookup f19 = some ⟨oc19, od19, .func (PySem.W.fnOf "language" "Band.language" (defArgs s_Band_language) (defBody s_Band_language) (defScope s_Band_language) .none kV19 dc19 pm19 an19 cd19 ct19), sl19⟩)
    (c19 : PySem.W.codeIn K cd19 "Band.language" = true)
    (k19 : PySem.W.keepIn K (.ref f19) = true)
    (a20 : PySem.W.findIn K (.ref C0) "tail" = some (some (.ref f20)))
    (n20 : PySem.W.isFn K (.ref f20) = true)
    (l20 : K.lookup f20 = some ⟨oc20, od20, .func (PySem.W.fnOf "tail" "Band.tail" (defArgs s_Band_tail) (defBody s_Band_tail) (defScope s_Band_tail) .none kV20 dc20 pm20 an20 cd20 ct20), sl20⟩)
    (c20 : PySem.W.codeIn K cd20 "Band.tail" = true)
    (k20 : PySem.W.keepIn K (.ref f20) = true)
    (a21 : PySem.W.findIn K (.ref C0) "spread" = some (some (.ref f21)))
    (n21 : PySem.W.isFn K (.ref f21) = true)
    (l21 : K.lookup f21 = some ⟨oc21, od21, .func (PySem.W.fnOf "spread" "Band.spread" (defArgs s_Band_spread) (defBody s_Band_spread) (defScope s_Band_spread) .none kV21 dc21 pm21 an21 cd21 ct21), sl21⟩)
    (c21 : PySem.W.codeIn K cd21 "Band.spread" = true)
    (k21 : PySem.W.keepIn K (.ref f21) = true)
    (a22 : PySem.W.findIn K (.ref C1) "__eq__" = some (some (.ref f22)))
    (n22 : PySem.W.isFn K (.ref f22) = true)
    (l22 : K.lookup f22 = some ⟨oc22, od22, .func (PySem.W.fnOf "__eq__" "PeriodicSet.__eq__" (defArgs s_PeriodicSet___eq__) (defBody s_PeriodicSet___eq__) (defScope s_PeriodicSet___eq__) .none kV22 dc22 pm22 an22 cd22 ct22), sl22⟩)
    (c22 : PySem.W.codeIn K cd22 "PeriodicSet.__eq__" = true)
    (k22 : PySem.W.keepIn K (.ref f22) = true)
    (a23 : PySem.W.findIn K (.ref C1) "__contains__" = some (some (.ref f23)))
    (n23 : PySem.W.isFn K (.ref f23) = true)
    (l23 : K.lookup f23 = some ⟨oc23, od23, .func (PySem.W.fnOf "__contains__" "PeriodicSet.__contains__" (defArgs s_PeriodicSet___contains__) (defBody s_PeriodicSet___contains__) (defScope s_PeriodicSet___contains__) .none kV23 dc23 pm23 an23 cd23 ct23), sl23⟩)
    (c23 : PySem.W.codeIn K cd23 "PeriodicSet.__contains__" = true)
    (k23 : PySem.W.keepIn K (.ref f23) = true)
    (a24 : PySem.W.findIn K (.ref C1) "__sub__" = some (some (.ref f24)))
    (n24 : PySem.W.isFn K (.ref f24) = true)
    (l24 : K.lookup f24 = some ⟨oc24, od24, .func (PySem.W.fnOf "__sub__" "PeriodicSet.__sub__" (defArgs s_PeriodicSet___sub__) (defBody s_PeriodicSet___sub__) (defScope s_PeriodicSet___sub__) .none kV24 dc24 pm24 an24 cd24 ct24), sl24⟩)
    (c24 : PySem.W.codeIn K cd24 "PeriodicSet.__sub__" = true)
    (k24 : PySem.W.keepIn K (.ref f24) = true)
    (a25 : PySem.W.findIn K (.ref C1) "is_infinite" = some (some (.ref f25)))
    (n25 : PySem.W.isFn K (.ref f25) = true)
    (l25 : K.lookup f25 = some ⟨oc25, od25, .func (PySem.W.fnOf "is_infinite" "PeriodicSet.is_infinite" (defArgs s_PeriodicSet_is_infinite) (defBody s_PeriodicSet_is_infinite) (defScope s_PeriodicSet_is_infinite) .none kV25 dc25 pm25 an25 cd25 ct25), sl25⟩)
    (c25 : PySem.W.codeIn K cd25 "PeriodicSet.is_infinite" = true)
    (k25 : PySem.W.keepIn K (.ref f25) = true)
    (a26 : PySem.W.findIn K (.ref C1) "within" = some (some (.ref f26)))
    (n26 : PySem.W.isFn K (.ref f26) = true)
    (l26 : K.lookup f26 = some ⟨oc26, od26, .func (PySem.W.fnOf "within" "PeriodicSet.within" (defArgs s_PeriodicSet_within) (defBody s_PeriodicSet_within) (defScope s_PeriodicSet_within) .none kV26 dc26 pm26 an26 cd26 ct26), sl26⟩)
    (c26 : PySem.W.codeIn K cd26 "PeriodicSet.within" = true)
    (k26 : PySem.W.keepIn K (.ref f26) = true)
    (a27 : PySem.W.findIn K (.ref C2) "__eq__" = some (some (.ref f27)))
    (n27 : PySem.W.isFn K (.ref f27) = true)
    (l27 : K.lookup f27 = some ⟨oc27, od27, .func (PySem.W.fnOf "__eq__" "Family.__eq__" (defArgs s_Family___eq__) (defBody s_Family___eq__) (defScope s_Family___eq__) .none kV27 dc27 pm27 an27 cd27 ct27), sl27⟩)
    (c27 : PySem.W.codeIn K cd27 "Family.__eq__" = true)
    (k27 : PySem.W.keepIn K (.ref f27) = true)
    (a28 : PySem.W.findIn K (.ref C2) "language" = some (some (.ref f28)))
    (n28 : PySem.W.isFn K (.ref f28) = true)
    (l28 : K.lookup f28 = some ⟨oc28, od28, .func (PySem.W.fnOf "language" "Family.language" (defArgs s_Family_language) (defBody s_Family_language) (defScope s_Family_language) .none kV28 dc28 pm28 an28 cd28 ct28), sl28⟩)
    (c28 : PySem.W.codeIn K cd28 "Family.language" = true)
    (k28 : PySem.W.keepIn K (.ref f28) = true)
    (a29 : PySem.W.findIn K (.ref C0) "first_number" = some (some (.ref f29)))
    (n29 : PySem.W.isFn K (.ref f29) = true)
    (l29 : K.lookup f29 = some ⟨oc29, od29, .func (PySem.W.fnOf "first_number" "Band.first_number" (defArgs s_Band_first_number) (defBody s_Band_first_number) (defScope s_Band_first_number) .none kV29 dc29 pm29 an29 cd29 ct29), sl29⟩)
    (c29 : PySem.W.codeIn K cd29 "Band.first_number" = true)
    (k29 : PySem.W.keepIn K (.ref f29) = true)
    (a30 : PySem.W.findIn K (.ref C2) "seat" = some (some (.ref f30)))
    (n30 : PySem.W.isFn K (.ref f30) = true)
    (l30 : K.lookup f30 = some ⟨oc30, od30, .func (PySem.W.fnOf "seat" "Family.seat" (defArgs s_Family_seat) (defBody s_Family_seat) (defScope s_Family_seat) .none kV30 dc30 pm30 an30 cd30 ct30), sl30⟩)
    (c30 : PySem.W.codeIn K cd30 "Family.seat" = true)
    (k30 : PySem.W.keepIn K (.ref f30) = true)
    (a31 : PySem.W.nsIn K mainGlobals "law" = some (some (.ref f31)))
    (l31 : K.lookup f31 = some ⟨oc31, od31, .func (PySem.W.fnOf "law" "law" (defArgs s_law) (defBody s_law) (defScope s_law) .none kV31 dc31 pm31 an31 cd31 ct31), sl31⟩)
    (c31 : PySem.W.codeIn K cd31 "law" = true)
    (k31 : PySem.W.keepIn K (.ref f31) = true)
    (ai0 : PySem.W.findIn K (.ref C0) "__init__" = some (some (.ref fi0)))
    (ni0 : PySem.W.isFn K (.ref fi0) = true)
    (li0 : K.lookup fi0 = some ⟨oci0, odi0, .func (PySem.W.fnOf "__init__" "Band.__init__" (defArgs si_Band) (defBody si_Band) (defScope si_Band) .none kVi0 dci0 pmi0 ani0 cdi0 cti0), sli0⟩)
    (ci0 : PySem.W.codeIn K cdi0 "Band.__init__" = true)
    (ki0 : PySem.W.keepIn K (.ref fi0) = true)
    (ai1 : PySem.W.findIn K (.ref C1) "__init__" = some (some (.ref fi1)))
    (ni1 : PySem.W.isFn K (.ref fi1) = true)
    (li1 : K.lookup fi1 = some ⟨oci1, odi1, .func (PySem.W.fnOf "__init__" "PeriodicSet.__init__" (defArgs si_PeriodicSet) (defBody si_PeriodicSet) (defScope si_PeriodicSet) .none kVi1 dci1 pmi1 ani1 cdi1 cti1), sli1⟩)
    (ci1 : PySem.W.codeIn K cdi1 "PeriodicSet.__init__" = true)
    (ki1 : PySem.W.keepIn K (.ref fi1) = true)
    (ai2 : PySem.W.findIn K (.ref C2) "__init__" = some (some (.ref fi2)))
    (ni2 : PySem.W.isFn K (.ref fi2) = true)
    (li2 : K.lookup fi2 = some ⟨oci2, odi2, .func (PySem.W.fnOf "__init__" "Family.__init__" (defArgs si_Family) (defBody si_Family) (defScope si_Family) .none kVi2 dci2 pmi2 ani2 cdi2 cti2), sli2⟩)
    (ci2 : PySem.W.codeIn K cdi2 "Family.__init__" = true)
    (ki2 : PySem.W.keepIn K (.ref fi2) = true)
    (pg0 : PySem.W.plainGet K C0 Str.empty = true)
    (hd0 : PySem.W.hasDictIn K C0 = true)
    (po0 : PySem.W.plainOver K C0 = true)
    (sa0 : PySem.W.findIn K (.ref C0) "__setattr__" = some (some (.builtin "object.__setattr__")))
    (mk0 : PySem.W.makesIn K C0 = true)
    (kc0 : PySem.W.keepIn K (.ref C0) = true)
    (sf0 : PySem.W.selfFirst K C0 = true)
    (ha0 : PySem.W.findIn K (.ref C0) "__class__" = some (some (.builtin "object.__class__")))
    (hm0 : PySem.W.mroIn K C0 (.type "object") = some true)
    (ne0 : PySem.W.findIn K (.ref C0) "__ne__" = some (some (.builtin "object.__ne__")))
    (na0_0 : PySem.W.findIn K (.ref C0) "period" = some none)
    (na0_1 : PySem.W.findIn K (.ref C0) "rows" = some none)
    (kk0_0 : PySem.W.kitOne K (.ref C0) (.ref C0) = some true)
    (kk0_1 : PySem.W.kitOne K (.ref C0) (.ref C1) = some false)
    (kk0_2 : PySem.W.kitOne K (.ref C0) (.ref C2) = some false)
    (kb0_str : PySem.W.kitOne K (.ref C0) (.type "str") = some false)
    (kb0_int : PySem.W.kitOne K (.ref C0) (.type "int") = some false)
    (kb0_bool : PySem.W.kitOne K (.ref C0) (.type "bool") = some false)
    (kb0_list : PySem.W.kitOne K (.ref C0) (.type "list") = some false)
    (kb0_tuple : PySem.W.kitOne K (.ref C0) (.type "tuple") = some false)
    (kt0_str : PySem.W.kitOne K (.type "str") (.ref C0) = some false)
    (kt0_int : PySem.W.kitOne K (.type "int") (.ref C0) = some false)
    (kt0_bool : PySem.W.kitOne K (.type "bool") (.ref C0) = some false)
    (kt0_list : PySem.W.kitOne K (.type "list") (.ref C0) = some false)
    (kt0_tuple : PySem.W.kitOne K (.type "tuple") (.ref C0) = some false)
    (kt0_NoneType : PySem.W.kitOne K (.type "NoneType") (.ref C0) = some false)
    (pg1 : PySem.W.plainGet K C1 Str.empty = true)
    (hd1 : PySem.W.hasDictIn K C1 = true)
    (po1 : PySem.W.plainOver K C1 = true)
    (sa1 : PySem.W.findIn K (.ref C1) "__setattr__" = some (some (.builtin "object.__setattr__")))
    (mk1 : PySem.W.makesIn K C1 = true)
    (kc1 : PySem.W.keepIn K (.ref C1) = true)
    (sf1 : PySem.W.selfFirst K C1 = true)
    (ha1 : PySem.W.findIn K (.ref C1) "__class__" = some (some (.builtin "object.__class__")))
    (hm1 : PySem.W.mroIn K C1 (.type "object") = some true)
    (ne1 : PySem.W.findIn K (.ref C1) "__ne__" = some (some (.builtin "object.__ne__")))
    (na1_0 : PySem.W.findIn K (.ref C1) "cycle" = some none)
    (na1_1 : PySem.W.findIn K (.ref C1) "prefix" = some none)
    (kk1_0 : PySem.W.kitOne K (.ref C1) (.ref C0) = some false)
    (kk1_1 : PySem.W.kitOne K (.ref C1) (.ref C1) = some true)
    (kk1_2 : PySem.W.kitOne K (.ref C1) (.ref C2) = some false)
    (kb1_str : PySem.W.kitOne K (.ref C1) (.type "str") = some false)
    (kb1_int : PySem.W.kitOne K (.ref C1) (.type "int") = some false)
    (kb1_bool : PySem.W.kitOne K (.ref C1) (.type "bool") = some false)
    (kb1_list : PySem.W.kitOne K (.ref C1) (.type "list") = some false)
    (kb1_tuple : PySem.W.kitOne K (.ref C1) (.type "tuple") = some false)
    (kt1_str : PySem.W.kitOne K (.type "str") (.ref C1) = some false)
    (kt1_int : PySem.W.kitOne K (.type "int") (.ref C1) = some false)
    (kt1_bool : PySem.W.kitOne K (.type "bool") (.ref C1) = some false)
    (kt1_list : PySem.W.kitOne K (.type "list") (.ref C1) = some false)
    (kt1_tuple : PySem.W.kitOne K (.type "tuple") (.ref C1) = some false)
    (kt1_NoneType : PySem.W.kitOne K (.type "NoneType") (.ref C1) = some false)
    (pg2 : PySem.W.plainGet K C2 Str.empty = true)
    (hd2 : PySem.W.hasDictIn K C2 = true)
    (po2 : PySem.W.plainOver K C2 = true)
    (sa2 : PySem.W.findIn K (.ref C2) "__setattr__" = some (some (.builtin "object.__setattr__")))
    (mk2 : PySem.W.makesIn K C2 = true)
    (kc2 : PySem.W.keepIn K (.ref C2) = true)
    (sf2 : PySem.W.selfFirst K C2 = true)
    (ha2 : PySem.W.findIn K (.ref C2) "__class__" = some (some (.builtin "object.__class__")))
    (hm2 : PySem.W.mroIn K C2 (.type "object") = some true)
    (ne2 : PySem.W.findIn K (.ref C2) "__ne__" = some (some (.builtin "object.__ne__")))
    (na2_0 : PySem.W.findIn K (.ref C2) "period" = some none)
    (na2_1 : PySem.W.findIn K (.ref C2) "fixed" = some none)
    (na2_2 : PySem.W.findIn K (.ref C2) "bands" = some none)
    (kk2_0 : PySem.W.kitOne K (.ref C2) (.ref C0) = some false)
    (kk2_1 : PySem.W.kitOne K (.ref C2) (.ref C1) = some false)
    (kk2_2 : PySem.W.kitOne K (.ref C2) (.ref C2) = some true)
    (kb2_str : PySem.W.kitOne K (.ref C2) (.type "str") = some false)
    (kb2_int : PySem.W.kitOne K (.ref C2) (.type "int") = some false)
    (kb2_bool : PySem.W.kitOne K (.ref C2) (.type "bool") = some false)
    (kb2_list : PySem.W.kitOne K (.ref C2) (.type "list") = some false)
    (kb2_tuple : PySem.W.kitOne K (.ref C2) (.type "tuple") = some false)
    (kt2_str : PySem.W.kitOne K (.type "str") (.ref C2) = some false)
    (kt2_int : PySem.W.kitOne K (.type "int") (.ref C2) = some false)
    (kt2_bool : PySem.W.kitOne K (.type "bool") (.ref C2) = some false)
    (kt2_list : PySem.W.kitOne K (.type "list") (.ref C2) = some false)
    (kt2_tuple : PySem.W.kitOne K (.type "tuple") (.ref C2) = some false)
    (kt2_NoneType : PySem.W.kitOne K (.type "NoneType") (.ref C2) = some false)
    (hn : PySem.W.specialIn K (.builtin "object.__class__") "__get__" = some (some (.builtin "getset_descriptor.__get__")))
    (htk : PySem.W.takesIn K (.builtin "object.__class__") = some true)
    (z_len : PySem.W.nsIn K mainGlobals "len" = some none)
    (z_int : PySem.W.nsIn K mainGlobals "int" = some none)
    (z_str : PySem.W.nsIn K mainGlobals "str" = some none)
    (z_bool : PySem.W.nsIn K mainGlobals "bool" = some none)
    (z_abs : PySem.W.nsIn K mainGlobals "abs" = some none)
    (z_max : PySem.W.nsIn K mainGlobals "max" = some none)
    (z_min : PySem.W.nsIn K mainGlobals "min" = some none)
    (z_sum : PySem.W.nsIn K mainGlobals "sum" = some none)
    (z_all : PySem.W.nsIn K mainGlobals "all" = some none)
    (z_any : PySem.W.nsIn K mainGlobals "any" = some none)
    (z_sorted : PySem.W.nsIn K mainGlobals "sorted" = some none)
    (z_list : PySem.W.nsIn K mainGlobals "list" = some none)
    (z_tuple : PySem.W.nsIn K mainGlobals "tuple" = some none)
    (z_divmod : PySem.W.nsIn K mainGlobals "divmod" = some none)
    (z_isinstance : PySem.W.nsIn K mainGlobals "isinstance" = some none)
    (z_range : PySem.W.nsIn K mainGlobals "range" = some none)
    (z_zip : PySem.W.nsIn K mainGlobals "zip" = some none)
    (z_set : PySem.W.nsIn K mainGlobals "set" = some none)
    (z_enumerate : PySem.W.nsIn K mainGlobals "enumerate" = some none)
    (m_lcm : PySem.W.nsIn K mainGlobals "lcm" = some (some (.builtin "math.lcm")))
    (g_MOST_PERIOD : PySem.W.nsIn K mainGlobals "MOST_PERIOD" = some (some (.int 4 tk_MOST_PERIOD)))
    (g_MOST_FIXED : PySem.W.nsIn K mainGlobals "MOST_FIXED" = some (some (.int 6 tk_MOST_FIXED)))
    (g_MOST_BANDS : PySem.W.nsIn K mainGlobals "MOST_BANDS" = some (some (.int 2 tk_MOST_BANDS)))
    (g_LONGEST_PREFIX : PySem.W.nsIn K mainGlobals "LONGEST_PREFIX" = some (some (.int 12 tk_LONGEST_PREFIX)))
    (hlaw : ∀ ns : List Int, ns.length ≤ 63 → (sem P 16).F 31 [.scr ns] (fun r => r = .bl true)) :
    ∃ fd : FuncData, (∀ (s : Shared) (v : Value), BindsTo s fd ⟨[v], []⟩ [("script", v)]) ∧ ∀ base : Heap, K.In base → base.Ns mainGlobals mg → FnOk l.prog w K mg base CX0 (2 * 16) fa fd ["script"] (spLaw K 63) := by
  have e : f31 = fa := by
    have e1 := hfa.symm.trans (PySem.W.mg_of X G a31)
    cases e1
    rfl
  subst e
  let S : Sg := ⟨K, fun c => [C0, C1, C2].getD c 0, fun c => fn.getD c []⟩
  let aF : Nat → Addr := fun f => (f0 :: f1 :: f2 :: f3 :: f4 :: f5 :: f6 :: f7 :: f8 :: f9 :: f10 :: f11 :: f12 :: f13 :: f14 :: f15 :: f16 :: f17 :: f18 :: f19 :: f20 :: f21 :: f22 :: f23 :: f24 :: f25 :: f26 :: f27 :: f28 :: f29 :: f30 :: f31 :: []).getD f 0
  let aI : Nat → Addr := fun f => [fi0, fi1, fi2].getD f 0
  let fF : Nat → FuncData := fun f => ((PySem.W.fnOf "_law_digits" "_law_digits" (defArgs s__law_digits) (defBody s__law_digits) (defScope s__law_digits) .none kV0 dc0 pm0 an0 cd0 ct0) ::
    (PySem.W.fnOf "_law_cell" "_law_cell" (defArgs s__law_cell) (defBody s__law_cell) (defScope s__law_cell) .none kV1 dc1 pm1 an1 cd1 ct1) ::
    (PySem.W.fnOf "_law_band" "_law_band" (defArgs s__law_band) (defBody s__law_band) (defScope s__law_band) .none kV2 dc2 pm2 an2 cd2 ct2) ::
    (PySem.W.fnOf "checked_row" "checked_row" (defArgs s_checked_row) (defBody s_checked_row) (defScope s_checked_row) .none kV3 dc3 pm3 an3 cd3 ct3) ::
    (PySem.W.fnOf "is_bits" "is_bits" (defArgs s_is_bits) (defBody s_is_bits) (defScope s_is_bits) .none kV4 dc4 pm4 an4 cd4 ct4) ::
    (PySem.W.fnOf "_law_right" "_law_right" (defArgs s__law_right) (defBody s__law_right) (defScope s__law_right) .none kV5 dc5 pm5 an5 cd5 ct5) ::
    (PySem.W.fnOf "_law_is_set" "_law_is_set" (defArgs s__law_is_set) (defBody s__law_is_set) (defScope s__law_is_set) .none kV6 dc6 pm6 an6 cd6 ct6) ::
    (PySem.W.fnOf "least_cycle" "least_cycle" (defArgs s_least_cycle) (defBody s_least_cycle) (defScope s_least_cycle) .none kV7 dc7 pm7 an7 cd7 ct7) ::
    (PySem.W.fnOf "least_prefix" "least_prefix" (defArgs s_least_prefix) (defBody s_least_prefix) (defScope s_least_prefix) .none kV8 dc8 pm8 an8 cd8 ct8) ::
    (PySem.W.fnOf "_law_in" "_law_in" (defArgs s__law_in) (defBody s__law_in) (defScope s__law_in) .none kV9 dc9 pm9 an9 cd9 ct9) ::
    (PySem.W.fnOf "_law_band_line" "_law_band_line" (defArgs s__law_band_line) (defBody s__law_band_line) (defScope s__law_band_line) .none kV10 dc10 pm10 an10 cd10 ct10) ::
    (PySem.W.fnOf "_law_numbers" "_law_numbers" (defArgs s__law_numbers) (defBody s__law_numbers) (defScope s__law_numbers) .none kV11 dc11 pm11 an11 cd11 ct11) ::
    (PySem.W.fnOf "check_parts" "check_parts" (defArgs s_check_parts) (defBody s_check_parts) (defScope s_check_parts) .none kV12 dc12 pm12 an12 cd12 ct12) ::
    (PySem.W.fnOf "check_fixed" "check_fixed" (defArgs s_check_fixed) (defBody s_check_fixed) (defScope s_check_fixed) .none kV13 dc13 pm13 an13 cd13 ct13) ::
    (PySem.W.fnOf "unfolded" "unfolded" (defArgs s_unfolded) (defBody s_unfolded) (defScope s_unfolded) .none kV14 dc14 pm14 an14 cd14 ct14) ::
    (PySem.W.fnOf "has_bit" "has_bit" (defArgs s_has_bit) (defBody s_has_bit) (defScope s_has_bit) .none kV15 dc15 pm15 an15 cd15 ct15) ::
    (PySem.W.fnOf "combined" "combined" (defArgs s_combined) (defBody s_combined) (defScope s_combined) .none kV16 dc16 pm16 an16 cd16 ct16) ::
    (PySem.W.fnOf "merged" "merged" (defArgs s_merged) (defBody s_merged) (defScope s_merged) .none kV17 dc17 pm17 an17 cd17 ct17) ::
    (PySem.W.fnOf "__eq__" "Band.__eq__" (defArgs s_Band___eq__) (defBody s_Band___eq__) (defScope s_Band___eq__) .none kV18 dc18 pm18 an18 cd18 ct18) ::
    (PySem.W.fnOf "language" "Band.language" (defArgs s_Band_language) (defBody s_Band_language) (defScope s_Band_language) .none kV19 dc19 pm19 an19 cd19 ct19) ::
    (PySem.W.fnOf "tail" "Band.tail" (defArgs s_Band_tail) (defBody s_Band_tail) (defScope s_Band_tail) .none kV20 dc20 pm20 an20 cd20 ct20) ::
    (PySem.W.fnOf "spread" "Band.spread" (defArgs s_Band_spread) (defBody s_Band_spread) (defScope s_Band_spread) .none kV21 dc21 pm21 an21 cd21 ct21) ::
    (PySem.W.fnOf "__eq__" "PeriodicSet.__eq__" (defArgs s_PeriodicSet___eq__) (defBody s_PeriodicSet___eq__) (defScope s_PeriodicSet___eq__) .none kV22 dc22 pm22 an22 cd22 ct22) ::
    (PySem.W.fnOf "__contains__" "PeriodicSet.__contains__" (defArgs s_PeriodicSet___contains__) (defBody s_PeriodicSet___contains__) (defScope s_PeriodicSet___contains__) .none kV23 dc23 pm23 an23 cd23 ct23) ::
    (PySem.W.fnOf "__sub__" "PeriodicSet.__sub__" (defArgs s_PeriodicSet___sub__) (defBody s_PeriodicSet___sub__) (defScope s_PeriodicSet___sub__) .none kV24 dc24 pm24 an24 cd24 ct24) ::
    (PySem.W.fnOf "is_infinite" "PeriodicSet.is_infinite" (defArgs s_PeriodicSet_is_infinite) (defBody s_PeriodicSet_is_infinite) (defScope s_PeriodicSet_is_infinite) .none kV25 dc25 pm25 an25 cd25 ct25) ::
    (PySem.W.fnOf "within" "PeriodicSet.within" (defArgs s_PeriodicSet_within) (defBody s_PeriodicSet_within) (defScope s_PeriodicSet_within) .none kV26 dc26 pm26 an26 cd26 ct26) ::
    (PySem.W.fnOf "__eq__" "Family.__eq__" (defArgs s_Family___eq__) (defBody s_Family___eq__) (defScope s_Family___eq__) .none kV27 dc27 pm27 an27 cd27 ct27) ::
    (PySem.W.fnOf "language" "Family.language" (defArgs s_Family_language) (defBody s_Family_language) (defScope s_Family_language) .none kV28 dc28 pm28 an28 cd28 ct28) ::
    (PySem.W.fnOf "first_number" "Band.first_number" (defArgs s_Band_first_number) (defBody s_Band_first_number) (defScope s_Band_first_number) .none kV29 dc29 pm29 an29 cd29 ct29) ::
    (PySem.W.fnOf "seat" "Family.seat" (defArgs s_Family_seat) (defBody s_Family_seat) (defScope s_Family_seat) .none kV30 dc30 pm30 an30 cd30 ct30) ::
    (PySem.W.fnOf "law" "law" (defArgs s_law) (defBody s_law) (defScope s_law) .none kV31 dc31 pm31 an31 cd31 ct31) :: []).getD f (PySem.W.fnOf "law" "law" (defArgs s_law) (defBody s_law) (defScope s_law) .none kV31 dc31 pm31 an31 cd31 ct31)
  let fI : Nat → FuncData := fun f => [(PySem.W.fnOf "__init__" "Band.__init__" (defArgs si_Band) (defBody si_Band) (defScope si_Band) .none kVi0 dci0 pmi0 ani0 cdi0 cti0),
    (PySem.W.fnOf "__init__" "PeriodicSet.__init__" (defArgs si_PeriodicSet) (defBody si_PeriodicSet) (defScope si_PeriodicSet) .none kVi1 dci1 pmi1 ani1 cdi1 cti1),
    (PySem.W.fnOf "__init__" "Family.__init__" (defArgs si_Family) (defBody si_Family) (defScope si_Family) .none kVi2 dci2 pmi2 ani2 cdi2 cti2)].getD f (PySem.W.fnOf "law" "law" (defArgs s_law) (defBody s_law) (defScope s_law) .none kV31 dc31 pm31 an31 cd31 ct31)
  let pF : Nat → List Str := fun f => ((["cell", "sizes"] : List Str) :: (["script", "k"] : List Str) :: (["period", "row"] : List Str) :: (["row", "period"] : List Str) :: (["value"] : List Str) :: (["data", "band", "r", "start", "far"] : List Str) :: (["told"] : List Str) :: (["cycle"] : List Str) :: (["prefix", "cycle"] : List Str) :: (["line", "x"] : List Str) :: (["data", "band", "n"] : List Str) :: (["period", "r", "start", "upto"] : List Str) :: (["period", "fixed", "bands"] : List Str) :: (["period", "language"] : List Str) :: (["prefix", "cycle", "length"] : List Str) :: (["prefix", "cycle", "number"] : List Str) :: (["one", "two", "table"] : List Str) :: (["left", "right", "table"] : List Str) :: (["self", "other"] : List Str) :: (["self", "n"] : List Str) :: (["self", "residue", "start"] : List Str) :: (["self", "residue", "start"] : List Str) :: (["self", "other"] : List Str) :: (["self", "number"] : List Str) :: (["self", "other"] : List Str) :: (["self"] : List Str) :: (["self", "other"] : List Str) :: (["self", "other"] : List Str) :: (["self", "place"] : List Str) :: (["self", "residue", "start"] : List Str) :: (["self", "place"] : List Str) :: (["script"] : List Str) :: []).getD f []
  let pI : Nat → List Str := fun f => [(["self", "rows"] : List Str), (["self", "prefix", "cycle"] : List Str), (["self", "period", "fixed", "bands"] : List Str)].getD f []
  have F0 := fun_mk (st := s__law_digits) l0 c0 k0
  have bd0 := F0.binds (ps := ["cell", "sizes"]) fun _ _ _ _ _ _ us hl => match us, hl with | [_, _], _ => rfl
  have F1 := fun_mk (st := s__law_cell) l1 c1 k1
  have bd1 := F1.binds (ps := ["script", "k"]) fun _ _ _ _ _ _ us hl => match us, hl with | [_, _], _ => rfl
  have F2 := fun_mk (st := s__law_band) l2 c2 k2
  have bd2 := F2.binds (ps := ["period", "row"]) fun _ _ _ _ _ _ us hl => match us, hl with | [_, _], _ => rfl
  have F3 := fun_mk (st := s_checked_row) l3 c3 k3
  have bd3 := F3.binds (ps := ["row", "period"]) fun _ _ _ _ _ _ us hl => match us, hl with | [_, _], _ => rfl
  have F4 := fun_mk (st := s_is_bits) l4 c4 k4
  have bd4 := F4.binds (ps := ["value"]) fun _ _ _ _ _ _ us hl => match us, hl with | [_], _ => rfl
  have F5 := fun_mk (st := s__law_right) l5 c5 k5
  have bd5 := F5.binds (ps := ["data", "band", "r", "start", "far"]) fun _ _ _ _ _ _ us hl => match us, hl with | [_, _, _, _, _], _ => rfl
  have F6 := fun_mk (st := s__law_is_set) l6 c6 k6
  have bd6 := F6.binds (ps := ["told"]) fun _ _ _ _ _ _ us hl => match us, hl with | [_], _ => rfl
  have F7 := fun_mk (st := s_least_cycle) l7 c7 k7
  have bd7 := F7.binds (ps := ["cycle"]) fun _ _ _ _ _ _ us hl => match us, hl with | [_], _ => rfl
  have F8 := fun_mk (st := s_least_prefix) l8 c8 k8
  have bd8 := F8.binds (ps := ["prefix", "cycle"]) fun _ _ _ _ _ _ us hl => match us, hl with | [_, _], _ => rfl
  have F9 := fun_mk (st := s__law_in) l9 c9 k9
  have bd9 := F9.binds (ps := ["line", "x"]) fun _ _ _ _ _ _ us hl => match us, hl with | [_, _], _ => rfl
  have F10 := fun_mk (st := s__law_band_line) l10 c10 k10
  have bd10 := F10.binds (ps := ["data", "band", "n"]) fun _ _ _ _ _ _ us hl => match us, hl with | [_, _, _], _ => rfl
  have F11 := fun_mk (st := s__law_numbers) l11 c11 k11
  have bd11 := F11.binds (ps := ["period", "r", "start", "upto"]) fun _ _ _ _ _ _ us hl => match us, hl with | [_, _, _, _], _ => rfl
  have F12 := fun_mk (st := s_check_parts) l12 c12 k12
  have bd12 := F12.binds (ps := ["period", "fixed", "bands"]) fun _ _ _ _ _ _ us hl => match us, hl with | [_, _, _], _ => rfl
  have F13 := fun_mk (st := s_check_fixed) l13 c13 k13
  have bd13 := F13.binds (ps := ["period", "language"]) fun _ _ _ _ _ _ us hl => match us, hl with | [_, _], _ => rfl
  have F14 := fun_mk (st := s_unfolded) l14 c14 k14
  have bd14 := F14.binds (ps := ["prefix", "cycle", "length"]) fun _ _ _ _ _ _ us hl => match us, hl with | [_, _, _], _ => rfl
  have F15 := fun_mk (st := s_has_bit) l15 c15 k15
  have bd15 := F15.binds (ps := ["prefix", "cycle", "number"]) fun _ _ _ _ _ _ us hl => match us, hl with | [_, _, _], _ => rfl
  have F16 := fun_mk (st := s_combined) l16 c16 k16
  have bd16 := F16.binds (ps := ["one", "two", "table"]) fun _ _ _ _ _ _ us hl => match us, hl with | [_, _, _], _ => rfl
  have F17 := fun_mk (st := s_merged) l17 c17 k17
  have bd17 := F17.binds (ps := ["left", "right", "table"]) fun _ _ _ _ _ _ us hl => match us, hl with | [_, _, _], _ => rfl
  have F18 := fun_mk (st := s_Band___eq__) l18 c18 k18
  have bd18 := F18.binds (ps := ["self", "other"]) fun _ _ _ _ _ _ us hl => match us, hl with | [_, _], _ => rfl
  have F19 := fun_mk (st := s_Band_language) l19 c19 k19
  have bd19 := F19.binds (ps := ["self", "n"]) fun _ _ _ _ _ _ us hl => match us, hl with | [_, _], _ => rfl
  have F20 := fun_mk (st := s_Band_tail) l20 c20 k20
  have bd20 := F20.binds (ps := ["self", "residue", "start"]) fun _ _ _ _ _ _ us hl => match us, hl with | [_, _, _], _ => rfl
  have F21 := fun_mk (st := s_Band_spread) l21 c21 k21
  have bd21 := F21.binds (ps := ["self", "residue", "start"]) fun _ _ _ _ _ _ us hl => match us, hl with | [_, _, _], _ => rfl
  have F22 := fun_mk (st := s_PeriodicSet___eq__) l22 c22 k22
  have bd22 := F22.binds (ps := ["self", "other"]) fun _ _ _ _ _ _ us hl => match us, hl with | [_, _], _ => rfl
  have F23 := fun_mk (st := s_PeriodicSet___contains__) l23 c23 k23
  have bd23 := F23.binds (ps := ["self", "number"]) fun _ _ _ _ _ _ us hl => match us, hl with | [_, _], _ => rfl
  have F24 := fun_mk (st := s_PeriodicSet___sub__) l24 c24 k24
  have bd24 := F24.binds (ps := ["self", "other"]) fun _ _ _ _ _ _ us hl => match us, hl with | [_, _], _ => rfl
  have F25 := fun_mk (st := s_PeriodicSet_is_infinite) l25 c25 k25
  have bd25 := F25.binds (ps := ["self"]) fun _ _ _ _ _ _ us hl => match us, hl with | [_], _ => rfl
  have F26 := fun_mk (st := s_PeriodicSet_within) l26 c26 k26
  have bd26 := F26.binds (ps := ["self", "other"]) fun _ _ _ _ _ _ us hl => match us, hl with | [_, _], _ => rfl
  have F27 := fun_mk (st := s_Family___eq__) l27 c27 k27
  have bd27 := F27.binds (ps := ["self", "other"]) fun _ _ _ _ _ _ us hl => match us, hl with | [_, _], _ => rfl
  have F28 := fun_mk (st := s_Family_language) l28 c28 k28
  have bd28 := F28.binds (ps := ["self", "place"]) fun _ _ _ _ _ _ us hl => match us, hl with | [_, _], _ => rfl
  have F29 := fun_mk (st := s_Band_first_number) l29 c29 k29
  have bd29 := F29.binds (ps := ["self", "residue", "start"]) fun _ _ _ _ _ _ us hl => match us, hl with | [_, _, _], _ => rfl
  have F30 := fun_mk (st := s_Family_seat) l30 c30 k30
  have bd30 := F30.binds (ps := ["self", "place"]) fun _ _ _ _ _ _ us hl => match us, hl with | [_, _], _ => rfl
  have F31 := fun_mk (st := s_law) l31 c31 k31
  have bd31 := F31.binds (ps := ["script"]) fun _ _ _ _ _ _ us hl => match us, hl with | [_], _ => rfl
  have Fi0 := fun_mk (st := si_Band) li0 ci0 ki0
  have bdi0 := Fi0.binds (ps := ["self", "rows"]) fun _ _ _ _ _ _ us hl => match us, hl with | [_, _], _ => rfl
  have Fi1 := fun_mk (st := si_PeriodicSet) li1 ci1 ki1
  have bdi1 := Fi1.binds (ps := ["self", "prefix", "cycle"]) fun _ _ _ _ _ _ us hl => match us, hl with | [_, _, _], _ => rfl
  have Fi2 := fun_mk (st := si_Family) li2 ci2 ki2
  have bdi2 := Fi2.binds (ps := ["self", "period", "fixed", "bands"]) fun _ _ _ _ _ _ us hl => match us, hl with | [_, _, _, _], _ => rfl
  have cl0 : Cls K C0 := ⟨pg0, hd0, po0, sa0⟩
  have cl1 : Cls K C1 := ⟨pg1, hd1, po1, sa1⟩
  have cl2 : Cls K C2 := ⟨pg2, hd2, po2, sa2⟩
  have B : Tabs S T P mg aF aI fF fI pF pI := by
    refine ⟨?_, ?_, ?_, ?_, ?_⟩
    · show ∀ f d, P.fs[f]? = some d → DefOk K T (aF f) (fF f) (pF f) d d.ar
      exact (get_cons ⟨⟨"_law_digits", "_law_digits", s__law_digits, N0, F0, sc0, ok0, rfl⟩, bd0, rfl⟩ (get_cons ⟨⟨"_law_cell", "_law_cell", s__law_cell, N1, F1, sc1, ok1, rfl⟩, bd1, rfl⟩ (get_cons ⟨⟨"_law_band", "_law_band", s__law_band, N2, F2, sc2, ok2, rfl⟩, bd2, rfl⟩ (get_cons ⟨⟨"checked_row", "checked_row", s_checked_row, N3, F3, sc3, ok3, rfl⟩, bd3, rfl⟩ (get_cons ⟨⟨"is_bits", "is_bits", s_is_bits, N4, F4, sc4, ok4, rfl⟩, bd4, rfl⟩ (get_cons ⟨⟨"_law_right", "_law_right", s__law_right, N5, F5, sc5, ok5, rfl⟩, bd5, rfl⟩ (get_cons ⟨⟨"_law_is_set", "_law_is_set", s__law_is_set, N6, F6, sc6, ok6, rfl⟩, bd6, rfl⟩ (get_cons ⟨⟨"least_cycle", "least_cycle", s_least_cycle, N7, F7, sc7, ok7, rfl⟩, bd7, rfl⟩ (get_cons ⟨⟨"least_prefix", "least_prefix", s_least_prefix, N8, F8, sc8, ok8, rfl⟩, bd8, rfl⟩ (get_cons ⟨⟨"_law_in", "_law_in", s__law_in, N9, F9, sc9, ok9, rfl⟩, bd9, rfl⟩ (get_cons ⟨⟨"_law_band_line", "_law_band_line", s__law_band_line, N10, F10, sc10, ok10, rfl⟩, bd10, rfl⟩ (get_cons ⟨⟨"_law_numbers", "_law_numbers", s__law_numbers, N11, F11, sc11, ok11, rfl⟩, bd11, rfl⟩ (get_cons ⟨⟨"check_parts", "check_parts", s_check_parts, N12, F12, sc12, ok12, rfl⟩, bd12, rfl⟩ (get_cons ⟨⟨"check_fixed", "check_fixed", s_check_fixed, N13, F13, sc13, ok13, rfl⟩, bd13, rfl⟩ (get_cons ⟨⟨"unfolded", "unfolded", s_unfolded, N14, F14, sc14, ok14, rfl⟩, bd14, rfl⟩ (get_cons ⟨⟨"has_bit", "has_bit", s_has_bit, N15, F15, sc15, ok15, rfl⟩, bd15, rfl⟩ (get_cons ⟨⟨"combined", "combined", s_combined, N16, F16, sc16, ok16, rfl⟩, bd16, rfl⟩ (get_cons ⟨⟨"merged", "merged", s_merged, N17, F17, sc17, ok17, rfl⟩, bd17, rfl⟩ (get_cons ⟨⟨"__eq__", "Band.__eq__", s_Band___eq__, N18, F18, sc18, ok18, rfl⟩, bd18, rfl⟩ (get_cons ⟨⟨"language", "Band.language", s_Band_language, N19, F19, sc19, ok19, rfl⟩, bd19, rfl⟩ (get_cons ⟨⟨"tail", "Band.tail", s_Band_tail, N20, F20, sc20, ok20, rfl⟩, bd20, rfl⟩ (get_cons ⟨⟨"spread", "Band.spread", s_Band_spread, N21, F21, sc21, ok21, rfl⟩, bd21, rfl⟩ (get_cons ⟨⟨"__eq__", "PeriodicSet.__eq__", s_PeriodicSet___eq__, N22, F22, sc22, ok22, rfl⟩, bd22, rfl⟩ (get_cons ⟨⟨"__contains__", "PeriodicSet.__contains__", s_PeriodicSet___contains__, N23, F23, sc23, ok23, rfl⟩, bd23, rfl⟩ (get_cons ⟨⟨"__sub__", "PeriodicSet.__sub__", s_PeriodicSet___sub__, N24, F24, sc24, ok24, rfl⟩, bd24, rfl⟩ (get_cons ⟨⟨"is_infinite", "PeriodicSet.is_infinite", s_PeriodicSet_is_infinite, N25, F25, sc25, ok25, rfl⟩, bd25, rfl⟩ (get_cons ⟨⟨"within", "PeriodicSet.within", s_PeriodicSet_within, N26, F26, sc26, ok26, rfl⟩, bd26, rfl⟩ (get_cons ⟨⟨"__eq__", "Family.__eq__", s_Family___eq__, N27, F27, sc27, ok27, rfl⟩, bd27, rfl⟩ (get_cons ⟨⟨"language", "Family.language", s_Family_language, N28, F28, sc28, ok28, rfl⟩, bd28, rfl⟩ (get_cons ⟨⟨"first_number", "Band.first_number", s_Band_first_number, N29, F29, sc29, ok29, rfl⟩, bd29, rfl⟩ (get_cons ⟨⟨"seat", "Family.seat", s_Family_seat, N30, F30, sc30, ok30, rfl⟩, bd30, rfl⟩ (get_cons ⟨⟨"law", "law", s_law, N31, F31, sc31, ok31, rfl⟩, bd31, rfl⟩ get_nil))))))))))))))))))))))))))))))))
    · show ∀ f d, P.is[f]? = some d → DefOk K T (aI f) (fI f) (pI f) d (d.ar + 1)
      exact (get_cons ⟨⟨"__init__", "Band.__init__", si_Band, Ni0, Fi0, sci0, oki0, rfl⟩, bdi0, rfl⟩ (get_cons ⟨⟨"__init__", "PeriodicSet.__init__", si_PeriodicSet, Ni1, Fi1, sci1, oki1, rfl⟩, bdi1, rfl⟩ (get_cons ⟨⟨"__init__", "Family.__init__", si_Family, Ni2, Fi2, sci2, oki2, rfl⟩, bdi2, rfl⟩ get_nil)))
    · show ∀ f x, T.fn f = some x → mg x = some (.ref (aF f)) ∧ PySem.W.keepIn K (.ref (aF f)) = true ∧ (P.fs[f]?).isSome = true
      exact (get_cons ⟨PySem.W.mg_of X G a0, k0, rfl⟩ (get_cons ⟨PySem.W.mg_of X G a1, k1, rfl⟩ (get_cons ⟨PySem.W.mg_of X G a2, k2, rfl⟩ (get_cons ⟨PySem.W.mg_of X G a3, k3, rfl⟩ (get_cons ⟨PySem.W.mg_of X G a4, k4, rfl⟩ (get_cons ⟨PySem.W.mg_of X G a5, k5, rfl⟩ (get_cons ⟨PySem.W.mg_of X G a6, k6, rfl⟩ (get_cons ⟨PySem.W.mg_of X G a7, k7, rfl⟩ (get_cons ⟨PySem.W.mg_of X G a8, k8, rfl⟩ (get_cons ⟨PySem.W.mg_of X G a9, k9, rfl⟩ (get_cons ⟨PySem.W.mg_of X G a10, k10, rfl⟩ (get_cons ⟨PySem.W.mg_of X G a11, k11, rfl⟩ (get_cons ⟨PySem.W.mg_of X G a12, k12, rfl⟩ (get_cons ⟨PySem.W.mg_of X G a13, k13, rfl⟩ (get_cons ⟨PySem.W.mg_of X G a14, k14, rfl⟩ (get_cons ⟨PySem.W.mg_of X G a15, k15, rfl⟩ (get_cons ⟨PySem.W.mg_of X G a16, k16, rfl⟩ (get_cons ⟨PySem.W.mg_of X G a17, k17, rfl⟩ get_nil))))))))))))))))))
    · show ∀ c m f, P.M c m = some f → Meth K (S.cls c) (T.mid m) (aF f) ∧ (P.fs[f]?).isSome = true
      exact (row_cons (lk_cons ⟨⟨a18, n18, k18⟩, rfl⟩ (lk_cons ⟨⟨a19, n19, k19⟩, rfl⟩ (lk_cons ⟨⟨a20, n20, k20⟩, rfl⟩ (lk_cons ⟨⟨a21, n21, k21⟩, rfl⟩ (lk_cons ⟨⟨a29, n29, k29⟩, rfl⟩ lk_nil))))) (row_cons (lk_cons ⟨⟨a22, n22, k22⟩, rfl⟩ (lk_cons ⟨⟨a23, n23, k23⟩, rfl⟩ (lk_cons ⟨⟨a24, n24, k24⟩, rfl⟩ (lk_cons ⟨⟨a25, n25, k25⟩, rfl⟩ (lk_cons ⟨⟨a26, n26, k26⟩, rfl⟩ lk_nil))))) (row_cons (lk_cons ⟨⟨a27, n27, k27⟩, rfl⟩ (lk_cons ⟨⟨a28, n28, k28⟩, rfl⟩ (lk_cons ⟨⟨a30, n30, k30⟩, rfl⟩ lk_nil))) row_nil)))
    · show ∀ c x, T.cn c = some x → Mk K (S.cls c) (aI c) ∧ (P.is[c]?).isSome = true
      exact (get_cons ⟨⟨mk0, ai0, ni0, kc0⟩, rfl⟩ (get_cons ⟨⟨mk1, ai1, ni1, kc1⟩, rfl⟩ (get_cons ⟨⟨mk2, ai2, ni2, kc2⟩, rfl⟩ get_nil)))
  have Gl : Glo S T P mg := by
    refine Glo.mk ?_ ?_ ?_ ?_ ?_ rfl rfl rfl ?_ ?_ ?_ ?_ ?_ ?_ ?_ ?_ ?_ (fun c => rfl) (fun f => rfl) (fun f => rfl)
    · show ∀ c m f, P.M c m = some f → PySem.W.selfFirst K (S.cls c) = true ∧ T.mid m ∉ fn.getD c [] ∧ Cls K (S.cls c)
      exact (row_cons (lk_cons ⟨sf0, by decide +kernel, cl0⟩ (lk_cons ⟨sf0, by decide +kernel, cl0⟩ (lk_cons ⟨sf0, by decide +kernel, cl0⟩ (lk_cons ⟨sf0, by decide +kernel, cl0⟩ (lk_cons ⟨sf0, by decide +kernel, cl0⟩ lk_nil))))) (row_cons (lk_cons ⟨sf1, by decide +kernel, cl1⟩ (lk_cons ⟨sf1, by decide +kernel, cl1⟩ (lk_cons ⟨sf1, by decide +kernel, cl1⟩ (lk_cons ⟨sf1, by decide +kernel, cl1⟩ (lk_cons ⟨sf1, by decide +kernel, cl1⟩ lk_nil))))) (row_cons (lk_cons ⟨sf2, by decide +kernel, cl2⟩ (lk_cons ⟨sf2, by decide +kernel, cl2⟩ (lk_cons ⟨sf2, by decide +kernel, cl2⟩ lk_nil))) row_nil)))
    · show ∀ c x, T.cn c = some x → mg x = some (.ref (S.cls c))
      exact (get_cons (PySem.W.mg_of X G aC0) (get_cons (PySem.W.mg_of X G aC1) (get_cons (PySem.W.mg_of X G aC2) get_nil)))
    · show ∀ c f j, P.fx c f = some j → NoAttr K (S.cls c) (T.fid f) ∧ (fn.getD c [])[j]? = some (T.fid f) ∧ (fn.getD c []).Nodup ∧ Cls K (S.cls c) ∧ (fn.getD c []).length < 1000
      exact (row_cons (lk_cons ⟨na0_0, rfl, by decide +kernel, cl0, by decide⟩ (lk_cons ⟨na0_1, rfl, by decide +kernel, cl0, by decide⟩ lk_nil)) (row_cons (lk_cons ⟨na1_0, rfl, by decide +kernel, cl1, by decide⟩ (lk_cons ⟨na1_1, rfl, by decide +kernel, cl1, by decide⟩ lk_nil)) (row_cons (lk_cons ⟨na2_0, rfl, by decide +kernel, cl2, by decide⟩ (lk_cons ⟨na2_1, rfl, by decide +kernel, cl2, by decide⟩ (lk_cons ⟨na2_2, rfl, by decide +kernel, cl2, by decide⟩ lk_nil))) row_nil)))
    · exact (mem_cons (PySem.W.mg_none_of X G z_len) (mem_cons (PySem.W.mg_none_of X G z_int) (mem_cons (PySem.W.mg_none_of X G z_str) (mem_cons (PySem.W.mg_none_of X G z_bool) (mem_cons (PySem.W.mg_none_of X G z_abs) (mem_cons (PySem.W.mg_none_of X G z_max) (mem_cons (PySem.W.mg_none_of X G z_min) (mem_cons (PySem.W.mg_none_of X G z_sum) (mem_cons (PySem.W.mg_none_of X G z_all) (mem_cons (PySem.W.mg_none_of X G z_any) (mem_cons (PySem.W.mg_none_of X G z_sorted) (mem_cons (PySem.W.mg_none_of X G z_list) (mem_cons (PySem.W.mg_none_of X G z_tuple) (mem_cons (PySem.W.mg_none_of X G z_divmod) (mem_cons (PySem.W.mg_none_of X G z_isinstance) (mem_cons (PySem.W.mg_none_of X G z_range) (mem_cons (PySem.W.mg_none_of X G z_zip) (mem_cons (PySem.W.mg_none_of X G z_set) (mem_cons (PySem.W.mg_none_of X G z_enumerate) mem_nil)))))))))))))))))))
    · intro o m h
      cases o <;> first | (cases h; done) | (cases h; decide +kernel)
    · have z : ∀ c m f, P.M c m = some f → m = idEq → PySem.W.findIn K (.ref (S.cls c)) "__ne__" = some (some (.builtin "object.__ne__")) ∧ PySem.W.mroIn K (S.cls c) (.type "object") = some true :=
        (row_cons (fun _ _ _ _ => ⟨ne0, hm0⟩) (row_cons (fun _ _ _ _ => ⟨ne1, hm1⟩) (row_cons (fun _ _ _ _ => ⟨ne2, hm2⟩) row_nil)))
      exact fun c f h => z c idEq f h rfl
    · exact fun _ => PySem.W.mg_of X G m_lcm
    · exact fun z => by cases z
    · show ∀ j x n, T.gn j = some (x, n) → ∃ u, mg x = some u ∧ RelV (.int n) u
      exact (gl_cons ⟨_, PySem.W.mg_of X G g_MOST_PERIOD, ⟨_, rfl⟩⟩ (gl_cons ⟨_, PySem.W.mg_of X G g_MOST_FIXED, ⟨_, rfl⟩⟩ (gl_cons ⟨_, PySem.W.mg_of X G g_MOST_BANDS, ⟨_, rfl⟩⟩ (gl_cons ⟨_, PySem.W.mg_of X G g_LONGEST_PREFIX, ⟨_, rfl⟩⟩ gl_nil))))
    · show ∀ c, c < 3 → ∃ x, T.cn c = some x
      exact (lt_cons ⟨_, rfl⟩ (lt_cons ⟨_, rfl⟩ (lt_cons ⟨_, rfl⟩ lt_nil)))
    · show ∀ c, c < 3 → ∀ (H : Hp) (a dx : Addr) (fs : List (Str × V)), H a = some (.ins (S.cls c) dx fs) → TyOf K H (.ref a) (.ref (S.cls c))
      exact (lt_cons (fun H a dx fs e => .ins e cl0 ha0 hn htk hm0) (lt_cons (fun H a dx fs e => .ins e cl1 ha1 hn htk hm1) (lt_cons (fun H a dx fs e => .ins e cl2 ha2 hn htk hm2) lt_nil)))
    · have z : ∀ c, c < 3 → ∀ d, d < 3 → PySem.W.kitOne K (.ref (S.cls c)) (.ref (S.cls d)) = some (decide (d = c)) := (lt_cons (lt_cons kk0_0 (lt_cons kk0_1 (lt_cons kk0_2 lt_nil))) (lt_cons (lt_cons kk1_0 (lt_cons kk1_1 (lt_cons kk1_2 lt_nil))) (lt_cons (lt_cons kk2_0 (lt_cons kk2_1 (lt_cons kk2_2 lt_nil))) lt_nil)))
      exact fun c d h1 h2 => z c h1 d h2
    · show ∀ c, c < 3 → ∀ n ∈ (["str", "int", "bool", "list", "tuple"] : List String), PySem.W.kitOne K (.ref (S.cls c)) (.type n) = some false
      exact (lt_cons (mem_cons kb0_str (mem_cons kb0_int (mem_cons kb0_bool (mem_cons kb0_list (mem_cons kb0_tuple mem_nil))))) (lt_cons (mem_cons kb1_str (mem_cons kb1_int (mem_cons kb1_bool (mem_cons kb1_list (mem_cons kb1_tuple mem_nil))))) (lt_cons (mem_cons kb2_str (mem_cons kb2_int (mem_cons kb2_bool (mem_cons kb2_list (mem_cons kb2_tuple mem_nil))))) lt_nil)))
    · show ∀ c, c < 3 → ∀ n ∈ (["str", "int", "bool", "list", "tuple", "NoneType"] : List String), PySem.W.kitOne K (.type n) (.ref (S.cls c)) = some false
      exact (lt_cons (mem_cons kt0_str (mem_cons kt0_int (mem_cons kt0_bool (mem_cons kt0_list (mem_cons kt0_tuple (mem_cons kt0_NoneType mem_nil)))))) (lt_cons (mem_cons kt1_str (mem_cons kt1_int (mem_cons kt1_bool (mem_cons kt1_list (mem_cons kt1_tuple (mem_cons kt1_NoneType mem_nil)))))) (lt_cons (mem_cons kt2_str (mem_cons kt2_int (mem_cons kt2_bool (mem_cons kt2_list (mem_cons kt2_tuple (mem_cons kt2_NoneType mem_nil)))))) lt_nil)))
  refine ⟨(PySem.W.fnOf "law" "law" (defArgs s_law) (defBody s_law) (defScope s_law) .none kV31 dc31 pm31 an31 cd31 ct31), fun s v => .of_eq rfl, fun base _ _ => ?_⟩
  exact law_ok Gl B (n := 16) (m := 63) (f := 31) (d := ⟨1, 11, b_law⟩) rfl rfl rfl hlaw
end
end Gk07
open PySem PySem.W PyProof.Rows
set_option maxRecDepth 100000 in
set_option maxHeartbeats 0 in
theorem PySem.Challenge.cw_nothingmadeup_k07_tails_and_spreads_holds : PySem.Challenge.rw_nothingmadeup_k07_tails_and_spreads.Holds := by
  w_on; o_law; k_head; (case hw => w_witness2)
  k_fill
  refine L2.walk_of (l := PySem.Challenge.rw_nothingmadeup_k07_tails_and_spreads) (n := 63) (k := 2 * 16) (x := "script") (CX := fun _ => L2.CX0) (sp := fun w => Vg.spLaw _ 63) rfl (by decide) rfl ⟨rfl, by decide, by decide⟩ (fun w h Y => PySem.W.kIn_of Y) ?F (fun _ _ a ns hl _ hS => ⟨a, ns, rfl, hS, hl, fun _ => rfl⟩) (fun _ _ _ _ _ z => z)
  case F =>
    intro w mg fa h KX G hmg
    refine' Gk07.all_mk KX G hmg ?aC0 ?aC1 ?aC2 ?a0 ?l0 ?c0 ?k0 ?a1 ?l1 ?c1 ?k1 ?a2 ?l2 ?c2 ?k2 ?a3 ?l3 ?c3 ?k3 ?a4 ?l4 ?c4 ?k4 ?a5 ?l5 ?c5 ?k5 ?a6 ?l6 ?c6 ?k6 ?a7 ?l7 ?c7 ?k7 ?a8 ?l8 ?c8 ?k8 ?a9 ?l9 ?c9 ?k9 ?a10 ?l10 ?c10 ?k10 ?a11 ?l11 ?c11 ?k11 ?a12 ?l12 ?c12 ?k12 ?a13 ?l13 ?c13 ?k13 ?a14 ?l14 ?c14 ?k14 ?a15 ?l15 ?c15 ?k15 ?a16 ?l16 ?c16 ?k16 ?a17 ?l17 ?c17 ?k17 ?a18 ?n18 ?l18 ?c18 ?k18 ?a19 ?n19 ?l19 ?c19 ?k19 ?a20 ?n20 ?l20 ?c20 ?k20 ?a21 ?n21 ?l21 ?c21 ?k21 ?a22 ?n22 ?l22 ?c22 ?k22 ?a23 ?n23 ?l23 ?c23 ?k23 ?a24 ?n24 ?l24 ?c24 ?k24 ?a25 ?n25 ?l25 ?c25 ?k25 ?a26 ?n26 ?l26 ?c26 ?k26 ?a27 ?n27 ?l27 ?c27 ?k27 ?a28 ?n28 ?l28 ?c28 ?k28 ?a29 ?n29 ?l29 ?c29 ?k29 ?a30 ?n30 ?l30 ?c30 ?k30 ?a31 ?l31 ?c31 ?k31 ?ai0 ?ni0 ?li0 ?ci0 ?ki0 ?ai1 ?ni1 ?li1 ?ci1 ?ki1 ?ai2 ?ni2 ?li2 ?ci2 ?ki2 ?pg0 ?hd0 ?po0 ?sa0 ?mk0 ?kc0 ?sf0 ?ha0 ?hm0 ?ne0 ?na0_0 ?na0_1 ?kk0_0 ?kk0_1 ?kk0_2 ?kb0_str ?kb0_int ?kb0_bool ?kb0_list ?kb0_tuple ?kt0_str ?kt0_int ?kt0_bool ?kt0_list ?kt0_tuple ?kt0_NoneType ?pg1 ?hd1 ?po1 ?sa1 ?mk1 ?kc1 ?sf1 ?ha1 ?hm1 ?ne1 ?na1_0 ?na1_1 ?kk1_0 ?kk1_1 ?kk1_2 ?kb1_str ?kb1_int ?kb1_bool ?kb1_list ?kb1_tuple ?kt1_str ?kt1_int ?kt1_bool ?kt1_list ?kt1_tuple ?kt1_NoneType ?pg2 ?hd2 ?po2 ?sa2 ?mk2 ?kc2 ?sf2 ?ha2 ?hm2 ?ne2 ?na2_0 ?na2_1 ?na2_2 ?kk2_0 ?kk2_1 ?kk2_2 ?kb2_str ?kb2_int ?kb2_bool ?kb2_list ?kb2_tuple ?kt2_str ?kt2_int ?kt2_bool ?kt2_list ?kt2_tuple ?kt2_NoneType ?hn ?htk ?z_len ?z_int ?z_str ?z_bool ?z_abs ?z_max ?z_min ?z_sum ?z_all ?z_any ?z_sorted ?z_list ?z_tuple ?z_divmod ?z_isinstance ?z_range ?z_zip ?z_set ?z_enumerate ?m_lcm ?g_MOST_PERIOD ?g_MOST_FIXED ?g_MOST_BANDS ?g_LONGEST_PREFIX Gk07.law_plain
    (case aC0 => k_is)
    (case aC1 => k_is)
    (case aC2 => k_is)
    (case a0 => k_is)
    (case l0 => k_is)
    (case c0 => k_is)
    (case k0 => k_is)
    (case a1 => k_is)
    (case l1 => k_is)
    (case c1 => k_is)
    (case k1 => k_is)
    (case a2 => k_is)
    (case l2 => k_is)
    (case c2 => k_is)
    (case k2 => k_is)
    (case a3 => k_is)
    (case l3 => k_is)
    (case c3 => k_is)
    (case k3 => k_is)
    (case a4 => k_is)
    (case l4 => k_is)
    (case c4 => k_is)
    (case k4 => k_is)
    (case a5 => k_is)
    (case l5 => k_is)
    (case c5 => k_is)
    (case k5 => k_is)
    (case a6 => k_is)
    (case l6 => k_is)
    (case c6 => k_is)
    (case k6 => k_is)
    (case a7 => k_is)
    (case l7 => k_is)
    (case c7 => k_is)
    (case k7 => k_is)
    (case a8 => k_is)
    (case l8 => k_is)
    (case c8 => k_is)
    (case k8 => k_is)
    (case a9 => k_is)
    (case l9 => k_is)
    (case c9 => k_is)
    (case k9 => k_is)
    (case a10 => k_is)
    (case l10 => k_is)
    (case c10 => k_is)
    (case k10 => k_is)
    (case a11 => k_is)
    (case l11 => k_is)
    (case c11 => k_is)
    (case k11 => k_is)
    (case a12 => k_is)
    (case l12 => k_is)
    (case c12 => k_is)
    (case k12 => k_is)
    (case a13 => k_is)
    (case l13 => k_is)
    (case c13 => k_is)
    (case k13 => k_is)
    (case a14 => k_is)
    (case l14 => k_is)
    (case c14 => k_is)
    (case k14 => k_is)
    (case a15 => k_is)
    (case l15 => k_is)
    (case c15 => k_is)
    (case k15 => k_is)
    (case a16 => k_is)
    (case l16 => k_is)
    (case c16 => k_is)
    (case k16 => k_is)
    (case a17 => k_is)
    (case l17 => k_is)
    (case c17 => k_is)
    (case k17 => k_is)
    (case a18 => k_is)
    (case n18 => k_is)
    (case l18 => k_is)
    (case c18 => k_is)
    (case k18 => k_is)
    (case a19 => k_is)
    (case n19 => k_is)
    (case l19 => k_is)
    (case c19 => k_is)
    (case k19 => k_is)
    (case a20 => k_is)
    (case n20 => k_is)
    (case l20 => k_is)
    (case c20 => k_is)
    (case k20 => k_is)
    (case a21 => k_is)
    (case n21 => k_is)
    (case l21 => k_is)
    (case c21 => k_is)
    (case k21 => k_is)
    (case a22 => k_is)
    (case n22 => k_is)
    (case l22 => k_is)
    (case c22 => k_is)
    (case k22 => k_is)
    (case a23 => k_is)
    (case n23 => k_is)
    (case l23 => k_is)
    (case c23 => k_is)
    (case k23 => k_is)
    (case a24 => k_is)
    (case n24 => k_is)
    (case l24 => k_is)
    (case c24 => k_is)
    (case k24 => k_is)
    (case a25 => k_is)
    (case n25 => k_is)
    (case l25 => k_is)
    (case c25 => k_is)
    (case k25 => k_is)
    (case a26 => k_is)
    (case n26 => k_is)
    (case l26 => k_is)
    (case c26 => k_is)
    (case k26 => k_is)
    (case a27 => k_is)
    (case n27 => k_is)
    (case l27 => k_is)
    (case c27 => k_is)
    (case k27 => k_is)
    (case a28 => k_is)
    (case n28 => k_is)
    (case l28 => k_is)
    (case c28 => k_is)
    (case k28 => k_is)
    (case a29 => k_is)
    (case n29 => k_is)
    (case l29 => k_is)
    (case c29 => k_is)
    (case k29 => k_is)
    (case a30 => k_is)
    (case n30 => k_is)
    (case l30 => k_is)
    (case c30 => k_is)
    (case k30 => k_is)
    (case a31 => k_is)
    (case l31 => k_is)
    (case c31 => k_is)
    (case k31 => k_is)
    (case ai0 => k_is)
    (case ni0 => k_is)
    (case li0 => k_is)
    (case ci0 => k_is)
    (case ki0 => k_is)
    (case ai1 => k_is)
    (case ni1 => k_is)
    (case li1 => k_is)
    (case ci1 => k_is)
    (case ki1 => k_is)
    (case ai2 => k_is)
    (case ni2 => k_is)
    (case li2 => k_is)
    (case ci2 => k_is)
    (case ki2 => k_is)
    (case pg0 => k_is)
    (case hd0 => k_is)
    (case po0 => k_is)
    (case sa0 => k_is)
    (case mk0 => k_is)
    (case kc0 => k_is)
    (case sf0 => k_is)
    (case ha0 => k_is)
    (case hm0 => k_is)
    (case ne0 => k_is)
    (case na0_0 => k_is)
    (case na0_1 => k_is)
    (case kk0_0 => kit_is)
    (case kk0_1 => kit_is)
    (case kk0_2 => kit_is)
    (case kb0_str => kit_is)
    (case kb0_int => kit_is)
    (case kb0_bool => kit_is)
    (case kb0_list => kit_is)
    (case kb0_tuple => kit_is)
    (case kt0_str => kit_is)
    (case kt0_int => kit_is)
    (case kt0_bool => kit_is)
    (case kt0_list => kit_is)
    (case kt0_tuple => kit_is)
    (case kt0_NoneType => kit_is)
    (case pg1 => k_is)
    (case hd1 => k_is)
    (case po1 => k_is)
    (case sa1 => k_is)
    (case mk1 => k_is)
    (case kc1 => k_is)
    (case sf1 => k_is)
    (case ha1 => k_is)
    (case hm1 => k_is)
    (case ne1 => k_is)
    (case na1_0 => k_is)
    (case na1_1 => k_is)
    (case kk1_0 => kit_is)
    (case kk1_1 => kit_is)
    (case kk1_2 => kit_is)
    (case kb1_str => kit_is)
    (case kb1_int => kit_is)
    (case kb1_bool => kit_is)
    (case kb1_list => kit_is)
    (case kb1_tuple => kit_is)
    (case kt1_str => kit_is)
    (case kt1_int => kit_is)
    (case kt1_bool => kit_is)
    (case kt1_list => kit_is)
    (case kt1_tuple => kit_is)
    (case kt1_NoneType => kit_is)
    (case pg2 => k_is)
    (case hd2 => k_is)
    (case po2 => k_is)
    (case sa2 => k_is)
    (case mk2 => k_is)
    (case kc2 => k_is)
    (case sf2 => k_is)
    (case ha2 => k_is)
    (case hm2 => k_is)
    (case ne2 => k_is)
    (case na2_0 => k_is)
    (case na2_1 => k_is)
    (case na2_2 => k_is)
    (case kk2_0 => kit_is)
    (case kk2_1 => kit_is)
    (case kk2_2 => kit_is)
    (case kb2_str => kit_is)
    (case kb2_int => kit_is)
    (case kb2_bool => kit_is)
    (case kb2_list => kit_is)
    (case kb2_tuple => kit_is)
    (case kt2_str => kit_is)
    (case kt2_int => kit_is)
    (case kt2_bool => kit_is)
    (case kt2_list => kit_is)
    (case kt2_tuple => kit_is)
    (case kt2_NoneType => kit_is)
    (case hn => k_is)
    (case htk => k_is)
    (case z_len => k_is)
    (case z_int => k_is)
    (case z_str => k_is)
    (case z_bool => k_is)
    (case z_abs => k_is)
    (case z_max => k_is)
    (case z_min => k_is)
    (case z_sum => k_is)
    (case z_all => k_is)
    (case z_any => k_is)
    (case z_sorted => k_is)
    (case z_list => k_is)
    (case z_tuple => k_is)
    (case z_divmod => k_is)
    (case z_isinstance => k_is)
    (case z_range => k_is)
    (case z_zip => k_is)
    (case z_set => k_is)
    (case z_enumerate => k_is)
    (case m_lcm => k_is)
    (case g_MOST_PERIOD => k_is)
    (case g_MOST_FIXED => k_is)
    (case g_MOST_BANDS => k_is)
    (case g_LONGEST_PREFIX => k_is)

