import PyProof.Rows.All
import Wide.All
import OpenK.AllK
import Wide.FinOn
import KE.KStateDown
import PyProof.EqAt
import PyProof.EqKinds
import PyProof.TupleCall
import HandS.ForMost
import HandS.ForExc
import HandS.Defaults
import HandS.Walk
import HandS.Wide
import HandS.WideBits
import HandS.TupAny
import HandS.Style
import HandS.IsInst
import HandS.Gcd
import HandS.Zip
import HandS.ExcIs
import HandS.TupSets
import HandS.Deep
import HandS.Head0
import HandS.Head1
import HandS.Head2
import HandS.Head3
import HandS.HeadEnd
import HandS.HeadHook1
import HandS.HeadHook2
import HandS.HeadHook3
import HandS.HeadHook4
import PySem.Challenge.RW_portolan_k67_hulls_of_points
set_option Elab.async false
set_option linter.all false
set_option maxRecDepth 100000
set_option maxHeartbeats 4000000
namespace DL
open PySem PySem.Spec L2

inductive D where
  | non | bl (b : Bool) | int (i : Int) | str (x : Str) | tup (xs : List D) | lst (xs : List D) | frz (xs : List D) | raw (a : Addr) | ty (n : String)

abbrev R (α : Type) := Option (Except Str α)
def R.bind {α β : Type} (x : R α) (g : α → R β) : R β := match x with
  | some (.ok a) => g a
  | some (.error c) => some (.error c)
  | none => none
@[simp] theorem R.bind_ok {α β : Type} (a : α) (g : α → R β) : R.bind (some (.ok a)) g = g a := rfl
@[simp] theorem R.bind_error {α β : Type} (c : Str) (g : α → R β) : R.bind (some (.error c) : R α) g = some (.error c) := rfl
@[simp] theorem R.bind_none {α β : Type} (g : α → R β) : R.bind (none : R α) g = none := rfl
abbrev ok {α : Type} (a : α) : R α := some (.ok a)

inductive Rep (K : PySem.W.Frag) (G : Hp) : V → D → Prop
  | non : Rep K G .non .non
  | bl (b : Bool) : Rep K G (.bl b) (.bl b)
  | int (i : Int) : Rep K G (.int i) (.int i)
  | str (x : Str) : Rep K G (.str x) (.str x)
  | raw (a : Addr) : Rep K G (.ref a) (.raw a)
  | ty (n : String) : Rep K G (.ty n) (.ty n)
  | tup {a : Addr} {vs : List V} {ds : List D} (h : SqT K G a vs) (hl : vs.length = ds.length) (hs : ∀ (i : Nat) (v : V) (d : D), vs[i]? = some v → ds[i]? = some d → Rep K G v d) : Rep K G (.ref a) (.tup ds)
  | lst {a : Addr} {vs : List V} {ds : List D} (h : G a = some (.lst vs)) (hl : vs.length = ds.length) (hs : ∀ (i : Nat) (v : V) (d : D), vs[i]? = some v → ds[i]? = some d → Rep K G v d) : Rep K G (.ref a) (.lst ds)
  | frz {a : Addr} {vs : List V} {ds : List D} (h : SqL K G a vs) (hl : vs.length = ds.length) (hs : ∀ (i : Nat) (v : V) (d : D), vs[i]? = some v → ds[i]? = some d → Rep K G v d) : Rep K G (.ref a) (.frz ds)

def Reps (K : PySem.W.Frag) (G : Hp) (vs : List V) (ds : List D) : Prop := vs.length = ds.length ∧ ∀ (i : Nat) (v : V) (d : D), vs[i]? = some v → ds[i]? = some d → Rep K G v d

theorem same_rd {H H' : Hp} {a : Addr} {u : HO} (e : Same H H') (h : Rd H a u) : Rd H' a u := by
  rcases h with h | ⟨o, h⟩
  · exact Or.inl (e a _ h)
  · exact Or.inr ⟨o, e a _ h⟩
theorem same_t {K : PySem.W.Frag} {H H' : Hp} {a : Addr} {xs : List V} (e : Same H H') (h : SqT K H a xs) : SqT K H' a xs := by
  rcases h with h | h
  · exact Or.inl (same_rd e h)
  · exact Or.inr h
section
variable {K : PySem.W.Frag} {G G' H H' : Hp}
theorem Rep.mono (e : Same G G') {v : V} {d : D} (h : Rep K G v d) : Rep K G' v d := by
  induction h with
  | non => exact .non
  | bl b => exact .bl b
  | int i => exact .int i
  | str x => exact .str x
  | raw a => exact .raw a
  | ty n => exact .ty n
  | tup h hl _ ih => exact .tup (same_t e h) hl ih
  | lst h hl _ ih => exact .lst (e _ _ h) hl ih
  | frz h hl _ ih => exact .frz (e.seq h) hl ih
theorem Reps.mono (e : Same G G') {vs : List V} {ds : List D} (h : Reps K G vs ds) : Reps K G' vs ds := ⟨h.1, fun i v d a b => (h.2 i v d a b).mono e⟩
theorem Reps.nil : Reps K G [] [] := ⟨rfl, fun i v d a _ => by simp at a⟩
theorem Reps.cons {v : V} {d : D} {vs : List V} {ds : List D} (h : Rep K G v d) (hs : Reps K G vs ds) : Reps K G (v :: vs) (d :: ds) := by
  refine ⟨by simp [hs.1], fun i w e a b => ?_⟩
  cases i with
  | zero => simp at a b; subst a; subst b; exact h
  | succ i => simp at a b; exact hs.2 i w e a b
theorem Reps.nil_inv {vs : List V} (h : Reps K G vs []) : vs = [] := List.eq_nil_of_length_eq_zero (by simpa using h.1)
theorem Reps.cons_inv {vs : List V} {d : D} {ds : List D} (h : Reps K G vs (d :: ds)) : ∃ v r, vs = v :: r ∧ Rep K G v d ∧ Reps K G r ds := by
  cases vs with
  | nil => have := h.1; simp at this
  | cons v r =>
    refine ⟨v, r, rfl, h.2 0 v d rfl rfl, by have := h.1; simpa using this, fun i w e a b => h.2 (i + 1) w e (by simpa using a) (by simpa using b)⟩
theorem Reps.append {vs ws : List V} {ds es : List D} (h : Reps K G vs ds) (q : Reps K G ws es) : Reps K G (vs ++ ws) (ds ++ es) := by
  refine ⟨by simp [h.1, q.1], fun i w e a b => ?_⟩
  by_cases hi : i < vs.length
  · rw [List.getElem?_append_left hi] at a
    rw [List.getElem?_append_left (by rw [← h.1]; exact hi)] at b
    exact h.2 i w e a b
  · rw [List.getElem?_append_right (by omega)] at a
    rw [List.getElem?_append_right (by rw [← h.1]; omega), ← h.1] at b
    exact q.2 _ w e a b
theorem Reps.get {vs : List V} {ds : List D} (h : Reps K G vs ds) {i : Nat} {d : D} (e : ds[i]? = some d) : ∃ v, vs[i]? = some v ∧ Rep K G v d := by
  have hi : i < vs.length := by rw [h.1]; exact (List.getElem?_eq_some_iff.mp e).1
  exact ⟨vs[i], by simp [hi], h.2 i _ d (by simp [hi]) e⟩
theorem Reps.getV {vs : List V} {ds : List D} (h : Reps K G vs ds) {i : Nat} {v : V} (e : vs[i]? = some v) : ∃ d, ds[i]? = some d ∧ Rep K G v d := by
  have hi : i < ds.length := by rw [← h.1]; exact (List.getElem?_eq_some_iff.mp e).1
  exact ⟨ds[i], by simp [hi], h.2 i v _ e (by simp [hi])⟩
theorem Reps.drop {vs : List V} {ds : List D} (n : Nat) (h : Reps K G vs ds) : Reps K G (vs.drop n) (ds.drop n) := by
  refine ⟨by simp [h.1], fun i w e a b => ?_⟩
  rw [List.getElem?_drop] at a b
  exact h.2 _ w e a b
theorem Reps.take {vs : List V} {ds : List D} (n : Nat) (h : Reps K G vs ds) : Reps K G (vs.take n) (ds.take n) := by
  refine ⟨by simp [h.1], fun i w e a b => ?_⟩
  by_cases hi : i < n
  · rw [List.getElem?_take_of_lt hi] at a b
    exact h.2 _ w e a b
  · rw [List.getElem?_take_eq_none (by omega)] at a; cases a
theorem Reps.set {vs : List V} {ds : List D} {j : Nat} {v : V} {d : D} (h : Reps K G vs ds) (q : Rep K G v d) : Reps K G (vs.set j v) (ds.set j d) := by
  refine ⟨by simp [h.1], fun i w e a b => ?_⟩
  by_cases hi : j = i
  · subst hi
    by_cases hl : j < vs.length
    · rw [List.getElem?_set_self hl] at a
      rw [List.getElem?_set_self (by rw [← h.1]; exact hl)] at b
      cases a; cases b; exact q
    · rw [List.getElem?_eq_none (by simpa using hl)] at a; cases a
  · rw [List.getElem?_set_ne hi] at a b
    exact h.2 i w e a b
theorem Reps.dropLast {vs : List V} {ds : List D} (h : Reps K G vs ds) : Reps K G vs.dropLast ds.dropLast := by
  rw [List.dropLast_eq_take, List.dropLast_eq_take, h.1]
  exact h.take _
theorem Rep.tup' {a : Addr} {vs : List V} {ds : List D} (h : SqT K G a vs) (hs : Reps K G vs ds) : Rep K G (.ref a) (.tup ds) := .tup h hs.1 hs.2
theorem Rep.lst' {a : Addr} {vs : List V} {ds : List D} (h : G a = some (.lst vs)) (hs : Reps K G vs ds) : Rep K G (.ref a) (.lst ds) := .lst h hs.1 hs.2
theorem Rep.frz' {a : Addr} {vs : List V} {ds : List D} (h : SqL K G a vs) (hs : Reps K G vs ds) : Rep K G (.ref a) (.frz ds) := .frz h hs.1 hs.2
theorem Rep.int_inv {v : V} {i : Int} (h : Rep K G v (.int i)) : v = .int i := by cases h; rfl
theorem Rep.bl_inv {v : V} {b : Bool} (h : Rep K G v (.bl b)) : v = .bl b := by cases h; rfl
theorem Rep.str_inv {v : V} {x : Str} (h : Rep K G v (.str x)) : v = .str x := by cases h; rfl
theorem Rep.non_inv {v : V} (h : Rep K G v .non) : v = .non := by cases h; rfl
theorem Rep.ty_inv {v : V} {n : String} (h : Rep K G v (.ty n)) : v = .ty n := by cases h; rfl
theorem Rep.raw_inv {v : V} {a : Addr} (h : Rep K G v (.raw a)) : v = .ref a := by cases h; rfl
theorem Rep.tup_inv {v : V} {ds : List D} (h : Rep K G v (.tup ds)) : ∃ a vs, v = .ref a ∧ SqT K G a vs ∧ Reps K G vs ds := by
  cases h with
  | tup h hl hs => exact ⟨_, _, rfl, h, hl, hs⟩
theorem Rep.lst_inv {v : V} {ds : List D} (h : Rep K G v (.lst ds)) : ∃ a vs, v = .ref a ∧ G a = some (.lst vs) ∧ Reps K G vs ds := by
  cases h with
  | lst h hl hs => exact ⟨_, _, rfl, h, hl, hs⟩
theorem Rep.frz_inv {v : V} {ds : List D} (h : Rep K G v (.frz ds)) : ∃ a vs, v = .ref a ∧ SqL K G a vs ∧ Reps K G vs ds := by
  cases h with
  | frz h hl hs => exact ⟨_, _, rfl, h, hl, hs⟩
end

structure Gr (G H G' H' : Hp) : Prop where
  hh : Same H H'
  gg : Same G G'
  gh : Same G' H'
  fr : ∀ a o, G' a = some o → G a = none → H a = none
section
variable {K : PySem.W.Frag} {G H G' H' G2 H2 : Hp}
theorem Gr.refl (h : Same G H) : Gr G H G H := ⟨Same.refl _, Same.refl _, h, fun a o e q => by rw [e] at q; cases q⟩
theorem Gr.trans (a : Gr G H G' H') (b : Gr G' H' G2 H2) : Gr G H G2 H2 :=
  ⟨a.hh.trans b.hh, a.gg.trans b.gg, b.gh, fun x o e q => by
    cases z : G' x with
    | some u => exact a.fr x u z q
    | none => exact a.hh.free (b.fr x o e z)⟩
theorem same_new {H : Hp} {p : Addr} {o : HO} (h : H p = none) : Same H (upd H p o) := fun a u e => by
  rw [upd_ne (ne_of_none e h)]
  exact e
theorem Gr.new (e : Same G H) {p : Addr} {o : HO} (h : H p = none) : Gr G H (upd G p o) (upd H p o) := by
  have hg : G p = none := e.free h
  refine ⟨same_new h, same_new hg, fun a u q => ?_, fun a u q z => ?_⟩
  · by_cases hp : a = p
    · subst hp; rw [upd_same] at q ⊢; exact q
    · rw [upd_ne hp] at q ⊢; exact e a u q
  · by_cases hp : a = p
    · subst hp; exact h
    · rw [upd_ne hp] at q; rw [q] at z; cases z
theorem Gr.newH (e : Same G H) {p : Addr} {o : HO} (h : H p = none) : Gr G H G (upd H p o) :=
  ⟨same_new h, Same.refl _, e.trans (same_new h), fun a u q z => by rw [q] at z; cases z⟩
end

inductive DS where
  | val (d : D) | own (xs : List D) | exc (c : Str)
structure KP where
  K : PySem.W.Frag
  P : Addr → Str → Prop
abbrev DEnv := List (Option DS)

def Slot (K : KP) (H0 G H : Hp) (o : Option (Option V)) : DS → Prop
  | .val d => ∃ v, o = some (some v) ∧ Rep K.K G v d
  | .own ds => ∃ p vs, o = some (some (.ref p)) ∧ H p = some (.lst vs) ∧ G p = none ∧ H0 p = none ∧ Reps K.K G vs ds
  | .exc c => ∃ a, o = some (some (.ref a)) ∧ K.P a c

structure SRel (K : KP) (G0 H0 G : Hp) (δ : DEnv) (σ : L2.St) (H : Hp) : Prop where
  len : δ.length = σ.length
  gr : Gr G0 H0 G H
  slot : ∀ (i : Nat) (s : DS), δ[i]? = some (some s) → Slot K H0 G H σ[i]? s
  own : ∀ (i j : Nat) (ds es : List D) (a : Addr), i ≠ j → δ[i]? = some (some (.own ds)) → δ[j]? = some (some (.own es)) → σ[i]? = some (some (.ref a)) → σ[j]? ≠ some (some (.ref a))
section
variable {K : KP} {G0 H0 G H G' H' : Hp} {δ : DEnv} {σ : L2.St}
theorem SRel.ext (r : SRel K G0 H0 G δ σ H) (g : Gr G H G' H') : SRel K G0 H0 G' δ σ H' := by
  refine ⟨r.len, r.gr.trans g, fun i s e => ?_, r.own⟩
  have q := r.slot i s e
  cases s with
  | val d =>
    obtain ⟨v, e1, e2⟩ := q
    exact ⟨v, e1, e2.mono g.gg⟩
  | own ds =>
    obtain ⟨p, vs, e1, e2, e3, e4, e5⟩ := q
    refine ⟨p, vs, e1, g.hh _ _ e2, ?_, e4, e5.mono g.gg⟩
    cases z : G' p with
    | none => rfl
    | some o =>
      have y := g.fr p o z e3
      rw [e2] at y; cases y
  | exc c => exact q
theorem SRel.val (r : SRel K G0 H0 G δ σ H) {i : Nat} {d : D} (e : δ[i]? = some (some (.val d))) : ∃ v, σ[i]? = some (some v) ∧ Rep K.K G v d := r.slot i _ e
theorem SRel.setVal (r : SRel K G0 H0 G δ σ H) {i : Nat} {v : V} {d : D} (h : Rep K.K G v d) : SRel K G0 H0 G (δ.set i (some (.val d))) (σ.set i (some v)) H := by
  refine ⟨by simp [r.len], r.gr, fun j s e => ?_, fun j k ds es a hne e1 e2 e3 e4 => ?_⟩
  · by_cases hj : i = j
    · subst hj
      by_cases hl : i < δ.length
      · rw [List.getElem?_set_self hl] at e; cases e
        exact ⟨v, by rw [List.getElem?_set_self (by rw [← r.len]; exact hl)], h⟩
      · rw [List.getElem?_eq_none (by simpa using hl)] at e; cases e
    · rw [List.getElem?_set_ne hj] at e ⊢
      exact r.slot j s e
  · have n1 : i ≠ j := fun z => by
      subst z
      by_cases hl : i < δ.length
      · rw [List.getElem?_set_self hl] at e1; cases e1
      · rw [List.getElem?_eq_none (by simpa using hl)] at e1; cases e1
    have n2 : i ≠ k := fun z => by
      subst z
      by_cases hl : i < δ.length
      · rw [List.getElem?_set_self hl] at e2; cases e2
      · rw [List.getElem?_eq_none (by simpa using hl)] at e2; cases e2
    rw [List.getElem?_set_ne n1] at e1 e3
    rw [List.getElem?_set_ne n2] at e2 e4
    exact r.own j k ds es a hne e1 e2 e3 e4
theorem SRel.setOwn (r : SRel K G0 H0 G δ σ H) {i : Nat} {p : Addr} {vs : List V} {ds : List D} (hp : H p = none) (h : Reps K.K G vs ds) :
    SRel K G0 H0 G (δ.set i (some (.own ds))) (σ.set i (some (.ref p))) (upd H p (.lst vs)) := by
  have r' := r.ext (Gr.newH r.gr.gh (o := .lst vs) hp)
  have old : ∀ j ds, i ≠ j → δ[j]? = some (some (.own ds)) → σ[j]? ≠ some (some (.ref p)) := fun j ds hj e z => by
    obtain ⟨q, ws, e1, e2, _⟩ := r.slot j _ e
    rw [z] at e1; cases e1
    rw [hp] at e2; cases e2
  refine ⟨by simp [r.len], r'.gr, fun j s e => ?_, fun j k xs ys a hne e1 e2 e3 e4 => ?_⟩
  · by_cases hj : i = j
    · subst hj
      by_cases hl : i < δ.length
      · rw [List.getElem?_set_self hl] at e; cases e
        exact ⟨p, vs, by rw [List.getElem?_set_self (by rw [← r.len]; exact hl)], upd_same, r.gr.gh.free hp, r.gr.hh.free hp, h⟩
      · rw [List.getElem?_eq_none (by simpa using hl)] at e; cases e
    · rw [List.getElem?_set_ne hj] at e ⊢
      exact r'.slot j s e
  · by_cases n1 : i = j
    · subst n1
      have n2 : i ≠ k := hne
      rw [List.getElem?_set_ne n2] at e2 e4
      by_cases hl : i < σ.length
      · rw [List.getElem?_set_self hl] at e3; cases e3
        exact old k ys n2 e2 e4
      · rw [List.getElem?_eq_none (by simpa using hl)] at e3; cases e3
    · rw [List.getElem?_set_ne n1] at e1 e3
      by_cases n2 : i = k
      · subst n2
        by_cases hl : i < σ.length
        · rw [List.getElem?_set_self hl] at e4; cases e4
          exact old j xs n1 e1 e3
        · rw [List.getElem?_eq_none (by simpa using hl)] at e4; cases e4
      · rw [List.getElem?_set_ne n2] at e2 e4
        exact r.own j k xs ys a hne e1 e2 e3 e4
theorem SRel.own_at (r : SRel K G0 H0 G δ σ H) {i : Nat} {ds : List D} (e : δ[i]? = some (some (.own ds))) : ∃ p vs, σ[i]? = some (some (.ref p)) ∧ H p = some (.lst vs) ∧ G p = none ∧ H0 p = none ∧ Reps K.K G vs ds := r.slot i _ e
theorem set_same {α : Type} {l : List α} {i : Nat} {x : α} (h : l[i]? = some x) : l.set i x = l := by
  apply List.ext_getElem?
  intro j
  by_cases hj : i = j
  · subst hj
    have := (List.getElem?_eq_some_iff.mp h).1
    rw [List.getElem?_set_self this, h]
  · rw [List.getElem?_set_ne hj]
theorem SRel.mut (r : SRel K G0 H0 G δ σ H) {i : Nat} {p : Addr} {ds es : List D} {ws : List V} (e : δ[i]? = some (some (.own ds))) (hp : σ[i]? = some (some (.ref p))) (h : Reps K.K G ws es) :
    SRel K G0 H0 G (δ.set i (some (.own es))) σ (upd H p (.lst ws)) := by
  obtain ⟨q, vs, e1, e2, e3, e4, e5⟩ := r.own_at e
  rw [hp] at e1; cases e1
  have hl : i < δ.length := (List.getElem?_eq_some_iff.mp e).1
  have n0 : ∀ a o, H0 a = some o → a ≠ p := fun a o z y => by subst y; rw [e4] at z; cases z
  have ng : ∀ a o, G a = some o → a ≠ p := fun a o z y => by subst y; rw [e3] at z; cases z
  refine ⟨by simp [r.len], ⟨fun a o z => by rw [upd_ne (n0 a o z)]; exact r.gr.hh a o z, r.gr.gg, fun a o z => by rw [upd_ne (ng a o z)]; exact r.gr.gh a o z, r.gr.fr⟩, fun j s z => ?_, fun j k xs ys a hne z1 z2 z3 z4 => ?_⟩
  · by_cases hj : i = j
    · subst hj
      rw [List.getElem?_set_self hl] at z; cases z
      exact ⟨p, ws, hp, upd_same, e3, e4, h⟩
    · rw [List.getElem?_set_ne hj] at z
      have y := r.slot j s z
      cases s with
      | val d => exact y
      | exc c => exact y
      | own zs =>
        obtain ⟨q, us, y1, y2, y3, y4, y5⟩ := y
        refine ⟨q, us, y1, ?_, y3, y4, y5⟩
        rw [upd_ne fun w => ?_]; exact y2
        subst w
        exact r.own i j ds zs q hj e z hp y1
  · have back : ∀ (m : Nat) (zs : List D), (δ.set i (some (.own es)))[m]? = some (some (.own zs)) → ∃ us : List D, δ[m]? = some (some (.own us)) := fun m zs y => by
      by_cases hm : i = m
      · subst hm; exact ⟨ds, e⟩
      · rw [List.getElem?_set_ne hm] at y; exact ⟨zs, y⟩
    obtain ⟨u1, y1⟩ := back j xs z1
    obtain ⟨u2, y2⟩ := back k ys z2
    exact r.own j k u1 u2 a hne y1 y2 z3 z4
theorem SRel.freeze (r : SRel K G0 H0 G δ σ H) {i : Nat} {ds : List D} (e : δ[i]? = some (some (.own ds))) : ∃ G', SRel K G0 H0 G' (δ.set i (some (.val (.lst ds)))) σ H ∧ Same G G' := by
  obtain ⟨p, vs, e1, e2, e3, e4, e5⟩ := r.own_at e
  have hl : i < δ.length := (List.getElem?_eq_some_iff.mp e).1
  have gg : Same G (upd G p (.lst vs)) := same_new e3
  refine ⟨upd G p (.lst vs), ⟨by simp [r.len], ⟨r.gr.hh, r.gr.gg.trans gg, fun a o z => ?_, fun a o z y => ?_⟩, fun j s z => ?_, fun j k xs ys a hne z1 z2 z3 z4 => ?_⟩, gg⟩
  · by_cases hp : a = p
    · subst hp; rw [upd_same] at z; rw [e2]; exact z
    · rw [upd_ne hp] at z; exact r.gr.gh a o z
  · by_cases hp : a = p
    · subst hp; exact e4
    · rw [upd_ne hp] at z; exact r.gr.fr a o z y
  · by_cases hj : i = j
    · subst hj
      rw [List.getElem?_set_self hl] at z; cases z
      exact ⟨_, e1, .lst' upd_same (e5.mono gg)⟩
    · rw [List.getElem?_set_ne hj] at z
      have y := r.slot j s z
      cases s with
      | val d =>
        obtain ⟨v, y1, y2⟩ := y
        exact ⟨v, y1, y2.mono gg⟩
      | exc c => exact y
      | own zs =>
        obtain ⟨q, us, y1, y2, y3, y4, y5⟩ := y
        refine ⟨q, us, y1, y2, ?_, y4, y5.mono gg⟩
        rw [upd_ne fun w => ?_]; exact y3
        subst w
        exact r.own i j ds zs q hj e z e1 y1
  · have back : ∀ (m : Nat) (zs : List D), (δ.set i (some (.val (.lst ds))))[m]? = some (some (.own zs)) → δ[m]? = some (some (.own zs)) := fun m zs y => by
      by_cases hm : i = m
      · subst hm; rw [List.getElem?_set_self hl] at y; cases y
      · rw [List.getElem?_set_ne hm] at y; exact y
    exact r.own j k xs ys a hne (back j xs z1) (back k ys z2) z3 z4
theorem SRel.weak {δ' : DEnv} (r : SRel K G0 H0 G δ σ H) (hl : δ'.length = δ.length) (w : ∀ (i : Nat) s, δ'[i]? = some (some s) → δ[i]? = some (some s)) : SRel K G0 H0 G δ' σ H :=
  ⟨hl.trans r.len, r.gr, fun i s e => r.slot i s (w i s e), fun i j ds es a hne e1 e2 => r.own i j ds es a hne (w i _ e1) (w j _ e2)⟩
end
end DL

namespace DL
open PySem PySem.Spec L2

def cval (mg : Str → Option Value) (c : Str) : Value := (mg c).getD .none

def Ok1 (mg : Str → Option Value) (W : WX) {α β : Type} (rel : Hp → β → α → Prop) (G H : Hp) (σ : L2.St) (r : R α) (Q : β → Hp → Prop) : Prop :=
  match r with
  | some (.ok d) => ∀ v G' H', Gr G H G' H' → rel G' v d → Q v H'
  | some (.error c) => ∀ G' H', Gr G H G' H' → W (cval mg c) none σ H'
  | none => False
section
variable {mg : Str → Option Value} {W : WX} {α β α2 β2 : Type} {rel : Hp → β → α → Prop} {rel2 : Hp → β2 → α2 → Prop} {G H G' H' : Hp} {σ : L2.St}
theorem Ok1.mono {r : R α} {Q : β → Hp → Prop} (g : Gr G H G' H') (h : Ok1 mg W rel G H σ r Q) : Ok1 mg W rel G' H' σ r Q := by
  unfold Ok1 at *
  split at h
  · exact fun v G2 H2 g2 => h v G2 H2 (g.trans g2)
  · exact fun G2 H2 g2 => h G2 H2 (g.trans g2)
  · exact h
theorem Ok1.bind {r : R α} {g : α → R α2} {Q : β → Hp → Prop} {Q2 : β2 → Hp → Prop} (h : Ok1 mg W rel2 G H σ (R.bind r g) Q2)
    (k : ∀ d v G' H', r = some (.ok d) → Gr G H G' H' → rel G' v d → Ok1 mg W rel2 G' H' σ (g d) Q2 → Q v H') : Ok1 mg W rel G H σ r Q := by
  cases r with
  | none => exact h
  | some e =>
    cases e with
    | error c => exact h
    | ok d => exact fun v G' H' gr rp => k d v G' H' rfl gr rp (Ok1.mono gr h)
theorem Ok1.ret {d : α} {Q : β → Hp → Prop} {v : β} (h : Ok1 mg W rel G H σ (some (.ok d)) Q) (s : Same G H) (r : rel G v d) : Q v H := h v G H (Gr.refl s) r
theorem Ok1.retG {d : α} {Q : β → Hp → Prop} {v : β} (h : Ok1 mg W rel G H σ (some (.ok d)) Q) (g : Gr G H G' H') (r : rel G' v d) : Q v H' := h v G' H' g r
end

def HeldE (mg : Str → Option Value) (pn : List (Addr × Obj)) (a : Addr) (c : Str) : Prop := ∃ (oe : Obj) (C : Addr), (a, oe) ∈ pn ∧ cval mg c = .ref C ∧ Zc (.ref C) none oe ∧ ∃ vs, oe.data = .fields vs
abbrev kx (X : Cx) : KP := ⟨X.K, HeldE X.mg X.pn⟩
structure DPE (X : Cx) (e : Expr) (f : DEnv → R D) : Prop where
  run : ∀ W : WX, Takes X W → ∃ te : TE, PE X e te ∧ ∀ (G0 H0 G : Hp) (δ : DEnv) (σ : L2.St) (H : Hp) (Q : VK), SRel (kx X) G0 H0 G δ σ H → Ok1 X.mg W (Rep X.K) G H σ (f δ) Q → te σ H Q
structure DPT (X : Cx) (e : Expr) (f : DEnv → R Bool) : Prop where
  run : ∀ W : WX, Takes X W → ∃ te : TT, PT X e te ∧ ∀ (G0 H0 G : Hp) (δ : DEnv) (σ : L2.St) (H : Hp) (Q : Bool → Hp → Prop), SRel (kx X) G0 H0 G δ σ H → Ok1 X.mg W (fun _ b c => b = c) G H σ (f δ) Q → te σ H Q
structure DPW (X : Cx) (e : Expr) (f : DEnv → R Bool) : Prop where
  run : ∀ W : WX, Takes X W → ∃ te : TT, PW X e te ∧ ∀ (G0 H0 G : Hp) (δ : DEnv) (σ : L2.St) (H : Hp) (Q : Bool → Hp → Prop), SRel (kx X) G0 H0 G δ σ H → Ok1 X.mg W (fun _ b c => b = c) G H σ (f δ) Q → te σ H Q
structure DPA (X : Cx) (es : List Expr) (f : DEnv → R (List D)) : Prop where
  run : ∀ W : WX, Takes X W → ∃ te : TA, PA X es te ∧ ∀ (G0 H0 G : Hp) (δ : DEnv) (σ : L2.St) (H : Hp) (Q : List V → Hp → Prop), SRel (kx X) G0 H0 G δ σ H → Ok1 X.mg W (Reps X.K) G H σ (f δ) Q → te σ H Q

def eVar (i : Nat) : DEnv → R D := fun δ => match δ[i]? with
  | some (some (.val d)) => some (.ok d)
  | _ => none
def eC (d : D) : DEnv → R D := fun _ => some (.ok d)
def eOp (g : D → D → R D) (a b : DEnv → R D) : DEnv → R D := fun δ => R.bind (a δ) fun x => R.bind (b δ) fun y => g x y
def eUn (g : D → R D) (a : DEnv → R D) : DEnv → R D := fun δ => R.bind (a δ) g
def aNil : DEnv → R (List D) := fun _ => some (.ok [])
def aCons (a : DEnv → R D) (r : DEnv → R (List D)) : DEnv → R (List D) := fun δ => R.bind (a δ) fun x => R.bind (r δ) fun xs => some (.ok (x :: xs))
def small (n : Nat) : Bool := decide (n ≤ 1000000)
def mkTup (xs : List D) : R D := if small xs.length then some (.ok (.tup xs)) else none
def mkLst (xs : List D) : R D := if small xs.length then some (.ok (.lst xs)) else none
def eTup (a : DEnv → R (List D)) : DEnv → R D := fun δ => R.bind (a δ) mkTup
def eLst (a : DEnv → R (List D)) : DEnv → R D := fun δ => R.bind (a δ) mkLst
def eIf (t : DEnv → R Bool) (a b : DEnv → R D) : DEnv → R D := fun δ => R.bind (t δ) fun c => if c then a δ else b δ
def eAnd (a b : DEnv → R D) : DEnv → R D := fun δ => R.bind (a δ) fun x => match x with
  | .bl true => b δ
  | .bl false => some (.ok (.bl false))
  | _ => none
def eOr (a b : DEnv → R D) : DEnv → R D := fun δ => R.bind (a δ) fun x => match x with
  | .bl true => some (.ok (.bl true))
  | .bl false => b δ
  | _ => none
def eNot (a : DEnv → R D) : DEnv → R D := fun δ => R.bind (a δ) fun x => match x with
  | .bl b => some (.ok (.bl (!b)))
  | _ => none
def toB : D → R Bool
  | .bl b => some (.ok b)
  | _ => none
def tVal (a : DEnv → R D) : DEnv → R Bool := fun δ => R.bind (a δ) toB
def tAndD (t u : DEnv → R Bool) : DEnv → R Bool := fun δ => R.bind (t δ) fun c => if c then u δ else some (.ok false)
def tOrD (t u : DEnv → R Bool) : DEnv → R Bool := fun δ => R.bind (t δ) fun c => if c then some (.ok true) else u δ
def tNotD (t : DEnv → R Bool) : DEnv → R Bool := fun δ => R.bind (t δ) fun c => some (.ok (!c))

section
variable {X : Cx} {W : WX} {G0 H0 G H G' H' : Hp} {δ : DEnv} {σ : L2.St}
theorem small_line {n : Nat} (h : small n = true) : n ≤ sizeLine := by
  have := of_decide_eq_true h
  rw [sizeLine_eq]; omega

theorem dpv (i : Nat) {x : Str} {pos : Pos} (hN : X.N[i]? = some x := by rfl) (hv : Vis X.env.scope x := by first | exact Or.inl rfl | exact Or.inr (Or.inl rfl) | exact Or.inr (Or.inr rfl)) (hd : (x == ("__debug__" : Str)) = false := by decide)
    (hcd : (x == ("__classdict__" : Str)) = false := by decide) : DPE X (.Name x pos) (eVar i) := ⟨fun W tk => ⟨tVar i, pe_var hN hv hd hcd, fun G0 H0 G δ σ H Q r h => by
  unfold eVar at h
  split at h
  · rename_i d e
    obtain ⟨v, e1, e2⟩ := r.val e
    exact ⟨v, e1, h.ret r.gr.gh e2⟩
  · exact h.elim⟩⟩
theorem dpe_int {i : Int} {j pos} : DPE X (.Constant (.int i) j pos) (eC (.int i)) := ⟨fun W tk => ⟨_, pe_int, fun G0 H0 G δ σ H Q r h => h.ret r.gr.gh (.int i)⟩⟩
theorem dpe_bl {b : Bool} {j pos} : DPE X (.Constant (.bool b) j pos) (eC (.bl b)) := ⟨fun W tk => ⟨_, pe_bl, fun G0 H0 G δ σ H Q r h => h.ret r.gr.gh (.bl b)⟩⟩
theorem dpe_non {j pos} : DPE X (.Constant .none j pos) (eC .non) := ⟨fun W tk => ⟨_, pe_non, fun G0 H0 G δ σ H Q r h => h.ret r.gr.gh .non⟩⟩
theorem dpe_str {x : Str} {j pos} : DPE X (.Constant (.str x) j pos) (eC (.str x)) := ⟨fun W tk => ⟨_, pe_str, fun G0 H0 G δ σ H Q r h => h.ret r.gr.gh (.str x)⟩⟩
theorem dpe_gint {x : Str} {i : Int} {pos : Pos} (hm : ∃ t, X.mg x = some (.int i t)) (hg : Gl X x := by rfl) (hd : (x == ("__debug__" : Str)) = false := by decide) : DPE X (.Name x pos) (eC (.int i)) := by
  obtain ⟨t, hm⟩ := hm
  exact ⟨fun W tk => ⟨_, pe_glob (v := .int i) hg hm ⟨t, rfl⟩ hd, fun G0 H0 G δ σ H Q r h => h.ret r.gr.gh (.int i)⟩⟩
theorem dpe_gstr {x : Str} {z : Str} {pos : Pos} (hm : ∃ t, X.mg x = some (.str z t)) (hg : Gl X x := by rfl) (hd : (x == ("__debug__" : Str)) = false := by decide) : DPE X (.Name x pos) (eC (.str z)) := by
  obtain ⟨t, hm⟩ := hm
  exact ⟨fun W tk => ⟨_, pe_glob (v := .str z) hg hm ⟨t, rfl⟩ hd, fun G0 H0 G δ σ H Q r h => h.ret r.gr.gh (.str z)⟩⟩
theorem dpe_gref {x : Str} {a : Addr} {d : D} {pos : Pos} (hm : X.mg x = some (.ref a)) (hr : ∀ G, Rep X.K G (.ref a) d) (hg : Gl X x := by rfl) (hd : (x == ("__debug__" : Str)) = false := by decide) : DPE X (.Name x pos) (eC d) :=
  ⟨fun W tk => ⟨_, pe_glob (v := .ref a) hg hm rfl hd, fun G0 H0 G δ σ H Q r h => h.ret r.gr.gh (hr G)⟩⟩

def OpD (X : Cx) (fn : Value → Value → Sem Value) (g : D → D → R D) : Prop := ∃ r : R2, OpR X fn r ∧
  ∀ (W : WX) (G H : Hp) (σ : L2.St) (x y : V) (a b : D) (Q : VK), Same G H → Rep X.K G x a → Rep X.K G y b → Ok1 X.mg W (Rep X.K) G H σ (g a b) Q → r x y H Q
def UnD (X : Cx) (fn : Value → Sem Value) (g : D → R D) : Prop := ∃ r : V → Hp → VK → Prop, UnR X fn r ∧
  ∀ (W : WX) (G H : Hp) (σ : L2.St) (x : V) (a : D) (Q : VK), Same G H → Rep X.K G x a → Ok1 X.mg W (Rep X.K) G H σ (g a) Q → r x H Q
variable {a b c o i : Expr} {fa fb fc fo fi : DEnv → R D} {pos : Pos}
theorem bin_sat {r : R2} {g : D → D → R D} {ta tb : TE} {W : WX}
    (ha : ∀ (G0 H0 G : Hp) (δ : DEnv) (σ : L2.St) (H : Hp) (Q : VK), SRel (kx X) G0 H0 G δ σ H → Ok1 X.mg W (Rep X.K) G H σ (fa δ) Q → ta σ H Q)
    (hb : ∀ (G0 H0 G : Hp) (δ : DEnv) (σ : L2.St) (H : Hp) (Q : VK), SRel (kx X) G0 H0 G δ σ H → Ok1 X.mg W (Rep X.K) G H σ (fb δ) Q → tb σ H Q)
    (hg : ∀ (W : WX) (G H : Hp) (σ : L2.St) (x y : V) (a b : D) (Q : VK), Same G H → Rep X.K G x a → Rep X.K G y b → Ok1 X.mg W (Rep X.K) G H σ (g a b) Q → r x y H Q)
    (rr : SRel (kx X) G0 H0 G δ σ H) {Q : VK} (h : Ok1 X.mg W (Rep X.K) G H σ (eOp g fa fb δ) Q) : tOp r ta tb σ H Q := by
  refine ha G0 H0 G δ σ H _ rr (Ok1.bind h fun d v G' H' e gr rp h' => ?_)
  refine hb G0 H0 G' δ σ H' _ (rr.ext gr) (Ok1.bind h' fun d2 v2 G2 H2 e2 gr2 rp2 h2 => ?_)
  exact hg W G2 H2 σ v v2 d d2 Q gr2.gh (rp.mono gr2.gg) rp2 h2
theorem dpe_op {op : Operator} {g : D → D → R D} (ho : OpD X (binaryOp op) g) (ha : DPE X a fa) (hb : DPE X b fb) : DPE X (.BinOp a op b pos) (eOp g fa fb) := by
  obtain ⟨r, hr, hg⟩ := ho
  refine ⟨fun W tk => ?_⟩
  obtain ⟨ta, pa, qa⟩ := ha.run W tk
  obtain ⟨tb, pb, qb⟩ := hb.run W tk
  exact ⟨_, pe_op hr pa pb, fun G0 H0 G δ σ H Q rr h => bin_sat qa qb hg rr h⟩
theorem dpe_un {op : UnaryOp} {g : D → R D} (ho : UnD X (unaryOp op) g) (ha : DPE X a fa) : DPE X (.UnaryOp op a pos) (eUn g fa) := by
  obtain ⟨r, hr, hg⟩ := ho
  refine ⟨fun W tk => ?_⟩
  obtain ⟨ta, pa, qa⟩ := ha.run W tk
  refine ⟨_, pe_un hr pa, fun G0 H0 G δ σ H Q rr h => qa G0 H0 G δ σ H _ rr (Ok1.bind h fun d v G' H' e gr rp h' => ?_)⟩
  exact hg W G' H' σ v d Q gr.gh rp h'
theorem dpe_cmp {op : CmpOp} {g : D → D → R D} (ho : OpD X (compareOp op) g) (ha : DPE X a fa) (hb : DPE X b fb) (hm : behindInMarks op b = false := by first | exact nomark _ | rfl) : DPE X (.Compare a [op] [b] pos) (eOp g fa fb) := by
  obtain ⟨r, hr, hg⟩ := ho
  refine ⟨fun W tk => ?_⟩
  obtain ⟨ta, pa, qa⟩ := ha.run W tk
  obtain ⟨tb, pb, qb⟩ := hb.run W tk
  exact ⟨_, pe_cmpR hr pa pb hm, fun G0 H0 G δ σ H Q rr h => bin_sat qa qb hg rr h⟩
theorem Ok1.toB {r : R D} {Q : Bool → Hp → Prop} {mg : Str → Option Value} {K : PySem.W.Frag} (h : Ok1 mg W (fun _ b c => b = c) G H σ (R.bind r toB) Q) : Ok1 mg W (Rep K) G H σ r (fun v H' => ∃ k, v = .bl k ∧ Q k H') :=
  Ok1.bind h fun d v G' H' e gr rp h' => by
    cases d with
    | bl b => exact ⟨b, rp.bl_inv, h'.ret gr.gh rfl⟩
    | _ => exact h'.elim
theorem dpt_cmp {op : CmpOp} {g : D → D → R D} (ho : OpD X (compareOp op) g) (ha : DPE X a fa) (hb : DPE X b fb) (hm : behindInMarks op b = false := by first | exact nomark _ | rfl) : DPT X (.Compare a [op] [b] pos) (tVal (eOp g fa fb)) := by
  obtain ⟨r, hr, hg⟩ := ho
  refine ⟨fun W tk => ?_⟩
  obtain ⟨ta, pa, qa⟩ := ha.run W tk
  obtain ⟨tb, pb, qb⟩ := hb.run W tk
  exact ⟨_, pt_cmpR hr pa pb hm, fun G0 H0 G δ σ H Q rr h => bin_sat qa qb hg rr (Ok1.toB h)⟩
def eChain (g g' : D → D → R D) (fa fb fc : DEnv → R D) : DEnv → R D := fun δ => R.bind (fa δ) fun x => R.bind (fb δ) fun y => R.bind (g x y) fun z => match z with
  | .bl true => R.bind (fc δ) fun w => g' y w
  | .bl false => some (.ok (.bl false))
  | _ => none
theorem chain_sat {r r' : R2} {g g' : D → D → R D} {ta tb tc : TE} {W : WX}
    (ha : ∀ (G0 H0 G : Hp) (δ : DEnv) (σ : L2.St) (H : Hp) (Q : VK), SRel (kx X) G0 H0 G δ σ H → Ok1 X.mg W (Rep X.K) G H σ (fa δ) Q → ta σ H Q)
    (hb : ∀ (G0 H0 G : Hp) (δ : DEnv) (σ : L2.St) (H : Hp) (Q : VK), SRel (kx X) G0 H0 G δ σ H → Ok1 X.mg W (Rep X.K) G H σ (fb δ) Q → tb σ H Q)
    (hc : ∀ (G0 H0 G : Hp) (δ : DEnv) (σ : L2.St) (H : Hp) (Q : VK), SRel (kx X) G0 H0 G δ σ H → Ok1 X.mg W (Rep X.K) G H σ (fc δ) Q → tc σ H Q)
    (hg : ∀ (W : WX) (G H : Hp) (σ : L2.St) (x y : V) (a b : D) (Q : VK), Same G H → Rep X.K G x a → Rep X.K G y b → Ok1 X.mg W (Rep X.K) G H σ (g a b) Q → r x y H Q)
    (hg' : ∀ (W : WX) (G H : Hp) (σ : L2.St) (x y : V) (a b : D) (Q : VK), Same G H → Rep X.K G x a → Rep X.K G y b → Ok1 X.mg W (Rep X.K) G H σ (g' a b) Q → r' x y H Q)
    (rr : SRel (kx X) G0 H0 G δ σ H) {Q : VK} (h : Ok1 X.mg W (Rep X.K) G H σ (eChain g g' fa fb fc δ) Q) : tChain r r' ta tb tc σ H Q := by
  refine ha G0 H0 G δ σ H _ rr (Ok1.bind h fun d v G' H' e gr rp h' => ?_)
  refine hb G0 H0 G' δ σ H' _ (rr.ext gr) (Ok1.bind h' fun d2 v2 G2 H2 e2 gr2 rp2 h2 => ?_)
  refine hg W G2 H2 σ v v2 d d2 _ gr2.gh (rp.mono gr2.gg) rp2 (Ok1.bind h2 fun z vz G3 H3 e3 gr3 rp3 h3 => ?_)
  cases z with
  | bl k =>
    refine ⟨k, rp3.bl_inv, ?_⟩
    cases k with
    | false =>
      show (if false = true then _ else _)
      rw [if_neg Bool.false_ne_true]
      exact h3.ret gr3.gh (.bl false)
    | true =>
      show (if true = true then _ else _)
      rw [if_pos rfl]
      refine hc G0 H0 G3 δ σ H3 _ ((rr.ext gr).ext (gr2.trans gr3)) (Ok1.bind h3 fun w vw G4 H4 e4 gr4 rp4 h4 => ?_)
      exact hg' W G4 H4 σ v2 vw d2 w Q gr4.gh (rp2.mono (gr3.gg.trans gr4.gg)) rp4 h4
  | _ => exact h3.elim
theorem dpe_chain {op op' : CmpOp} {g g' : D → D → R D} (ho : OpD X (compareOp op) g) (ho' : OpD X (compareOp op') g') (ha : DPE X a fa) (hb : DPE X b fb) (hc : DPE X c fc)
    (hm : lastMarks [op, op'] [b, c] = false := by with_unfolding_all rfl) : DPE X (.Compare a [op, op'] [b, c] pos) (eChain g g' fa fb fc) := by
  obtain ⟨r, hr, hg⟩ := ho
  obtain ⟨r', hr', hg'⟩ := ho'
  refine ⟨fun W tk => ?_⟩
  obtain ⟨ta, pa, qa⟩ := ha.run W tk
  obtain ⟨tb, pb, qb⟩ := hb.run W tk
  obtain ⟨tc, pc, qc⟩ := hc.run W tk
  exact ⟨_, pe_chain hr hr' pa pb pc hm, fun G0 H0 G δ σ H Q rr h => chain_sat qa qb qc hg hg' rr h⟩
theorem dpt_chain {op op' : CmpOp} {g g' : D → D → R D} (ho : OpD X (compareOp op) g) (ho' : OpD X (compareOp op') g') (ha : DPE X a fa) (hb : DPE X b fb) (hc : DPE X c fc)
    (hm : lastMarks [op, op'] [b, c] = false := by with_unfolding_all rfl) : DPT X (.Compare a [op, op'] [b, c] pos) (tVal (eChain g g' fa fb fc)) := by
  obtain ⟨r, hr, hg⟩ := ho
  obtain ⟨r', hr', hg'⟩ := ho'
  refine ⟨fun W tk => ?_⟩
  obtain ⟨ta, pa, qa⟩ := ha.run W tk
  obtain ⟨tb, pb, qb⟩ := hb.run W tk
  obtain ⟨tc, pc, qc⟩ := hc.run W tk
  exact ⟨_, pt_chain hr hr' pa pb pc hm, fun G0 H0 G δ σ H Q rr h => chain_sat qa qb qc hg hg' rr (Ok1.toB h)⟩

theorem dpt_val {e : Expr} {f : DEnv → R D} (h : DPE X e f) (he : ∀ whole, isTrue e X.env whole = (do let v ← whole; standAt e.pos; holding [v] (truthy v)) := by intro _; rfl) : DPT X e (tVal f) := by
  refine ⟨fun W tk => ?_⟩
  obtain ⟨ta, pa, qa⟩ := h.run W tk
  exact ⟨_, pt_val pa he, fun G0 H0 G δ σ H Q rr h => qa G0 H0 G δ σ H _ rr (Ok1.toB h)⟩
variable {t u : DEnv → R Bool} {rest : List Expr}
theorem DPW.pt {e : Expr} (h : DPW X e t) : DPT X e t := ⟨fun W tk => by
  obtain ⟨ta, pa, qa⟩ := h.run W tk
  exact ⟨ta, pa.pt, qa⟩⟩
theorem dpw_and1 (ha : DPT X a t) : DPW X (.BoolOp .And [a] pos) t := ⟨fun W tk => by
  obtain ⟨ta, pa, qa⟩ := ha.run W tk
  exact ⟨ta, pw_and1 pa, qa⟩⟩
theorem dpw_or1 (ha : DPT X a t) : DPW X (.BoolOp .Or [a] pos) t := ⟨fun W tk => by
  obtain ⟨ta, pa, qa⟩ := ha.run W tk
  exact ⟨ta, pw_or1 pa, qa⟩⟩
theorem dpw_and (ha : DPT X a t) (hb : DPW X (.BoolOp .And (b :: rest) pos) u) : DPW X (.BoolOp .And (a :: b :: rest) pos) (tAndD t u) := ⟨fun W tk => by
  obtain ⟨ta, pa, qa⟩ := ha.run W tk
  obtain ⟨tb, pb, qb⟩ := hb.run W tk
  refine ⟨_, pw_and pa pb, fun G0 H0 G δ σ H Q rr h => qa G0 H0 G δ σ H _ rr (Ok1.bind h fun d v G' H' e gr rp h' => ?_)⟩
  subst rp
  cases v with
  | true => exact qb G0 H0 G' δ σ H' Q (rr.ext gr) h'
  | false => exact h'.ret gr.gh rfl⟩
theorem dpw_or (ha : DPT X a t) (hb : DPW X (.BoolOp .Or (b :: rest) pos) u) : DPW X (.BoolOp .Or (a :: b :: rest) pos) (tOrD t u) := ⟨fun W tk => by
  obtain ⟨ta, pa, qa⟩ := ha.run W tk
  obtain ⟨tb, pb, qb⟩ := hb.run W tk
  refine ⟨_, pw_or pa pb, fun G0 H0 G δ σ H Q rr h => qa G0 H0 G δ σ H _ rr (Ok1.bind h fun d v G' H' e gr rp h' => ?_)⟩
  subst rp
  cases v with
  | false => exact qb G0 H0 G' δ σ H' Q (rr.ext gr) h'
  | true => exact h'.ret gr.gh rfl⟩
theorem dpt_not (ha : DPT X a t) : DPT X (.UnaryOp .Not a pos) (tNotD t) := ⟨fun W tk => by
  obtain ⟨ta, pa, qa⟩ := ha.run W tk
  refine ⟨_, pt_not pa, fun G0 H0 G δ σ H Q rr h => qa G0 H0 G δ σ H _ rr (Ok1.bind h fun d v G' H' e gr rp h' => ?_)⟩
  subst rp
  exact h'.ret gr.gh rfl⟩
theorem dpe_one {op} (h : DPE X a fa) : DPE X (.BoolOp op [a] pos) fa := ⟨fun W tk => by
  obtain ⟨ta, pa, qa⟩ := h.run W tk
  exact ⟨_, pe_one pa, qa⟩⟩
theorem dpe_and (ha : DPE X a fa) (hb : DPE X (.BoolOp .And (b :: rest) pos) fb) : DPE X (.BoolOp .And (a :: b :: rest) pos) (eAnd fa fb) := ⟨fun W tk => by
  obtain ⟨ta, pa, qa⟩ := ha.run W tk
  obtain ⟨tb, pb, qb⟩ := hb.run W tk
  refine ⟨_, pe_and pa pb, fun G0 H0 G δ σ H Q rr h => qa G0 H0 G δ σ H _ rr (Ok1.bind h fun d v G' H' e gr rp h' => ?_)⟩
  cases d with
  | bl k =>
    refine ⟨k, rp.bl_inv, ?_⟩
    cases k with
    | true => exact qb G0 H0 G' δ σ H' Q (rr.ext gr) h'
    | false => exact h'.ret gr.gh (.bl false)
  | _ => exact h'.elim⟩
theorem dpe_or (ha : DPE X a fa) (hb : DPE X (.BoolOp .Or (b :: rest) pos) fb) : DPE X (.BoolOp .Or (a :: b :: rest) pos) (eOr fa fb) := ⟨fun W tk => by
  obtain ⟨ta, pa, qa⟩ := ha.run W tk
  obtain ⟨tb, pb, qb⟩ := hb.run W tk
  refine ⟨_, pe_or pa pb, fun G0 H0 G δ σ H Q rr h => qa G0 H0 G δ σ H _ rr (Ok1.bind h fun d v G' H' e gr rp h' => ?_)⟩
  cases d with
  | bl k =>
    refine ⟨k, rp.bl_inv, ?_⟩
    cases k with
    | false => exact qb G0 H0 G' δ σ H' Q (rr.ext gr) h'
    | true => exact h'.ret gr.gh (.bl true)
  | _ => exact h'.elim⟩
theorem dpe_not (ha : DPE X a fa) : DPE X (.UnaryOp .Not a pos) (eNot fa) := ⟨fun W tk => by
  obtain ⟨ta, pa, qa⟩ := ha.run W tk
  refine ⟨_, pe_not pa, fun G0 H0 G δ σ H Q rr h => qa G0 H0 G δ σ H _ rr (Ok1.bind h fun d v G' H' e gr rp h' => ?_)⟩
  cases d with
  | bl k => exact ⟨k, rp.bl_inv, h'.ret gr.gh (.bl _)⟩
  | _ => exact h'.elim⟩
theorem dpe_if {c : Expr} (hc : DPT X c t) (ha : DPE X a fa) (hb : DPE X b fb) : DPE X (.IfExp c a b pos) (eIf t fa fb) := ⟨fun W tk => by
  obtain ⟨tc, pc, qc⟩ := hc.run W tk
  obtain ⟨ta, pa, qa⟩ := ha.run W tk
  obtain ⟨tb, pb, qb⟩ := hb.run W tk
  refine ⟨_, pe_ifExp pc pa pb, fun G0 H0 G δ σ H Q rr h => qc G0 H0 G δ σ H _ rr (Ok1.bind h fun d v G' H' e gr rp h' => ?_)⟩
  subst rp
  cases v with
  | true => exact qa G0 H0 G' δ σ H' Q (rr.ext gr) h'
  | false => exact qb G0 H0 G' δ σ H' Q (rr.ext gr) h'⟩

theorem dpa_nil : DPA X [] aNil := ⟨fun W tk => ⟨_, pa_nil, fun G0 H0 G δ σ H Q rr h => h.ret rr.gr.gh Reps.nil⟩⟩
variable {e : Expr} {es : List Expr} {f : DEnv → R D} {fr : DEnv → R (List D)}
theorem dpa_cons (ha : DPE X e f) (hr : DPA X es fr) (hs : starEach (e :: es) X.env = (false, eval e X.env) :: starEach es X.env := by rfl) : DPA X (e :: es) (aCons f fr) := ⟨fun W tk => by
  obtain ⟨ta, pa, qa⟩ := ha.run W tk
  obtain ⟨tb, pb, qb⟩ := hr.run W tk
  refine ⟨_, pa_cons pa pb hs, fun G0 H0 G δ σ H Q rr h => qa G0 H0 G δ σ H _ rr (Ok1.bind h fun d v G' H' e gr rp h' => ?_)⟩
  refine qb G0 H0 G' δ σ H' _ (rr.ext gr) (Ok1.bind h' fun ds vs G2 H2 e2 gr2 rp2 h2 => ?_)
  exact h2.ret gr2.gh (Reps.cons (rp.mono gr2.gg) rp2)⟩
theorem dpe_tup {x1} (h : DPA X es fr) : DPE X (.Tuple es x1 pos) (eTup fr) := ⟨fun W tk => by
  obtain ⟨ta, pa, qa⟩ := h.run W tk
  refine ⟨_, pe_tup pa, fun G0 H0 G δ σ H Q rr h => qa G0 H0 G δ σ H _ rr (Ok1.bind h fun ds vs G' H' e gr rp h' => ?_)⟩
  unfold mkTup at h'
  split at h'
  · rename_i hs
    refine ⟨by rw [rp.1]; exact small_line hs, fun p hp => ?_⟩
    have g2 := Gr.new gr.gh (o := .tup vs) hp
    exact h'.retG g2 (.tup' (SqT.of upd_same) (rp.mono g2.gg))
  · exact h'.elim⟩
theorem dpe_lst (h : DPA X es fr) : DPE X (.List es pos) (eLst fr) := ⟨fun W tk => by
  obtain ⟨ta, pa, qa⟩ := h.run W tk
  refine ⟨_, pe_lst pa, fun G0 H0 G δ σ H Q rr h => qa G0 H0 G δ σ H _ rr (Ok1.bind h fun ds vs G' H' e gr rp h' => ?_)⟩
  unfold mkLst at h'
  split at h'
  · rename_i hs
    refine ⟨by rw [rp.1]; exact small_line hs, fun p hp => ?_⟩
    have g2 := Gr.new gr.gh (o := .lst vs) hp
    exact h'.retG g2 (.lst' upd_same (rp.mono g2.gg))
  · exact h'.elim⟩
end
end DL

namespace DL
open PySem PySem.Spec L2

abbrev bitsOf (i : Int) : Nat := Builtin.Int.intBits i
def addD : D → D → R D
  | .int i, .int j => some (.ok (.int (i + j)))
  | .tup xs, .tup ys => if small (xs.length + ys.length) then some (.ok (.tup (xs ++ ys))) else none
  | .lst xs, .lst ys => if small (xs.length + ys.length) then some (.ok (.lst (xs ++ ys))) else none
  | .str x, .str y => if small (x.length + y.length) then some (.ok (.str (x ++ y))) else none
  | _, _ => none
def subD : D → D → R D
  | .int i, .int j => some (.ok (.int (i - j)))
  | _, _ => none
def mulD : D → D → R D
  | .int i, .int j => if bitsOf i + bitsOf j ≤ 134217728 then some (.ok (.int (i * j))) else none
  | _, _ => none
def fdivD : D → D → R D
  | .int i, .int j => if j ≠ 0 ∧ j.natAbs.log2 < 9000 then some (.ok (.int (i.fdiv j))) else none
  | _, _ => none
def modD : D → D → R D
  | .int i, .int j => if j ≠ 0 then some (.ok (.int (i.fmod j))) else none
  | _, _ => none
def shlD : D → D → R D
  | .int i, .int j => if 0 ≤ j ∧ (bitsOf i : Int) + j ≤ 2 ^ 27 then some (.ok (.int (i * 2 ^ j.toNat))) else none
  | _, _ => none
def shrD : D → D → R D
  | .int i, .int j => if 0 ≤ j then some (.ok (.int (i / 2 ^ j.toNat))) else none
  | _, _ => none
def ltD : D → D → R D
  | .int i, .int j => some (.ok (.bl (decide (i < j))))
  | _, _ => none
def leD : D → D → R D
  | .int i, .int j => some (.ok (.bl (decide (i ≤ j))))
  | _, _ => none
def gtD : D → D → R D
  | .int i, .int j => some (.ok (.bl (decide (j < i))))
  | _, _ => none
def geD : D → D → R D
  | .int i, .int j => some (.ok (.bl (decide (j ≤ i))))
  | _, _ => none
def isND : D → D → R D
  | .raw _, .non => none
  | .non, .non => some (.ok (.bl true))
  | _, .non => some (.ok (.bl false))
  | _, _ => none
def isNotND : D → D → R D
  | .raw _, .non => none
  | .non, .non => some (.ok (.bl false))
  | _, .non => some (.ok (.bl true))
  | _, _ => none
mutual
def py : D → Option PyData
  | .non => some .none
  | .bl b => some (.bool b)
  | .int i => some (.int i)
  | .str x => some (.str x)
  | .tup xs => (pyAll xs).map .tuple
  | .lst xs => (pyAll xs).map .list
  | .frz xs => (pyAll xs).map .list
  | .raw _ => none
  | .ty _ => none
def pyAll : List D → Option (List PyData)
  | [] => some []
  | x :: xs => match py x, pyAll xs with
    | some d, some ds => some (d :: ds)
    | _, _ => none
end
def eqD (x y : D) : R D := match py x, py y with
  | some d, some e => if SeqAt.shaped d && SeqAt.shaped e then some (.ok (.bl (PyData.eqv d e))) else none
  | _, _ => none
def neD (x y : D) : R D := match py x, py y with
  | some d, some e => if SeqAt.shaped d && SeqAt.shaped e then some (.ok (.bl (!PyData.eqv d e))) else none
  | _, _ => none
def toV : D → Option V
  | .non => some .non
  | .bl b => some (.bl b)
  | .int i => some (.int i)
  | .str x => some (.str x)
  | _ => none
def toVs : List D → Option (List V)
  | [] => some []
  | x :: xs => match toV x, toVs xs with
    | some v, some vs => some (v :: vs)
    | _, _ => none
def inD : D → D → R D := fun x y => match y with
  | .tup ys => match toV x, toVs ys with
    | some v, some vs => some (.ok (.bl (inV v vs)))
    | _, _ => none
  | .lst ys => match toV x, toVs ys with
    | some v, some vs => some (.ok (.bl (inV v vs)))
    | _, _ => none
  | _ => none
def notInD : D → D → R D := fun x y => match y with
  | .tup ys => match toV x, toVs ys with
    | some v, some vs => some (.ok (.bl (!inV v vs)))
    | _, _ => none
  | .lst ys => match toV x, toVs ys with
    | some v, some vs => some (.ok (.bl (!inV v vs)))
    | _, _ => none
  | _ => none
def negD : D → R D
  | .int i => some (.ok (.int (-i)))
  | _ => none
def ixD : D → D → R D
  | .tup xs, .int i => match atI xs i with
    | some d => some (.ok d)
    | none => none
  | .lst xs, .int i => match atI xs i with
    | some d => some (.ok d)
    | none => none
  | .frz xs, .int i => match atI xs i with
    | some d => some (.ok d)
    | none => none
  | .str z, .int i => if small z.length then match atI z.cps.toList i with
    | some c => some (.ok (.str ⟨#[c]⟩))
    | none => none else none
  | _, _ => none

section
variable {K : PySem.W.Frag} {G H : Hp}
theorem toV_inv {d : D} {v : V} (h : toV d = some v) : ∀ {x : V}, Rep K G x d → x = v ∧ flatV v = true := by
  intro x r
  cases d <;> simp only [toV, Option.some.injEq, reduceCtorEq] at h <;> subst h <;> cases r <;> exact ⟨rfl, rfl⟩
theorem toVs_inv : ∀ {ds : List D} {vs xs : List V}, toVs ds = some vs → Reps K G xs ds → xs = vs ∧ vs.all flatV = true
  | [], vs, xs, h, r => by
    simp only [toVs, Option.some.injEq] at h
    subst h
    exact ⟨r.nil_inv, rfl⟩
  | d :: ds, vs, xs, h, r => by
    obtain ⟨x, xr, rfl, r1, r2⟩ := r.cons_inv
    unfold toVs at h
    split at h
    · rename_i v vr e1 e2
      simp only [Option.some.injEq] at h
      subst h
      obtain ⟨rfl, f1⟩ := toV_inv e1 r1
      obtain ⟨rfl, f2⟩ := toVs_inv e2 r2
      exact ⟨rfl, by rw [List.all_cons, f1, f2]; rfl⟩
    · cases h
mutual
theorem py_dp : ∀ {d : D} {p : PyData} {x : V}, py d = some p → Rep K G x d → Same G H → Dp K H x p
  | .non, p, x, h, r, s => by simp only [py, Option.some.injEq] at h; subst h; cases r; exact .non
  | .bl b, p, x, h, r, s => by simp only [py, Option.some.injEq] at h; subst h; cases r; exact .bl b
  | .int b, p, x, h, r, s => by simp only [py, Option.some.injEq] at h; subst h; cases r; exact .int b
  | .str b, p, x, h, r, s => by simp only [py, Option.some.injEq] at h; subst h; cases r; exact .str b
  | .tup xs, p, x, h, r, s => by
    simp only [py, Option.map_eq_some_iff] at h
    obtain ⟨ps, h1, rfl⟩ := h
    obtain ⟨a, vs, rfl, h2, h3⟩ := r.tup_inv
    exact .tup (same_t s h2) (pyAll_dp h1 h3 s)
  | .lst xs, p, x, h, r, s => by
    simp only [py, Option.map_eq_some_iff] at h
    obtain ⟨ps, h1, rfl⟩ := h
    obtain ⟨a, vs, rfl, h2, h3⟩ := r.lst_inv
    exact .lst (SqL.of (s _ _ h2)) (pyAll_dp h1 h3 s)
  | .frz xs, p, x, h, r, s => by
    simp only [py, Option.map_eq_some_iff] at h
    obtain ⟨ps, h1, rfl⟩ := h
    obtain ⟨a, vs, rfl, h2, h3⟩ := r.frz_inv
    exact .lst (s.seq h2) (pyAll_dp h1 h3 s)
  | .raw _, p, x, h, r, s => by simp [py] at h
  | .ty _, p, x, h, r, s => by simp [py] at h
theorem pyAll_dp : ∀ {ds : List D} {ps : List PyData} {xs : List V}, pyAll ds = some ps → Reps K G xs ds → Same G H → DpAll K H xs ps
  | [], ps, xs, h, r, s => by
    simp only [pyAll, Option.some.injEq] at h
    subst h
    rw [r.nil_inv]
    exact .nil
  | d :: ds, ps, xs, h, r, s => by
    obtain ⟨x, xr, rfl, r1, r2⟩ := r.cons_inv
    unfold pyAll at h
    split at h
    · rename_i p pr e1 e2
      simp only [Option.some.injEq] at h
      subst h
      exact .cons (py_dp e1 r1 s) (pyAll_dp e2 r2 s)
    · cases h
end
end

section
variable {X : Cx}
theorem opd_int {fn : Value → Value → Sem Value} {C : Int → Int → Prop} {gV : Int → Int → V} {gD : Int → Int → D} {g : D → D → R D} (hr : OpR X fn (rI C gV)) (hrep : ∀ G i j, Rep X.K G (gV i j) (gD i j))
    (hg : ∀ a b r, g a b = some r → ∃ i j, a = .int i ∧ b = .int j ∧ C i j ∧ r = .ok (gD i j)) : OpD X fn g := by
  refine ⟨_, hr, fun W G H σ x y a b Q s ra rb h => ?_⟩
  cases e : g a b with
  | none => rw [e] at h; exact h.elim
  | some r =>
    obtain ⟨i, j, rfl, rfl, c, rfl⟩ := hg a b r e
    rw [e] at h
    exact ⟨i, j, ra.int_inv, rb.int_inv, c, h.ret s (hrep G i j)⟩
theorem opd_int0 {fn : Value → Value → Sem Value} {gV : Int → Int → V} {gD : Int → Int → D} {g : D → D → R D} (hr : OpR X fn (rI0 gV)) (hrep : ∀ G i j, Rep X.K G (gV i j) (gD i j))
    (hg : ∀ a b r, g a b = some r → ∃ i j, a = .int i ∧ b = .int j ∧ r = .ok (gD i j)) : OpD X fn g := by
  refine ⟨_, hr, fun W G H σ x y a b Q s ra rb h => ?_⟩
  cases e : g a b with
  | none => rw [e] at h; exact h.elim
  | some r =>
    obtain ⟨i, j, rfl, rfl, rfl⟩ := hg a b r e
    rw [e] at h
    exact ⟨i, j, ra.int_inv, rb.int_inv, h.ret s (hrep G i j)⟩
def CDivG (_ j : Int) : Prop := j ≠ 0 ∧ j.natAbs.log2 < 9000
theorem op_fdivG : OpR X (binaryOp .FloorDiv) (rI CDivG fun i j => .int (i.fdiv j)) := opI fun i j _ _ _ _ _ hc q => PyProof.Rows.floordiv_int hc.1 q (.inl (PyProof.noPylong_of_log2 hc.2))
theorem dop_sub : OpD X (binaryOp .Sub) subD := opd_int0 (gD := fun i j => .int (i - j)) op_sub (fun _ _ _ => .int _) fun a b r h => by
  cases a <;> cases b <;> simp only [subD, Option.some.injEq, reduceCtorEq] at h
  exact ⟨_, _, rfl, rfl, h.symm⟩
theorem dop_mul : OpD X (binaryOp .Mult) mulD := opd_int (gD := fun i j => .int (i * j)) op_mulX (fun _ _ _ => .int _) fun a b r h => by
  cases a <;> cases b <;> simp only [mulD, reduceCtorEq] at h
  rename_i i j
  split at h
  · rename_i c
    refine ⟨i, j, rfl, rfl, ?_, (Option.some.inj h).symm⟩
    show (Builtin.Int.intBits i : Int) + (Builtin.Int.intBits j : Int) ≤ 134217728
    have c' : Builtin.Int.intBits i + Builtin.Int.intBits j ≤ 134217728 := c
    omega
  · cases h
theorem dop_fdiv : OpD X (binaryOp .FloorDiv) fdivD := opd_int (gD := fun i j => .int (i.fdiv j)) op_fdivG (fun _ _ _ => .int _) fun a b r h => by
  cases a <;> cases b <;> simp only [fdivD, reduceCtorEq] at h
  rename_i i j
  split at h
  · rename_i c
    exact ⟨i, j, rfl, rfl, c, (Option.some.inj h).symm⟩
  · cases h
theorem dop_mod : OpD X (binaryOp .Mod) modD := opd_int (gD := fun i j => .int (i.fmod j)) op_modN (fun _ _ _ => .int _) fun a b r h => by
  cases a <;> cases b <;> simp only [modD, reduceCtorEq] at h
  rename_i i j
  split at h
  · rename_i c
    exact ⟨i, j, rfl, rfl, c, (Option.some.inj h).symm⟩
  · cases h
theorem dop_shl : OpD X (binaryOp .LShift) shlD := opd_int (gD := fun i j => .int (i * 2 ^ j.toNat)) op_shlW (fun _ _ _ => .int _) fun a b r h => by
  cases a <;> cases b <;> simp only [shlD, reduceCtorEq] at h
  rename_i i j
  split at h
  · rename_i c
    exact ⟨i, j, rfl, rfl, c, (Option.some.inj h).symm⟩
  · cases h
theorem dop_shr : OpD X (binaryOp .RShift) shrD := opd_int (gD := fun i j => .int (i / 2 ^ j.toNat)) op_shr (fun _ _ _ => .int _) fun a b r h => by
  cases a <;> cases b <;> simp only [shrD, reduceCtorEq] at h
  rename_i i j
  split at h
  · rename_i c
    exact ⟨i, j, rfl, rfl, c, (Option.some.inj h).symm⟩
  · cases h
theorem dop_lt : OpD X (compareOp .Lt) ltD := opd_int0 (gD := fun i j => .bl (decide (i < j))) op_lt (fun _ _ _ => .bl _) fun a b r h => by
  cases a <;> cases b <;> simp only [ltD, Option.some.injEq, reduceCtorEq] at h
  exact ⟨_, _, rfl, rfl, h.symm⟩
theorem dop_le : OpD X (compareOp .LtE) leD := opd_int0 (gD := fun i j => .bl (decide (i ≤ j))) op_le (fun _ _ _ => .bl _) fun a b r h => by
  cases a <;> cases b <;> simp only [leD, Option.some.injEq, reduceCtorEq] at h
  exact ⟨_, _, rfl, rfl, h.symm⟩
theorem dop_gt : OpD X (compareOp .Gt) gtD := opd_int0 (gD := fun i j => .bl (decide (j < i))) op_gt (fun _ _ _ => .bl _) fun a b r h => by
  cases a <;> cases b <;> simp only [gtD, Option.some.injEq, reduceCtorEq] at h
  exact ⟨_, _, rfl, rfl, h.symm⟩
theorem dop_ge : OpD X (compareOp .GtE) geD := opd_int0 (gD := fun i j => .bl (decide (j ≤ i))) op_ge (fun _ _ _ => .bl _) fun a b r h => by
  cases a <;> cases b <;> simp only [geD, Option.some.injEq, reduceCtorEq] at h
  exact ⟨_, _, rfl, rfl, h.symm⟩
theorem dop_add : OpD X (binaryOp .Add) addD := by
  refine ⟨_, (op_add.or (op_catA.or (op_cat.or op_add_str))), fun W G H σ x y a b Q s ra rb h => ?_⟩
  cases a <;> cases b <;> simp only [addD] at h <;> try exact h.elim
  · exact .inl ⟨_, _, ra.int_inv, rb.int_inv, h.ret s (.int _)⟩
  · split at h
    · rename_i hs
      refine .inr (.inr (.inr ⟨_, _, ra.str_inv, rb.str_inv, small_line hs, h.ret s (.str _)⟩))
    · exact h.elim
  · split at h
    · rename_i hs
      obtain ⟨a, vs, rfl, h1, r1⟩ := ra.tup_inv
      obtain ⟨b, ws, rfl, h2, r2⟩ := rb.tup_inv
      refine .inr (.inl ⟨a, b, vs, ws, rfl, rfl, same_t s h1, same_t s h2, by rw [r1.1, r2.1]; exact small_line hs, fun e => ?_, fun _ e => ?_, fun _ _ p hp => ?_⟩)
      · subst e
        have r := r1.append r2
        exact h.ret s (.tup' h2 (by simpa using r))
      · subst e
        have r := r1.append r2
        exact h.ret s (.tup' h1 (by simpa using r))
      · have g2 := Gr.new s (o := .tup (vs ++ ws)) hp
        exact h.retG g2 (.tup' (SqT.of upd_same) ((r1.append r2).mono g2.gg))
    · exact h.elim
  · split at h
    · rename_i hs
      obtain ⟨a, vs, rfl, h1, r1⟩ := ra.lst_inv
      obtain ⟨b, ws, rfl, h2, r2⟩ := rb.lst_inv
      refine .inr (.inr (.inl ⟨a, b, vs, ws, rfl, rfl, s _ _ h1, s _ _ h2, by rw [r1.1, r2.1]; exact small_line hs, fun p hp => ?_⟩))
      have g2 := Gr.new s (o := .lst (vs ++ ws)) hp
      exact h.retG g2 (.lst' upd_same ((r1.append r2).mono g2.gg))
    · exact h.elim
theorem dop_eq (hu : X.A.units + 64 < cLine) : OpD X (compareOp .Eq) eqD := by
  refine ⟨_, op_eqD hu, fun W G H σ x y a b Q s ra rb h => ?_⟩
  unfold eqD at h
  split at h
  · rename_i d e h1 h2
    split at h
    · rename_i hs
      obtain ⟨s1, s2⟩ := Bool.and_eq_true_iff.mp hs
      exact ⟨d, e, py_dp h1 ra s, py_dp h2 rb s, s1, s2, h.ret s (.bl _)⟩
    · exact h.elim
  · exact h.elim
theorem dop_ne (hu : X.A.units + 64 < cLine) : OpD X (compareOp .NotEq) neD := by
  refine ⟨_, op_neD hu, fun W G H σ x y a b Q s ra rb h => ?_⟩
  unfold neD at h
  split at h
  · rename_i d e h1 h2
    split at h
    · rename_i hs
      obtain ⟨s1, s2⟩ := Bool.and_eq_true_iff.mp hs
      exact ⟨d, e, py_dp h1 ra s, py_dp h2 rb s, s1, s2, h.ret s (.bl _)⟩
    · exact h.elim
  · exact h.elim
theorem rep_non_iff {K : PySem.W.Frag} {G : Hp} {x : V} {d : D} (r : Rep K G x d) : decide (x = .non) = (match d with | .non => true | _ => false) := by
  cases r <;> rfl
theorem dop_isN : OpD X (compareOp .Is) isND := by
  refine ⟨_, op_isN, fun W G H σ x y a b Q s ra rb h => ?_⟩
  cases b <;> (try (cases a <;> exact h.elim))
  refine ⟨rb.non_inv, ?_⟩
  rw [rep_non_iff ra]
  cases a <;> first | exact h.elim | exact h.ret s (.bl _)
theorem dop_isNotN : OpD X (compareOp .IsNot) isNotND := by
  refine ⟨_, op_notN, fun W G H σ x y a b Q s ra rb h => ?_⟩
  cases b <;> (try (cases a <;> exact h.elim))
  refine ⟨rb.non_inv, ?_⟩
  rw [rep_non_iff ra]
  cases a <;> first | exact h.elim | exact h.ret s (.bl _)
theorem dop_in : OpD X (compareOp .In) inD := by
  refine ⟨_, op_in_seq, fun W G H σ x y a b Q s ra rb h => ?_⟩
  cases b <;> simp only [inD] at h <;> try exact h.elim
  · split at h
    · rename_i v vs h1 h2
      obtain ⟨p, ws, rfl, h3, r2⟩ := rb.tup_inv
      obtain ⟨rfl, f1⟩ := toV_inv h1 ra
      obtain ⟨rfl, f2⟩ := toVs_inv h2 r2
      refine ⟨p, ws, rfl, .inr (same_t s h3), f1, f2, ?_⟩
      rw [if_neg (by decide)]
      exact h.ret s (.bl _)
    · exact h.elim
  · split at h
    · rename_i v vs h1 h2
      obtain ⟨p, ws, rfl, h3, r2⟩ := rb.lst_inv
      obtain ⟨rfl, f1⟩ := toV_inv h1 ra
      obtain ⟨rfl, f2⟩ := toVs_inv h2 r2
      refine ⟨p, ws, rfl, .inl (SqL.of (s _ _ h3)), f1, f2, ?_⟩
      rw [if_neg (by decide)]
      exact h.ret s (.bl _)
    · exact h.elim
theorem dop_notIn : OpD X (compareOp .NotIn) notInD := by
  refine ⟨_, op_notIn_seq, fun W G H σ x y a b Q s ra rb h => ?_⟩
  cases b <;> simp only [notInD] at h <;> try exact h.elim
  · split at h
    · rename_i v vs h1 h2
      obtain ⟨p, ws, rfl, h3, r2⟩ := rb.tup_inv
      obtain ⟨rfl, f1⟩ := toV_inv h1 ra
      obtain ⟨rfl, f2⟩ := toVs_inv h2 r2
      refine ⟨p, ws, rfl, .inr (same_t s h3), f1, f2, ?_⟩
      rw [if_pos rfl]
      exact h.ret s (.bl _)
    · exact h.elim
  · split at h
    · rename_i v vs h1 h2
      obtain ⟨p, ws, rfl, h3, r2⟩ := rb.lst_inv
      obtain ⟨rfl, f1⟩ := toV_inv h1 ra
      obtain ⟨rfl, f2⟩ := toVs_inv h2 r2
      refine ⟨p, ws, rfl, .inl (SqL.of (s _ _ h3)), f1, f2, ?_⟩
      rw [if_pos rfl]
      exact h.ret s (.bl _)
    · exact h.elim
theorem dun_neg : UnD X (unaryOp .USub) negD := by
  refine ⟨_, un_neg, fun W G H σ x a Q s ra h => ?_⟩
  cases a <;> simp only [negD] at h <;> try exact h.elim
  exact ⟨_, ra.int_inv, h.ret s (.int _)⟩

theorem Reps.atI {K : PySem.W.Frag} {G : Hp} {vs : List V} {ds : List D} (h : Reps K G vs ds) {i : Int} {d : D} (e : L2.atI ds i = some d) : ∃ v, L2.atI vs i = some v ∧ Rep K G v d := by
  unfold L2.atI at e ⊢
  rw [h.1]
  cases q : ixN ds.length i with
  | none => rw [q] at e; cases e
  | some j =>
    rw [q] at e
    exact h.get e
variable {a b : Expr} {fa fb : DEnv → R D} {pos : Pos}
theorem dpe_ix (ha : DPE X a fa) (hb : DPE X b fb) (hs : PlainIx b := by intro _ _; rfl) : DPE X (.Subscript a b pos) (eOp ixD fa fb) := by
  refine ⟨fun W tk => ?_⟩
  obtain ⟨ta, pa, qa⟩ := ha.run W tk
  obtain ⟨tb, pb, qb⟩ := hb.run W tk
  refine ⟨_, pe_ix ix_seq pa pb hs, fun G0 H0 G δ σ H Q rr h => bin_sat qa qb (fun W G H σ x y a b Q s ra rb h => ?_) rr h⟩
  cases a <;> cases b <;> simp only [ixD] at h <;> try exact h.elim
  · split at h
    · rename_i hs
      split at h
      · rename_i c hc
        exact .inr (.inr ⟨_, _, c, ra.str_inv, rb.int_inv, small_line hs, hc, h.ret s (.str _)⟩)
      · exact h.elim
    · exact h.elim
  · split at h
    · rename_i d hd
      obtain ⟨p, vs, rfl, h3, r2⟩ := ra.tup_inv
      obtain ⟨v, h4, r4⟩ := r2.atI hd
      exact .inr (.inl ⟨p, vs, _, v, rfl, rb.int_inv, same_t s h3, h4, h.ret s r4⟩)
    · exact h.elim
  · split at h
    · rename_i d hd
      obtain ⟨p, vs, rfl, h3, r2⟩ := ra.lst_inv
      obtain ⟨v, h4, r4⟩ := r2.atI hd
      exact .inl ⟨p, vs, _, v, rfl, rb.int_inv, SqL.of (s _ _ h3), h4, h.ret s r4⟩
    · exact h.elim
  · split at h
    · rename_i d hd
      obtain ⟨p, vs, rfl, h3, r2⟩ := ra.frz_inv
      obtain ⟨v, h4, r4⟩ := r2.atI hd
      exact .inl ⟨p, vs, _, v, rfl, rb.int_inv, s.seq h3, h4, h.ret s r4⟩
    · exact h.elim

def cutD (xs : List D) (lo hi : Option Int) : List D := (xs.drop (HT.sIx xs.length 0 lo)).take (HT.sIx xs.length xs.length hi - HT.sIx xs.length 0 lo)
theorem Reps.cut {K : PySem.W.Frag} {G : Hp} {vs : List V} {ds : List D} (h : Reps K G vs ds) (lo hi : Option Int) : Reps K G (cutV vs lo hi) (cutD ds lo hi) := by
  unfold cutV cutD
  rw [h.1]
  exact (h.drop _).take _
def slD : D → Option Int → Option Int → R D
  | .tup xs, lo, hi => some (.ok (.tup (cutD xs lo hi)))
  | .lst xs, lo, hi => some (.ok (.lst (cutD xs lo hi)))
  | .frz xs, lo, hi => some (.ok (.lst (cutD xs lo hi)))
  | _, _, _ => none
structure DPO (X : Cx) (e : Option Expr) (f : DEnv → R (Option Int)) : Prop where
  run : ∀ W : WX, Takes X W → ∃ t : TO, PO X e t ∧ ∀ (G0 H0 G : Hp) (δ : DEnv) (σ : L2.St) (H : Hp) (Q : Option Int → Hp → Prop), SRel (kx X) G0 H0 G δ σ H → Ok1 X.mg W (fun _ b c => b = c) G H σ (f δ) Q → t σ H Q
def oNone : DEnv → R (Option Int) := fun _ => some (.ok none)
def toI : D → R (Option Int)
  | .int i => some (.ok (some i))
  | _ => none
def oSome (f : DEnv → R D) : DEnv → R (Option Int) := fun δ => R.bind (f δ) toI
theorem dpo_none : DPO X none oNone := ⟨fun W tk => ⟨_, po_none, fun G0 H0 G δ σ H Q rr h => h.ret rr.gr.gh rfl⟩⟩
theorem dpo_some (ha : DPE X a fa) : DPO X (some a) (oSome fa) := ⟨fun W tk => by
  obtain ⟨ta, pa, qa⟩ := ha.run W tk
  refine ⟨_, po_some pa, fun G0 H0 G δ σ H Q rr h => qa G0 H0 G δ σ H _ rr (Ok1.bind h fun d v G' H' e gr rp h' => ?_)⟩
  cases d <;> simp only [toI] at h' <;> try exact h'.elim
  exact ⟨_, rp.int_inv, h'.ret gr.gh rfl⟩⟩
def eSl (f : DEnv → R D) (l u : DEnv → R (Option Int)) : DEnv → R D := fun δ => R.bind (f δ) fun x => R.bind (l δ) fun lo => R.bind (u δ) fun hi => slD x lo hi
theorem dpe_sl {lo hi : Option Expr} {fl fu : DEnv → R (Option Int)} {p2 : Pos} (ha : DPE X a fa) (hl : DPO X lo fl) (hu : DPO X hi fu) : DPE X (.Subscript a (.Slice lo hi none p2) pos) (eSl fa fl fu) := ⟨fun W tk => by
  obtain ⟨ta, pa, qa⟩ := ha.run W tk
  obtain ⟨tl, pl, ql⟩ := hl.run W tk
  obtain ⟨tu, pu, qu⟩ := hu.run W tk
  refine ⟨_, pe_slice (sl_list.or sl_tupA) pa pl pu, fun G0 H0 G δ σ H Q rr h => ?_⟩
  refine qa G0 H0 G δ σ H _ rr (Ok1.bind h fun x v G1 H1 e1 g1 r1 h1 => ?_)
  refine ql G0 H0 G1 δ σ H1 _ (rr.ext g1) (Ok1.bind h1 fun l l' G2 H2 e2 g2 r2 h2 => ?_)
  refine qu G0 H0 G2 δ σ H2 _ ((rr.ext g1).ext g2) (Ok1.bind h2 fun u u' G3 H3 e3 g3 r3 h3 => ?_)
  subst r2 r3
  have r1 := r1.mono (g2.gg.trans g3.gg)
  cases x <;> simp only [slD] at h3 <;> try exact h3.elim
  · obtain ⟨p, vs, rfl, h4, r4⟩ := r1.tup_inv
    refine .inr ⟨p, vs, rfl, same_t g3.gh h4, fun hw => ?_, fun hw q hq => ?_⟩
    · refine h3.ret g3.gh (.tup' h4 ?_)
      have z := r4.cut l' u'
      have e : cutV vs l' u' = vs := by
        unfold cutV
        rw [hw.1, hw.2]
        simp
      rw [e] at z
      exact z
    · have g4 := Gr.new g3.gh (o := .tup (cutV vs l' u')) hq
      exact h3.retG g4 (.tup' (SqT.of upd_same) ((r4.cut l' u').mono g4.gg))
  · obtain ⟨p, vs, rfl, h4, r4⟩ := r1.lst_inv
    refine .inl ⟨p, vs, rfl, SqL.of (g3.gh _ _ h4), fun q hq => ?_⟩
    have g4 := Gr.new g3.gh (o := .lst (cutV vs l' u')) hq
    exact h3.retG g4 (.lst' upd_same ((r4.cut l' u').mono g4.gg))
  · obtain ⟨p, vs, rfl, h4, r4⟩ := r1.frz_inv
    refine .inl ⟨p, vs, rfl, g3.gh.seq h4, fun q hq => ?_⟩
    have g4 := Gr.new g3.gh (o := .lst (cutV vs l' u')) hq
    exact h3.retG g4 (.lst' upd_same ((r4.cut l' u').mono g4.gg))⟩
def revD : D → R D
  | .lst xs => some (.ok (.lst xs.reverse))
  | _ => none
theorem Reps.reverse {K : PySem.W.Frag} {G : Hp} {vs : List V} {ds : List D} (h : Reps K G vs ds) : Reps K G vs.reverse ds.reverse := by
  refine ⟨by simp [h.1], fun i v d e1 e2 => ?_⟩
  have hi : i < vs.length := by
    have := (List.getElem?_eq_some_iff.mp e1).1
    simpa using this
  rw [List.getElem?_reverse hi] at e1
  rw [List.getElem?_reverse (by rw [← h.1]; exact hi), ← h.1] at e2
  exact h.2 _ v d e1 e2
theorem dpe_rev {k : Nat} {p1 p2 p3 : Pos} (ha : DPE X a fa) : DPE X (.Subscript a (.Slice none none (some (.UnaryOp .USub (.Constant (.int 1) k p1) p2)) p3) pos) (eUn revD fa) := ⟨fun W tk => by
  obtain ⟨ta, pa, qa⟩ := ha.run W tk
  refine ⟨_, pe_revL pa, fun G0 H0 G δ σ H Q rr h => qa G0 H0 G δ σ H _ rr (Ok1.bind h fun d v G' H' e gr rp h' => ?_)⟩
  cases d <;> simp only [revD] at h' <;> try exact h'.elim
  obtain ⟨p, vs, rfl, h4, r4⟩ := rp.lst_inv
  refine ⟨p, vs, rfl, SqL.of (gr.gh _ _ h4), fun q hq => ?_⟩
  have g4 := Gr.new gr.gh (o := .lst vs.reverse) hq
  exact h'.retG g4 (.lst' upd_same (r4.reverse.mono g4.gg))⟩

def CallD (X : Cx) (fn : Value) (g : List D → R D) : Prop := ∃ r : List V → Hp → VK → Prop, CallR X fn r ∧
  ∀ (W : WX) (G H : Hp) (σ : L2.St) (xs : List V) (ds : List D) (Q : VK), Same G H → Reps X.K G xs ds → Ok1 X.mg W (Rep X.K) G H σ (g ds) Q → r xs H Q
def eCB (g : List D → R D) (fa : DEnv → R (List D)) : DEnv → R D := fun δ => R.bind (fa δ) g
variable {x : Str} {p : Pos} {id T : String} {e : Expr} {es : List Expr} {g : List D → R D} {fr : DEnv → R (List D)}
theorem dpe_callB (hc : CallD X (.builtin id) g) (hm : X.mg x = none) (ha : DPA X (e :: es) fr) (hg : Gl X x := by rfl) (hv : bootBuiltins x = some (.builtin id) := by decide +kernel) (hn : x ≠ "__name__" := by decide) (hdb : (x == ("__debug__" : Str)) = false := by decide)
    (he : starEach (e :: es) X.env = (false, eval e X.env) :: starEach es X.env := by rfl) (hpl : (backTo pos (starEach es X.env)).any (·.1) = false := by rfl) : DPE X (.Call (.Name x p) (e :: es) [] pos) (eCB g fr) := ⟨fun W tk => by
  obtain ⟨r, hr, hrg⟩ := hc
  obtain ⟨ta, pa, qa⟩ := ha.run W tk
  exact ⟨_, pe_callB hr hg hm hv pa hn hdb he hpl, fun G0 H0 G δ σ H Q rr h => qa G0 H0 G δ σ H _ rr (Ok1.bind h fun d v G' H' e gr rp h' => hrg W G' H' σ v d Q gr.gh rp h')⟩⟩
theorem dpe_callTy (hc : CallD X (.type T) g) (hm : X.mg x = none) (ha : DPA X (e :: es) fr) (hg : Gl X x := by rfl) (hv : bootBuiltins x = some (.type T) := by decide +kernel) (hn : x ≠ "__name__" := by decide) (hdb : (x == ("__debug__" : Str)) = false := by decide)
    (he : starEach (e :: es) X.env = (false, eval e X.env) :: starEach es X.env := by rfl) (hpl : (backTo pos (starEach es X.env)).any (·.1) = false := by rfl) : DPE X (.Call (.Name x p) (e :: es) [] pos) (eCB g fr) := ⟨fun W tk => by
  obtain ⟨r, hr, hrg⟩ := hc
  obtain ⟨ta, pa, qa⟩ := ha.run W tk
  exact ⟨_, pe_callTy hr hg hm hv pa hn hdb he hpl, fun G0 H0 G δ σ H Q rr h => qa G0 H0 G δ σ H _ rr (Ok1.bind h fun d v G' H' e gr rp h' => hrg W G' H' σ v d Q gr.gh rp h')⟩⟩
theorem pe_callG {r : List V → Hp → VK → Prop} {t : TA} (hc : CallR X (.builtin id) r) (hg : Gl X x) (hm : X.mg x = some (.builtin id)) (ha : PA X (e :: es) t) (hdb : (x == ("__debug__" : Str)) = false := by decide)
    (he : starEach (e :: es) X.env = (false, eval e X.env) :: starEach es X.env := by rfl) (hpl : (backTo pos (starEach es X.env)).any (·.1) = false := by rfl) : PE X (.Call (.Name x p) (e :: es) [] pos) (tCB r t) := by
  refine ⟨fun pins s σ H Q I h => ?_⟩
  refine wpAny_Call_Name_kw (ld_glob I hg hm ?_ hdb)
  exact PyProof.Rows.callWith_builtin1 (thn (ha.run pos pins s σ H _ I h) fun us s1 ⟨vs, H1, I1, r1, q1⟩ => hc pins s1 σ H1 vs us Q I1 r1 q1) he hpl
theorem dpe_callG (hc : CallD X (.builtin id) g) (hm : X.mg x = some (.builtin id)) (ha : DPA X (e :: es) fr) (hg : Gl X x := by rfl) (hdb : (x == ("__debug__" : Str)) = false := by decide)
    (he : starEach (e :: es) X.env = (false, eval e X.env) :: starEach es X.env := by rfl) (hpl : (backTo pos (starEach es X.env)).any (·.1) = false := by rfl) : DPE X (.Call (.Name x p) (e :: es) [] pos) (eCB g fr) := ⟨fun W tk => by
  obtain ⟨r, hr, hrg⟩ := hc
  obtain ⟨ta, pa, qa⟩ := ha.run W tk
  exact ⟨_, pe_callG hr hg hm pa hdb he hpl, fun G0 H0 G δ σ H Q rr h => qa G0 H0 G δ σ H _ rr (Ok1.bind h fun d v G' H' e gr rp h' => hrg W G' H' σ v d Q gr.gh rp h')⟩⟩
theorem dpe_bty {T : String} (hm : X.mg x = none) (hg : Gl X x := by rfl) (hv : bootBuiltins x = some (.type T) := by decide +kernel) (hn : x ≠ "__name__" := by decide) (hdb : (x == ("__debug__" : Str)) = false := by decide) : DPE X (.Name x pos) (eC (.ty T)) :=
  ⟨fun W tk => ⟨_, pe_bltn (v := .ty T) hg hm hv rfl hn hdb, fun G0 H0 G δ σ H Q r h => h.ret r.gr.gh (.ty T)⟩⟩
def lenD : List D → R D
  | [.tup xs] => some (.ok (.int xs.length))
  | [.lst xs] => some (.ok (.int xs.length))
  | [.frz xs] => some (.ok (.int xs.length))
  | [.str z] => if small z.length then some (.ok (.int z.length)) else none
  | _ => none
theorem cd_len : CallD X (.builtin "len") lenD := by
  refine ⟨_, call_len, fun W G H σ xs ds Q s rp h => ?_⟩
  unfold lenD at h
  split at h
  · obtain ⟨v, r, rfl, r1, r2⟩ := rp.cons_inv
    cases r2.nil_inv
    obtain ⟨p, vs, rfl, h3, r3⟩ := r1.tup_inv
    exact ⟨_, vs.length, rfl, .inr ⟨vs, same_t s h3, rfl⟩, by rw [r3.1]; exact h.ret s (.int _)⟩
  · obtain ⟨v, r, rfl, r1, r2⟩ := rp.cons_inv
    cases r2.nil_inv
    obtain ⟨p, vs, rfl, h3, r3⟩ := r1.lst_inv
    exact ⟨_, vs.length, rfl, .inl ⟨vs, SqL.of (s _ _ h3), rfl⟩, by rw [r3.1]; exact h.ret s (.int _)⟩
  · obtain ⟨v, r, rfl, r1, r2⟩ := rp.cons_inv
    cases r2.nil_inv
    obtain ⟨p, vs, rfl, h3, r3⟩ := r1.frz_inv
    exact ⟨_, vs.length, rfl, .inl ⟨vs, s.seq h3, rfl⟩, by rw [r3.1]; exact h.ret s (.int _)⟩
  · obtain ⟨v, r, rfl, r1, r2⟩ := rp.cons_inv
    cases r2.nil_inv
    split at h
    · rename_i hs
      cases r1.str_inv
      exact ⟨_, _, rfl, ⟨small_line hs, rfl⟩, h.ret s (.int _)⟩
    · exact h.elim
  · exact h.elim
def absD : List D → R D
  | [.int i] => some (.ok (.int (if i < 0 then -i else i)))
  | _ => none
theorem one_inv {K : PySem.W.Frag} {G : Hp} {xs : List V} {d : D} (rp : Reps K G xs [d]) : ∃ v, xs = [v] ∧ Rep K G v d := by
  obtain ⟨v, r, rfl, r1, r2⟩ := rp.cons_inv
  cases r2.nil_inv
  exact ⟨v, rfl, r1⟩
theorem two_inv {K : PySem.W.Frag} {G : Hp} {xs : List V} {d d' : D} (rp : Reps K G xs [d, d']) : ∃ v w, xs = [v, w] ∧ Rep K G v d ∧ Rep K G w d' := by
  obtain ⟨v, r, rfl, r1, r2⟩ := rp.cons_inv
  obtain ⟨w, rfl, r3⟩ := one_inv r2
  exact ⟨v, w, rfl, r1, r3⟩
theorem cd_abs : CallD X (.builtin "abs") absD := by
  refine ⟨_, call_abs, fun W G H σ xs ds Q s rp h => ?_⟩
  unfold absD at h
  split at h
  · obtain ⟨v, rfl, r1⟩ := one_inv rp
    cases r1.int_inv
    exact ⟨_, rfl, h.ret s (.int _)⟩
  · exact h.elim
def intsD : List D → Option (List Int)
  | [] => some []
  | .int i :: r => (intsD r).map (i :: ·)
  | _ => none
theorem intsD_inv {K : PySem.W.Frag} {G : Hp} : ∀ {ds : List D} {ns : List Int} {xs : List V}, intsD ds = some ns → Reps K G xs ds → xs = ns.map V.int
  | [], ns, xs, h, r => by
    simp only [intsD, Option.some.injEq] at h
    subst h
    exact r.nil_inv
  | d :: ds, ns, xs, h, r => by
    obtain ⟨x, xr, rfl, r1, r2⟩ := r.cons_inv
    cases d <;> simp only [intsD, reduceCtorEq, Option.map_eq_some_iff] at h
    obtain ⟨ms, h1, rfl⟩ := h
    rw [intsD_inv h1 r2, r1.int_inv]
    rfl
def minL : List Int → Int → Int
  | [], m => m
  | x :: xs, m => minL xs (if x < m then x else m)
def maxL : List Int → Int → Int
  | [], m => m
  | x :: xs, m => maxL xs (if x > m then x else m)
theorem minL_le : ∀ (xs : List Int) (m : Int), minL xs m ≤ m ∧ ∀ y ∈ xs, minL xs m ≤ y
  | [], m => ⟨Int.le_refl _, fun y h => nomatch h⟩
  | x :: xs, m => by
    have ih := minL_le xs (if x < m then x else m)
    have h1 : (if x < m then x else m) ≤ m ∧ (if x < m then x else m) ≤ x := by split <;> omega
    unfold minL
    refine ⟨Int.le_trans ih.1 h1.1, fun y hy => ?_⟩
    rcases List.mem_cons.mp hy with rfl | hy
    · exact Int.le_trans ih.1 h1.2
    · exact ih.2 y hy
theorem minL_mem : ∀ (xs : List Int) (m : Int), minL xs m = m ∨ minL xs m ∈ xs
  | [], m => .inl rfl
  | x :: xs, m => by
    unfold minL
    rcases minL_mem xs (if x < m then x else m) with h | h
    · rw [h]
      split
      · exact .inr (List.mem_cons_self)
      · exact .inl rfl
    · exact .inr (List.mem_cons_of_mem _ h)
theorem maxL_le : ∀ (xs : List Int) (m : Int), m ≤ maxL xs m ∧ ∀ y ∈ xs, y ≤ maxL xs m
  | [], m => ⟨Int.le_refl _, fun y h => nomatch h⟩
  | x :: xs, m => by
    have ih := maxL_le xs (if x > m then x else m)
    have h1 : m ≤ (if x > m then x else m) ∧ x ≤ (if x > m then x else m) := by split <;> omega
    unfold maxL
    refine ⟨Int.le_trans h1.1 ih.1, fun y hy => ?_⟩
    rcases List.mem_cons.mp hy with rfl | hy
    · exact Int.le_trans h1.2 ih.1
    · exact ih.2 y hy
theorem maxL_mem : ∀ (xs : List Int) (m : Int), maxL xs m = m ∨ maxL xs m ∈ xs
  | [], m => .inl rfl
  | x :: xs, m => by
    unfold maxL
    rcases maxL_mem xs (if x > m then x else m) with h | h
    · rw [h]
      split
      · exact .inr (List.mem_cons_self)
      · exact .inl rfl
    · exact .inr (List.mem_cons_of_mem _ h)
def minD : List D → R D
  | [.int i, .int j] => some (.ok (.int (if j < i then j else i)))
  | [.lst xs] => match intsD xs with
    | some (n :: ns) => some (.ok (.int (minL ns n)))
    | _ => none
  | _ => none
def maxD : List D → R D
  | [.int i, .int j] => some (.ok (.int (if j > i then j else i)))
  | [.lst xs] => match intsD xs with
    | some (n :: ns) => some (.ok (.int (maxL ns n)))
    | _ => none
  | _ => none
theorem cd_min (hc : X.calm = true) : CallD X (.builtin "min") minD := by
  refine ⟨_, (call_min2 hc).or (cr_min hc), fun W G H σ xs ds Q s rp h => ?_⟩
  unfold minD at h
  split at h
  · obtain ⟨v, w, rfl, r1, r2⟩ := two_inv rp
    cases r1.int_inv
    cases r2.int_inv
    exact .inl ⟨_, _, rfl, h.ret s (.int _)⟩
  · split at h
    · rename_i xs' n ns h2
      obtain ⟨v, rfl, r1⟩ := one_inv rp
      obtain ⟨p, vs, rfl, h3, r3⟩ := r1.lst_inv
      have e := intsD_inv h2 r3
      subst e
      refine .inr ⟨p, n :: ns, rfl, SqL.of (s _ _ h3), by simp, fun m hm hall => ?_⟩
      have e : m = minL ns n := by
        have h4 := minL_le ns n
        have h5 := minL_mem ns n
        have h6 : m ≤ minL ns n := by
          refine hall _ ?_
          rcases h5 with h5 | h5
          · rw [h5]; exact List.mem_cons_self
          · exact List.mem_cons_of_mem _ h5
        have h7 : minL ns n ≤ m := by
          rcases List.mem_cons.mp hm with h8 | h8
          · rw [h8]; exact h4.1
          · exact h4.2 m h8
        omega
      rw [e]
      exact h.ret s (.int _)
    · exact h.elim
  · exact h.elim
theorem cd_max (hc : X.calm = true) : CallD X (.builtin "max") maxD := by
  refine ⟨_, (call_max2 hc).or (cr_max hc), fun W G H σ xs ds Q s rp h => ?_⟩
  unfold maxD at h
  split at h
  · obtain ⟨v, w, rfl, r1, r2⟩ := two_inv rp
    cases r1.int_inv
    cases r2.int_inv
    exact .inl ⟨_, _, rfl, h.ret s (.int _)⟩
  · split at h
    · rename_i xs' n ns h2
      obtain ⟨v, rfl, r1⟩ := one_inv rp
      obtain ⟨p, vs, rfl, h3, r3⟩ := r1.lst_inv
      have e := intsD_inv h2 r3
      subst e
      refine .inr ⟨p, n :: ns, rfl, SqL.of (s _ _ h3), by simp, fun m hm hall => ?_⟩
      have e : m = maxL ns n := by
        have h4 := maxL_le ns n
        have h5 := maxL_mem ns n
        have h6 : maxL ns n ≤ m := by
          refine hall _ ?_
          rcases h5 with h5 | h5
          · rw [h5]; exact List.mem_cons_self
          · exact List.mem_cons_of_mem _ h5
        have h7 : m ≤ maxL ns n := by
          rcases List.mem_cons.mp hm with h8 | h8
          · rw [h8]; exact h4.1
          · exact h4.2 m h8
        omega
      rw [e]
      exact h.ret s (.int _)
    · exact h.elim
  · exact h.elim
def sumD : List D → R D
  | [.lst xs] => match intsD xs with
    | some ns => some (.ok (.int ns.sum))
    | none => none
  | _ => none
theorem cd_sum (hc : X.calm = true) : CallD X (.builtin "sum") sumD := by
  refine ⟨_, cr_sum hc, fun W G H σ xs ds Q s rp h => ?_⟩
  unfold sumD at h
  split at h
  · split at h
    · rename_i xs' ns h2
      obtain ⟨v, rfl, r1⟩ := one_inv rp
      obtain ⟨p, vs, rfl, h3, r3⟩ := r1.lst_inv
      have e := intsD_inv h2 r3
      subst e
      exact ⟨p, ns, rfl, SqL.of (s _ _ h3), h.ret s (.int _)⟩
    · exact h.elim
  · exact h.elim
def intD : List D → R D
  | [.int i] => some (.ok (.int i))
  | [.bl b] => some (.ok (.int (if b then 1 else 0)))
  | _ => none
theorem cd_int : CallD X (.type "int") intD := by
  refine ⟨_, call_int1, fun W G H σ xs ds Q s rp h => ?_⟩
  unfold intD at h
  split at h
  · obtain ⟨v, rfl, r1⟩ := one_inv rp
    cases r1.int_inv
    exact .inl ⟨_, rfl, h.ret s (.int _)⟩
  · obtain ⟨v, rfl, r1⟩ := one_inv rp
    cases r1.bl_inv
    exact .inr ⟨_, rfl, h.ret s (.int _)⟩
  · exact h.elim
def listD : List D → R D
  | [.tup xs] => some (.ok (.lst xs))
  | [.lst xs] => some (.ok (.lst xs))
  | [.frz xs] => some (.ok (.lst xs))
  | _ => none
theorem cd_list : CallD X (.type "list") listD := by
  refine ⟨_, call_list_of, fun W G H σ xs ds Q s rp h => ?_⟩
  unfold listD at h
  split at h
  · obtain ⟨v, rfl, r1⟩ := one_inv rp
    obtain ⟨p, vs, rfl, h3, r3⟩ := r1.tup_inv
    refine ⟨p, vs, rfl, .inr (same_t s h3), fun l hl => ?_⟩
    have g := Gr.new s (o := .lst vs) hl
    exact h.retG g (.lst' upd_same (r3.mono g.gg))
  · obtain ⟨v, rfl, r1⟩ := one_inv rp
    obtain ⟨p, vs, rfl, h3, r3⟩ := r1.lst_inv
    refine ⟨p, vs, rfl, .inl (SqL.of (s _ _ h3)), fun l hl => ?_⟩
    have g := Gr.new s (o := .lst vs) hl
    exact h.retG g (.lst' upd_same (r3.mono g.gg))
  · obtain ⟨v, rfl, r1⟩ := one_inv rp
    obtain ⟨p, vs, rfl, h3, r3⟩ := r1.frz_inv
    refine ⟨p, vs, rfl, .inl (s.seq h3), fun l hl => ?_⟩
    have g := Gr.new s (o := .lst vs) hl
    exact h.retG g (.lst' upd_same (r3.mono g.gg))
  · exact h.elim
def tupleD : List D → R D
  | [.tup xs] => some (.ok (.tup xs))
  | [.lst xs] => some (.ok (.tup xs))
  | _ => none
theorem cd_tuple : CallD X (.type "tuple") tupleD := by
  refine ⟨_, call_tuple_of, fun W G H σ xs ds Q s rp h => ?_⟩
  unfold tupleD at h
  split at h
  · obtain ⟨v, rfl, r1⟩ := one_inv rp
    obtain ⟨p, vs, rfl, h3, r3⟩ := r1.tup_inv
    exact ⟨p, vs, rfl, .inr ⟨same_t s h3, h.ret s (.tup' h3 r3)⟩⟩
  · obtain ⟨v, rfl, r1⟩ := one_inv rp
    obtain ⟨p, vs, rfl, h3, r3⟩ := r1.lst_inv
    refine ⟨p, vs, rfl, .inl ⟨SqL.of (s _ _ h3), fun l hl => ?_⟩⟩
    have g := Gr.new s (o := .tup vs) hl
    exact h.retG g (.tup' (SqT.of upd_same) (r3.mono g.gg))
  · exact h.elim
end
end DL

namespace DL
open PySem PySem.Spec L2

structure WalkD (K : PySem.W.Frag) (J : It) (G : Hp) (ds : List D) : Prop where
  goes : ∀ (i : Nat) (H : Hp), i < ds.length → Same G H → J.go i H
  stops : ∀ (H : Hp), Same G H → J.stop ds.length H
  yields : ∀ (i : Nat) (H : Hp) (x : V) (H' : Hp) (d : D) (Gx : Hp), Same G Gx → Same Gx H → ds[i]? = some d → J.yld i H x H' → ∃ Gy, Gr Gx H Gy H' ∧ Rep K Gy x d
def OkI (mg : Str → Option Value) (W : WX) (K : PySem.W.Frag) (G H : Hp) (σ : L2.St) (r : R (List D)) (Q : It → Hp → Prop) : Prop :=
  match r with
  | some (.ok ds) => ∀ J G' H', Gr G H G' H' → WalkD K J G' ds → Q J H'
  | some (.error c) => ∀ G' H', Gr G H G' H' → W (cval mg c) none σ H'
  | none => False
structure DPI (X : Cx) (tg iter : Expr) (f : DEnv → R (List D)) : Prop where
  run : ∀ W : WX, Takes X W → ∃ wi : TI, PI X tg iter wi ∧ ∀ (G0 H0 G : Hp) (δ : DEnv) (σ : L2.St) (H : Hp) (Q : It → Hp → Prop), SRel (kx X) G0 H0 G δ σ H → OkI X.mg W X.K G H σ (f δ) Q → wi σ H Q
section
variable {X : Cx} {tg : Expr}
theorem OkI.mono {mg : Str → Option Value} {W : WX} {K : PySem.W.Frag} {G H G' H' : Hp} {σ : L2.St} {r : R (List D)} {Q : It → Hp → Prop} (g : Gr G H G' H') (h : OkI mg W K G H σ r Q) : OkI mg W K G' H' σ r Q := by
  unfold OkI at *
  split at h
  · exact fun J G2 H2 g2 => h J G2 H2 (g.trans g2)
  · exact fun G2 H2 g2 => h G2 H2 (g.trans g2)
  · exact h
theorem OkI.bind {α β : Type} {rel : Hp → β → α → Prop} {mg : Str → Option Value} {W : WX} {K : PySem.W.Frag} {G H : Hp} {σ : L2.St} {r : R α} {g : α → R (List D)} {Q : β → Hp → Prop} {Q2 : It → Hp → Prop} (h : OkI mg W K G H σ (R.bind r g) Q2)
    (k : ∀ d v G' H', r = some (.ok d) → Gr G H G' H' → rel G' v d → OkI mg W K G' H' σ (g d) Q2 → Q v H') : Ok1 mg W rel G H σ r Q := by
  cases r with
  | none => exact h
  | some e =>
    cases e with
    | error c => exact h
    | ok d => exact fun v G' H' gr rp => k d v G' H' rfl gr rp (OkI.mono gr h)
def iSeq (K : PySem.W.Frag) (tl : TE) : TI := fun σ H R => tl σ H fun x H1 => (∃ a, x = .ref a ∧ (∃ xs, SqL K H1 a xs) ∧ R (Itl K a) H1) ∨ (∃ a, x = .ref a ∧ (∃ xs, SqT K H1 a xs) ∧ R (Itt K a) H1)
theorem pi_seq {l : Expr} {tl : TE} (hl : PE X l tl) : PI X tg l (iSeq X.K tl) := by
  refine ⟨fun pins s σ H R I h => ?_⟩
  refine thn (hl.run pins s σ H _ I h) fun v s1 ⟨x, H1, I1, r1, q1⟩ => ?_
  rcases q1 with ⟨a, ea, ⟨xs, hx⟩, q⟩ | ⟨a, ea, ⟨xs, hx⟩, q⟩
  · subst ea
    cases r1
    obtain ⟨its, _, pl, _⟩ := I1.list hx
    refine PySem.wpAny_pyIter_list pl.isList ⟨s1.heap.objs.size, [s1.heap.objs.size], _, _, H1, rfl, I1.kept (t' := s1.toks) fun b o e => Heap.get?_push_of_some _ e, turn_list a _, ⟨_, Heap.get?_push_size _ rfl, rfl, rfl⟩, fun b hb => ?_, q⟩
    obtain rfl : b = s1.heap.objs.size := by simpa using hb
    exact I1.fpOk (Nat.le_refl _) (I1.hok.fresh (Nat.le_refl _))
  · subst ea
    cases r1
    obtain ⟨its, _, pl, _⟩ := I1.tuple hx
    refine PySem.wpAny_pyIter_tuple (show s1.heap.IsTuple a its.toArray from pl) ⟨s1.heap.objs.size, [s1.heap.objs.size], _, _, H1, rfl, I1.kept (t' := s1.toks) fun b o e => Heap.get?_push_of_some _ e, turn_tuple a _, ⟨_, Heap.get?_push_size _ rfl, rfl, rfl⟩, fun b hb => ?_, q⟩
    obtain rfl : b = s1.heap.objs.size := by simpa using hb
    exact I1.fpOk (Nat.le_refl _) (I1.hok.fresh (Nat.le_refl _))
theorem walkD_list {K : PySem.W.Frag} {G : Hp} {a : Addr} {vs : List V} {ds : List D} (h : SqL K G a vs) (r : Reps K G vs ds) : WalkD K (Itl K a) G ds := by
  have w := walk_list (K := K) (a := a) (xs := vs)
  refine ⟨fun i H hi s => w.goes i H (by rw [r.1]; exact hi) (s.seq h), fun H s => by rw [← r.1]; exact w.stops H (s.seq h), fun i H x H' d Gx s1 s2 e y => ?_⟩
  obtain ⟨e1, e2⟩ := w.yields i H x H' (by rw [r.1]; exact (List.getElem?_eq_some_iff.mp e).1) ((s1.trans s2).seq h) y
  subst e1
  exact ⟨Gx, Gr.refl s2, (r.2 i x d e2 e).mono s1⟩
theorem walkD_tup {K : PySem.W.Frag} {G : Hp} {a : Addr} {vs : List V} {ds : List D} (h : SqT K G a vs) (r : Reps K G vs ds) : WalkD K (Itt K a) G ds := by
  have w := walk_tup (K := K) (a := a) (xs := vs)
  refine ⟨fun i H hi s => w.goes i H (by rw [r.1]; exact hi) (same_t s h), fun H s => by rw [← r.1]; exact w.stops H (same_t s h), fun i H x H' d Gx s1 s2 e y => ?_⟩
  obtain ⟨e1, e2⟩ := w.yields i H x H' (by rw [r.1]; exact (List.getElem?_eq_some_iff.mp e).1) (same_t (s1.trans s2) h) y
  subst e1
  exact ⟨Gx, Gr.refl s2, (r.2 i x d e2 e).mono s1⟩
def seqD : D → R (List D)
  | .tup xs => some (.ok xs)
  | .lst xs => some (.ok xs)
  | .frz xs => some (.ok xs)
  | _ => none
def iD (f : DEnv → R D) : DEnv → R (List D) := fun δ => R.bind (f δ) seqD
theorem dpi_seq {l : Expr} {f : DEnv → R D} (hl : DPE X l f) : DPI X tg l (iD f) := ⟨fun W tk => by
  obtain ⟨ta, pa, qa⟩ := hl.run W tk
  refine ⟨_, pi_seq pa, fun G0 H0 G δ σ H Q rr h => qa G0 H0 G δ σ H _ rr (OkI.bind h fun d v G' H' e gr rp h' => ?_)⟩
  cases d <;> simp only [seqD] at h' <;> try exact h'.elim
  · obtain ⟨a, vs, rfl, h3, r3⟩ := rp.tup_inv
    exact .inr ⟨a, rfl, ⟨vs, same_t gr.gh h3⟩, h' _ G' H' (Gr.refl gr.gh) (walkD_tup h3 r3)⟩
  · obtain ⟨a, vs, rfl, h3, r3⟩ := rp.lst_inv
    exact .inl ⟨a, rfl, ⟨vs, SqL.of (gr.gh _ _ h3)⟩, h' _ G' H' (Gr.refl gr.gh) (walkD_list (SqL.of h3) r3)⟩
  · obtain ⟨a, vs, rfl, h3, r3⟩ := rp.frz_inv
    exact .inl ⟨a, rfl, ⟨vs, gr.gh.seq h3⟩, h' _ G' H' (Gr.refl gr.gh) (walkD_list h3 r3)⟩⟩
def upto (lo : Int) (n : Nat) : List D := (List.range n).map fun i => .int (lo + (i : Nat))
theorem upto_length (lo : Int) (n : Nat) : (upto lo n).length = n := by unfold upto; simp
theorem upto_get (lo : Int) (n i : Nat) : (upto lo n)[i]? = if i < n then some (.int (lo + (i : Nat))) else none := by
  unfold upto
  rw [List.getElem?_map]
  by_cases h : i < n
  · rw [List.getElem?_range h, if_pos h]; rfl
  · rw [if_neg h, List.getElem?_eq_none (by simpa using h)]; rfl
theorem walkD_range {K : PySem.W.Frag} {G : Hp} {lo : Int} {n : Nat} : WalkD K (Itr lo n) G (upto lo n) := by
  refine ⟨fun i H hi s => by rw [upto_length] at hi; exact hi, fun H s => by rw [upto_length]; exact Nat.le_refl n, fun i H x H' d Gx s1 s2 e y => ?_⟩
  rw [upto_get] at e
  split at e
  · cases e
    obtain ⟨e1, e2⟩ := y
    subst e1 e2
    exact ⟨Gx, Gr.refl s2, .int _⟩
  · cases e
def rangeD : List D → R (List D)
  | [.int j] => if -(2 ^ 62) ≤ j ∧ j < 2 ^ 62 then some (.ok (upto 0 j.toNat)) else none
  | [.int i, .int j] => if -(2 ^ 62) ≤ i ∧ i < 2 ^ 62 ∧ -(2 ^ 62) ≤ j ∧ j < 2 ^ 62 then some (.ok (upto i (j - i).toNat)) else none
  | _ => none
def iRange (f : DEnv → R (List D)) : DEnv → R (List D) := fun δ => R.bind (f δ) rangeD
variable {a b e e2 : Expr} {fa : DEnv → R (List D)} {p pos : Pos}
def range1D : List D → R (List D)
  | [.int j] => if -(2 ^ 62) ≤ j ∧ j < 2 ^ 62 then some (.ok (upto 0 j.toNat)) else none
  | _ => none
def range2D : List D → R (List D)
  | [.int i, .int j] => if -(2 ^ 62) ≤ i ∧ i < 2 ^ 62 ∧ -(2 ^ 62) ≤ j ∧ j < 2 ^ 62 then some (.ok (upto i (j - i).toNat)) else none
  | _ => none
def iRange1 (f : DEnv → R (List D)) : DEnv → R (List D) := fun δ => R.bind (f δ) range1D
def iRange2 (f : DEnv → R (List D)) : DEnv → R (List D) := fun δ => R.bind (f δ) range2D
theorem dpi_range1 (hm : X.mg "range" = none) (ha : DPA X [a] fa) (hg : Gl X "range" := by rfl) (hs : starEach [a] X.env = [(false, eval a X.env)] := by rfl) : DPI X tg (.Call (.Name "range" p) [a] [] pos) (iRange1 fa) := ⟨fun W tk => by
  obtain ⟨ta, pa, qa⟩ := ha.run W tk
  refine ⟨_, pi_range1 hg hm pa hs, fun G0 H0 G δ σ H Q rr h => qa G0 H0 G δ σ H _ rr (OkI.bind h fun d v G' H' e gr rp h' => ?_)⟩
  unfold range1D at h'
  split at h'
  · split at h'
    · rename_i hc
      obtain ⟨w, rfl, r1⟩ := one_inv rp
      cases r1.int_inv
      exact ⟨_, rfl, hc.1, hc.2, h' _ G' H' (Gr.refl gr.gh) walkD_range⟩
    · exact h'.elim
  · exact h'.elim⟩
theorem dpi_range2 (hm : X.mg "range" = none) (ha : DPA X [a, b] fa) (hg : Gl X "range" := by rfl) (hs : starEach [a, b] X.env = [(false, eval a X.env), (false, eval b X.env)] := by rfl) (hs2 : starEach [b] X.env = [(false, eval b X.env)] := by rfl) :
    DPI X tg (.Call (.Name "range" p) [a, b] [] pos) (iRange2 fa) := ⟨fun W tk => by
  obtain ⟨ta, pa, qa⟩ := ha.run W tk
  refine ⟨_, pi_range2 hg hm pa hs hs2, fun G0 H0 G δ σ H Q rr h => qa G0 H0 G δ σ H _ rr (OkI.bind h fun d v G' H' e gr rp h' => ?_)⟩
  unfold range2D at h'
  split at h'
  · split at h'
    · rename_i hc
      obtain ⟨w, w2, rfl, r1, r2⟩ := two_inv rp
      cases r1.int_inv
      cases r2.int_inv
      exact ⟨_, _, rfl, hc, h' _ G' H' (Gr.refl gr.gh) walkD_range⟩
    · exact h'.elim
  · exact h'.elim⟩
theorem pair_new {K : PySem.W.Frag} {Gx H : Hp} {T : Addr} {x y : V} {d1 d2 : D} (s : Same Gx H) (hT : H T = none) (r1 : Rep K Gx x d1) (r2 : Rep K Gx y d2) :
    ∃ Gy, Gr Gx H Gy (upd H T (.tup [x, y])) ∧ Rep K Gy (.ref T) (.tup [d1, d2]) := by
  have g := Gr.new s (o := .tup [x, y]) hT
  exact ⟨_, g, .tup' (SqT.of upd_same) (Reps.cons (r1.mono g.gg) (Reps.cons (r2.mono g.gg) Reps.nil))⟩
def enumL (ds : List D) : List D := (List.range ds.length).zipWith (fun i d => .tup [.int (i : Nat), d]) ds
theorem enumL_get (ds : List D) (i : Nat) : (enumL ds)[i]? = (ds[i]?).map fun d => .tup [.int (i : Nat), d] := by
  unfold enumL
  rw [List.getElem?_zipWith]
  by_cases h : i < ds.length
  · rw [List.getElem?_range h]
    simp [h]
  · rw [List.getElem?_eq_none (by simpa using h), List.getElem?_eq_none (by simpa using h)]
    rfl
theorem enumL_length (ds : List D) : (enumL ds).length = ds.length := by unfold enumL; simp
def enumD : List D → R (List D)
  | [.lst xs] => some (.ok (enumL xs))
  | _ => none
def iEnumD (f : DEnv → R (List D)) : DEnv → R (List D) := fun δ => R.bind (f δ) enumD
theorem dpi_enum {elts : List Expr} {kk : Nat} {tpos : Pos} (hm : X.mg "enumerate" = none) (ha : DPA X [e] fa) (hg : Gl X "enumerate" := by rfl) (hs : starEach [e] X.env = [(false, eval e X.env)] := by rfl) :
    DPI X (.Tuple elts kk tpos) (.Call (.Name "enumerate" p) [e] [] pos) (iEnumD fa) := ⟨fun W tk => by
  obtain ⟨ta, pa, qa⟩ := ha.run W tk
  refine ⟨_, pi_enum hg hm pa hs, fun G0 H0 G δ σ H Q rr h => qa G0 H0 G δ σ H _ rr (OkI.bind h fun d v G' H' e gr rp h' => ?_)⟩
  unfold enumD at h'
  split at h'
  · rename_i xs
    obtain ⟨w, rfl, r1⟩ := one_inv rp
    obtain ⟨a, vs, rfl, h3, r3⟩ := r1.lst_inv
    refine ⟨a, vs, rfl, SqL.of (gr.gh _ _ h3), h' _ G' H' (Gr.refl gr.gh) ?_⟩
    have w := walk_enum (K := X.K) (a := a) (xs := vs)
    refine ⟨fun i H hi s => w.goes i H (by rw [enumL_length] at hi; rw [r3.1]; exact hi) (SqL.of (s _ _ h3)), fun H s => by rw [enumL_length, ← r3.1]; exact w.stops H (SqL.of (s _ _ h3)), fun i H x H' d Gx s1 s2 e y => ?_⟩
    rw [enumL_get] at e
    obtain ⟨d0, e0, rfl⟩ := Option.map_eq_some_iff.mp e
    obtain ⟨T, x1, y1, rfl, hT, rfl, e3, e4⟩ := w.yields i H x H' (by rw [r3.1]; exact (List.getElem?_eq_some_iff.mp e0).1) (SqL.of ((s1.trans s2) _ _ h3)) y
    cases e3
    exact pair_new s2 hT (.int _) ((r3.2 i y1 d0 e4 e0).mono s1)
  · exact h'.elim⟩
def zipL (xs ys : List D) : List D := List.zipWith (fun x y => .tup [x, y]) xs ys
theorem zipL_length (xs ys : List D) : (zipL xs ys).length = min xs.length ys.length := by unfold zipL; simp
theorem zipL_get (xs ys : List D) (i : Nat) {d : D} (h : (zipL xs ys)[i]? = some d) : ∃ x y, xs[i]? = some x ∧ ys[i]? = some y ∧ d = .tup [x, y] := by
  unfold zipL at h
  rw [List.getElem?_zipWith] at h
  split at h
  · rename_i x y h1 h2
    exact ⟨x, y, h1, h2, (Option.some.inj h).symm⟩
  · cases h
def zipD : List D → R (List D)
  | [.lst xs, .lst ys] => some (.ok (zipL xs ys))
  | [.tup xs, .tup ys] => some (.ok (zipL xs ys))
  | _ => none
def iZipD (f : DEnv → R (List D)) : DEnv → R (List D) := fun δ => R.bind (f δ) zipD
theorem dpi_zip {elts : List Expr} {kk : Nat} {tpos : Pos} (hm : X.mg "zip" = none) (ha : DPA X [e, e2] fa) (hg : Gl X "zip" := by rfl)
    (hs : starEach [e, e2] X.env = (false, eval e X.env) :: starEach [e2] X.env := by rfl) (hpl : (backTo pos (starEach [e2] X.env)).any (·.1) = false := by rfl) :
    DPI X (.Tuple elts kk tpos) (.Call (.Name "zip" p) [e, e2] [] pos) (iZipD fa) := ⟨fun W tk => by
  obtain ⟨ta, pa, qa⟩ := ha.run W tk
  refine ⟨_, RZ.pi_zipA hg hm pa hs hpl, fun G0 H0 G δ σ H Q rr h => qa G0 H0 G δ σ H _ rr (OkI.bind h fun d v G' H' e gr rp h' => ?_)⟩
  unfold zipD at h'
  split at h'
  · rename_i xs ys
    obtain ⟨w, w2, rfl, r1, r2⟩ := two_inv rp
    obtain ⟨a, vs, rfl, h3, r3⟩ := r1.lst_inv
    obtain ⟨b, ws, rfl, h4, r4⟩ := r2.lst_inv
    refine ⟨a, b, vs, ws, rfl, .inl ⟨SqL.of (gr.gh _ _ h3), SqL.of (gr.gh _ _ h4), h' _ G' H' (Gr.refl gr.gh) ?_⟩⟩
    have w := walk_zip (K := X.K) (a := a) (b := b) (xs := vs) (ys := ws) rfl
    refine ⟨fun i H hi s => w.goes i H (by rw [zipL_length] at hi; rw [r3.1, r4.1]; exact hi) ⟨SqL.of (s _ _ h3), SqL.of (s _ _ h4)⟩, fun H s => by rw [zipL_length, ← r3.1, ← r4.1]; exact w.stops H ⟨SqL.of (s _ _ h3), SqL.of (s _ _ h4)⟩, fun i H x H' d Gx s1 s2 e y => ?_⟩
    obtain ⟨d1, d2, e1, e2, rfl⟩ := zipL_get xs ys i e
    have hi : i < min vs.length ws.length := by
      have h1 := (List.getElem?_eq_some_iff.mp e1).1
      have h2 := (List.getElem?_eq_some_iff.mp e2).1
      rw [r3.1, r4.1]; omega
    obtain ⟨T, x1, y1, rfl, hT, rfl, e3, e4⟩ := w.yields i H x H' hi ⟨SqL.of ((s1.trans s2) _ _ h3), SqL.of ((s1.trans s2) _ _ h4)⟩ y
    exact pair_new s2 hT ((r3.2 i x1 d1 e3 e1).mono s1) ((r4.2 i y1 d2 e4 e2).mono s1)
  · rename_i xs ys
    obtain ⟨w, w2, rfl, r1, r2⟩ := two_inv rp
    obtain ⟨a, vs, rfl, h3, r3⟩ := r1.tup_inv
    obtain ⟨b, ws, rfl, h4, r4⟩ := r2.tup_inv
    refine ⟨a, b, vs, ws, rfl, .inr ⟨same_t gr.gh h3, same_t gr.gh h4, h' _ G' H' (Gr.refl gr.gh) ?_⟩⟩
    refine ⟨fun i H hi s => ?_, fun H s => ?_, fun i H x H' d Gx s1 s2 e y => ?_⟩
    · rw [zipL_length] at hi
      have h1 : i < vs.length := by rw [r3.1]; omega
      have h2 : i < ws.length := by rw [r4.1]; omega
      exact ⟨vs, ws, vs[i], ws[i], same_t s h3, same_t s h4, by simp [h1], by simp [h2]⟩
    · refine ⟨vs, ws, same_t s h3, same_t s h4, ?_⟩
      rw [zipL_length, r3.1, r4.1]; omega
    · obtain ⟨d1, d2, e1, e2, rfl⟩ := zipL_get xs ys i e
      obtain ⟨T, x1, y1, rfl, hT, rfl, e3, e4⟩ := y
      exact pair_new s2 hT ((r3.2 i x1 d1 (e3 _ (same_t (s1.trans s2) h3)) e1).mono s1) ((r4.2 i y1 d2 (e4 _ (same_t (s1.trans s2) h4)) e2).mono s1)
  · exact h'.elim⟩
end

def NoOwn (δ : DEnv) : Prop := ∀ (i : Nat) (ds : List D), δ[i]? ≠ some (some (.own ds))
structure DPG (X : Cx) (tg : Expr) (ss : List Nat) (g : D → DEnv → Option DEnv) : Prop where
  run : ∃ t : TG, PG X tg t ∧ ∀ (G0 H0 G : Hp) (δ : DEnv) (σ : L2.St) (H : Hp) (v : V) (d : D) (Q : L2.St → Hp → Prop), SRel (kx X) G0 H0 G δ σ H → Rep X.K G v d →
    (match g d δ with
      | some δ' => ∀ σ', SRel (kx X) G0 H0 G δ' σ' H → σ'.length = σ.length → (∀ j, j ∉ ss → σ'[j]? = σ[j]?) → Q σ' H
      | none => False) → t v σ H Q
  noown : ∀ d δ δ', g d δ = some δ' → NoOwn δ → NoOwn δ'
structure DPGs (X : Cx) (tgs : List Expr) (ss : List Nat) (g : List D → DEnv → Option DEnv) : Prop where
  run : ∃ t : TGs, PGs X tgs t ∧ ∀ (G0 H0 G : Hp) (δ : DEnv) (σ : L2.St) (H : Hp) (vs : List V) (ds : List D) (Q : L2.St → Hp → Prop), SRel (kx X) G0 H0 G δ σ H → Reps X.K G vs ds →
    (match g ds δ with
      | some δ' => ∀ σ', SRel (kx X) G0 H0 G δ' σ' H → σ'.length = σ.length → (∀ j, j ∉ ss → σ'[j]? = σ[j]?) → Q σ' H
      | none => False) → t vs σ H Q
  noown : ∀ ds δ δ', g ds δ = some δ' → NoOwn δ → NoOwn δ'
def gN (i : Nat) : D → DEnv → Option DEnv := fun d δ => some (δ.set i (some (.val d)))
def gsNil : List D → DEnv → Option DEnv := fun ds δ => match ds with
  | [] => some δ
  | _ => none
def gsCons (g : D → DEnv → Option DEnv) (gs : List D → DEnv → Option DEnv) : List D → DEnv → Option DEnv := fun ds δ => match ds with
  | d :: r => match g d δ with
    | some δ' => gs r δ'
    | none => none
  | [] => none
def gT (gs : List D → DEnv → Option DEnv) : D → DEnv → Option DEnv := fun d δ => match d with
  | .tup xs => gs xs δ
  | _ => none
section
variable {X : Cx} {pos : Pos}
theorem dpg_name {i : Nat} {x : Str} (hN : X.N.Nodup) (hi : X.N[i]? = some x := by rfl) (hx : Loc X.env.scope x := by first | exact Or.inl rfl | exact Or.inr rfl) (hf : X.fn x = true ∨ X.env.scope.names.lookup x = some .local := by first | exact .inl rfl | exact .inr rfl | assumption) : DPG X (.Name x pos) [i] (gN i) :=
  ⟨⟨gName i, pg_name hN hi hx hf, fun G0 H0 G δ σ H v d Q rr rp h => h _ (rr.setVal rp) (by simp) (fun j hj => by rw [List.getElem?_set_ne (fun e => hj (by simp [e]))])⟩, fun d δ δ' h n j ds e => by
    simp only [gN, Option.some.injEq] at h
    subst h
    by_cases hj : i = j
    · subst hj
      by_cases hl : i < δ.length
      · rw [List.getElem?_set_self hl] at e; cases e
      · rw [List.getElem?_eq_none (by simpa using hl)] at e; cases e
    · rw [List.getElem?_set_ne hj] at e
      exact n j ds e⟩
theorem dpgs_nil : DPGs X [] [] gsNil := ⟨⟨gNil, pgs_nil, fun G0 H0 G δ σ H vs ds Q rr rp h => by
  cases ds with
  | nil => exact ⟨rp.nil_inv, h σ rr rfl fun _ _ => rfl⟩
  | cons d r => exact h.elim⟩, fun ds δ δ' h n => by
  cases ds with
  | nil => simp only [gsNil, Option.some.injEq] at h; subst h; exact n
  | cons d r => simp [gsNil] at h⟩
theorem dpgs_cons {e : Expr} {es : List Expr} {s1 s2 : List Nat} {g : D → DEnv → Option DEnv} {gs : List D → DEnv → Option DEnv} (h1 : DPG X e s1 g) (h2 : DPGs X es s2 gs)
    (hs : (assignEach (e :: es) X.env).map (·.2) = assign e X.env :: (assignEach es X.env).map (·.2) := by rfl) : DPGs X (e :: es) (s1 ++ s2) (gsCons g gs) := by
  obtain ⟨t1, p1, q1⟩ := h1.run
  obtain ⟨t2, p2, q2⟩ := h2.run
  refine ⟨⟨_, pgs_cons p1 p2 hs, fun G0 H0 G δ σ H vs ds Q rr rp h => ?_⟩, fun ds δ δ' h n => by
    cases ds with
    | nil => simp [gsCons] at h
    | cons d r =>
      simp only [gsCons] at h
      cases e1 : g d δ with
      | none => simp only [e1, reduceCtorEq] at h
      | some δ1 =>
        simp only [e1] at h
        exact h2.noown r δ1 δ' h (h1.noown d δ δ1 e1 n)⟩
  cases ds with
  | nil => exact h.elim
  | cons d r =>
    obtain ⟨v, vr, rfl, r1, r2⟩ := rp.cons_inv
    refine ⟨v, vr, rfl, q1 G0 H0 G δ σ H v d _ rr r1 ?_⟩
    simp only [gsCons] at h
    cases e1 : g d δ with
    | none => rw [e1] at h; exact h.elim
    | some δ1 =>
      rw [e1] at h
      intro σ1 rr1 l1 k1
      refine q2 G0 H0 G δ1 σ1 H vr r Q rr1 r2 ?_
      cases e2 : gs r δ1 with
      | none => simp only [e2] at h
      | some δ2 =>
        simp only [e2] at h
        exact fun σ2 rr2 l2 k2 => h σ2 rr2 (l2.trans l1) fun j hj => by
          simp only [List.mem_append, not_or] at hj
          rw [k2 j hj.2, k1 j hj.1]
theorem dpg_tup {es : List Expr} {k : Nat} {ss : List Nat} {gs : List D → DEnv → Option DEnv} (hc : X.calm = true) (h : DPGs X es ss gs) (n : Nat) (hl : ∀ ds δ, ds.length ≠ n → gs ds δ = none) (hn : (assignEach es X.env).length = n := by rfl)
    (hst : (assignEach es X.env).findIdx? (·.1) = none := by rfl) : DPG X (.Tuple es k pos) ss (gT gs) := by
  obtain ⟨t, p, q⟩ := h.run
  refine ⟨⟨_, pg_tup hc p hn hst, fun G0 H0 G δ σ H v d Q rr rp h => ?_⟩, fun d δ δ' h' n => by
    cases d <;> simp only [gT, reduceCtorEq] at h'
    exact h.noown _ δ δ' h' n⟩
  cases d <;> simp only [gT] at h <;> try exact h.elim
  rename_i xs
  obtain ⟨a, vs, rfl, h3, r3⟩ := rp.tup_inv
  refine ⟨a, vs, rfl, same_t rr.gr.gh h3, ?_, q G0 H0 G δ σ H vs xs Q rr r3 h⟩
  rw [r3.1]
  by_cases hx : xs.length = n
  · exact hx
  · rw [hl xs δ hx] at h; exact h.elim
end

def wipeD (δ : DEnv) : List Nat → DEnv
  | [] => δ
  | v :: vs => (wipeD δ vs).set v none
theorem wipeD_length (δ : DEnv) : ∀ vs : List Nat, (wipeD δ vs).length = δ.length
  | [] => rfl
  | v :: vs => by unfold wipeD; rw [List.length_set, wipeD_length δ vs]
theorem wipeD_some {δ : DEnv} {i : Nat} {x : DS} : ∀ {vs : List Nat}, (wipeD δ vs)[i]? = some (some x) → δ[i]? = some (some x) ∧ i ∉ vs
  | [], h => ⟨h, by simp⟩
  | v :: vs, h => by
    unfold wipeD at h
    by_cases hi : v = i
    · subst hi
      by_cases hv : v < (wipeD δ vs).length
      · rw [List.getElem?_set_self hv] at h; cases h
      · rw [List.getElem?_eq_none (by simpa using hv)] at h; cases h
    · rw [List.getElem?_set_ne hi] at h
      obtain ⟨h1, h2⟩ := wipeD_some h
      exact ⟨h1, by simp only [List.mem_cons, not_or]; exact ⟨fun e => hi e.symm, h2⟩⟩
theorem wipe_out {σ : L2.St} {i : Nat} : ∀ {vs : List Nat}, i ∉ vs → (wipe σ vs)[i]? = σ[i]?
  | [], _ => rfl
  | v :: vs, h => by
    simp only [List.mem_cons, not_or] at h
    unfold wipe
    rw [List.getElem?_set_ne (Ne.symm h.1)]
    exact wipe_out h.2
theorem wipe_in {σ : L2.St} {i : Nat} : ∀ {vs : List Nat}, i ∈ vs → (wipe σ vs)[i]? = if i < σ.length then some none else none
  | v :: vs, h => by
    unfold wipe
    by_cases e : v = i
    · subst e
      by_cases hl : v < σ.length
      · rw [List.getElem?_set_self (by rw [wipe_length]; exact hl), if_pos hl]
      · rw [List.getElem?_eq_none (by rw [List.length_set, wipe_length]; omega), if_neg hl]
    · rw [List.getElem?_set_ne e]
      rcases List.mem_cons.mp h with h | h
      · exact absurd h.symm e
      · exact wipe_in h
theorem wipe_same {σ σ' : L2.St} {vs : List Nat} (hl : σ'.length = σ.length) (h : ∀ j, j ∉ vs → σ'[j]? = σ[j]?) : wipe σ' vs = wipe σ vs := by
  apply List.ext_getElem?
  intro j
  by_cases hj : j ∈ vs
  · rw [wipe_in hj, wipe_in hj, hl]
  · rw [wipe_out hj, wipe_out hj, h j hj]
theorem wipe_wipe (σ : L2.St) (vs : List Nat) : wipe (wipe σ vs) vs = wipe σ vs := wipe_same (wipe_length σ vs) fun j hj => wipe_out hj
theorem SRel.wipe {K : KP} {G0 H0 G H : Hp} {δ : DEnv} {σ : L2.St} (r : SRel K G0 H0 G δ σ H) (vs : List Nat) : SRel K G0 H0 G (wipeD δ vs) (L2.wipe σ vs) H := by
  have out : ∀ (i : Nat) (s : DS), (wipeD δ vs)[i]? = some (some s) → δ[i]? = some (some s) ∧ (L2.wipe σ vs)[i]? = σ[i]? := fun i s e => by
    obtain ⟨h1, h2⟩ := wipeD_some e
    exact ⟨h1, wipe_out h2⟩
  refine ⟨by rw [wipeD_length, wipe_length]; exact r.len, r.gr, fun i s e => ?_, fun i j ds es a hne e1 e2 e3 => ?_⟩
  · obtain ⟨h1, h2⟩ := out i s e
    rw [h2]
    exact r.slot i s h1
  · obtain ⟨h1, k1⟩ := out i _ e1
    obtain ⟨h2, k2⟩ := out j _ e2
    rw [k1] at e3
    rw [k2]
    exact r.own i j ds es a hne h1 h2 e3
def strip (δ : DEnv) : DEnv := δ.map fun o => match o with
  | some (.val d) => some (.val d)
  | _ => none
theorem strip_some {δ : DEnv} {i : Nat} {s : DS} (h : (strip δ)[i]? = some (some s)) : δ[i]? = some (some s) ∧ ∃ d, s = .val d := by
  unfold strip at h
  rw [List.getElem?_map] at h
  cases e : δ[i]? with
  | none => rw [e] at h; cases h
  | some o =>
    rw [e] at h
    cases o with
    | none => cases h
    | some s' =>
      cases s' with
      | val d => cases h; exact ⟨rfl, d, rfl⟩
      | own xs => cases h
      | exc c => cases h
theorem strip_noOwn (δ : DEnv) : NoOwn (strip δ) := fun i ds e => by
  obtain ⟨_, d, h⟩ := strip_some e
  cases h
theorem wipe_noOwn {δ : DEnv} (h : NoOwn δ) (vs : List Nat) : NoOwn (wipeD δ vs) := fun i ds e => h i ds (wipeD_some e).1
theorem SRel.strip {K : KP} {P : Addr → Str → Prop} {G0 H0 G H : Hp} {δ : DEnv} {σ : L2.St} (r : SRel K G0 H0 G δ σ H) : SRel ⟨K.K, P⟩ G0 H0 G (DL.strip δ) σ H := by
  refine ⟨by unfold DL.strip; simpa using r.len, r.gr, fun i s e => ?_, fun i j ds es a hne e1 => ?_⟩
  · obtain ⟨h, d, rfl⟩ := strip_some e
    exact r.slot i _ h
  · obtain ⟨h, d, q⟩ := strip_some e1
    cases q
abbrev kb (X : Cx) : KP := ⟨X.K, HeldE X.mg []⟩
def lcD (g : D → DEnv → Option DEnv) (t : DEnv → R Bool) (e : DEnv → R D) (δ : DEnv) : List D → Option (List D)
  | [] => some []
  | d :: ds => match g d δ with
    | none => none
    | some δ1 => match t δ1 with
      | some (.ok true) => match e δ1 with
        | some (.ok y) => match lcD g t e δ ds with
          | some ys => some (y :: ys)
          | none => none
        | _ => none
      | some (.ok false) => lcD g t e δ ds
      | _ => none
def tYesD : DEnv → R Bool := fun _ => some (.ok true)
def eLC (src : DEnv → R (List D)) (vs : List Nat) (g : D → DEnv → Option DEnv) (t : DEnv → R Bool) (e : DEnv → R D) : DEnv → R D := fun δ => R.bind (src δ) fun ds => if small ds.length then match lcD g t e (wipeD (strip δ) vs) ds with
  | some ys => some (.ok (.lst ys))
  | none => none else none
structure DPTs (X : Cx) (ifs : List Expr) (f : DEnv → R Bool) : Prop where
  run : ∀ W : WX, Takes X W → ∃ te : TT, PTs X ifs te ∧ ∀ (G0 H0 G : Hp) (δ : DEnv) (σ : L2.St) (H : Hp) (Q : Bool → Hp → Prop), SRel (kx X) G0 H0 G δ σ H → Ok1 X.mg W (fun _ b c => b = c) G H σ (f δ) Q → te σ H Q
section
variable {X : Cx} {pos : Pos}
theorem dpts_nil : DPTs X [] tYesD := ⟨fun W tk => ⟨_, pts_nil, fun G0 H0 G δ σ H Q rr h => h.ret rr.gr.gh rfl⟩⟩
theorem dpts_one {c : Expr} {f : DEnv → R Bool} (h : DPT X c f) : DPTs X [c] f := ⟨fun W tk => by
  obtain ⟨ta, pa, qa⟩ := h.run W tk
  exact ⟨_, pts_one pa, qa⟩⟩
theorem takesB {X : Cx} {s : Shared} {H : Hp} {scope : Scope} {cenv : Env} {fp : List Addr} : Takes (X.blk s H scope cenv fp) (fun _ _ _ _ => False) := takes0
theorem lcD_len {g : D → DEnv → Option DEnv} {t : DEnv → R Bool} {e : DEnv → R D} {δ : DEnv} : ∀ {ds ys : List D}, lcD g t e δ ds = some ys → ys.length ≤ ds.length
  | [], ys, h => by simp only [lcD, Option.some.injEq] at h; subst h; exact Nat.le_refl _
  | d :: ds, ys, h => by
    unfold lcD at h
    split at h
    · cases h
    · split at h
      · split at h
        · split at h
          · rename_i zs hz
            cases h
            have := lcD_len hz
            simp only [List.length_cons]; omega
          · cases h
        · cases h
      · have := lcD_len h
        simp only [List.length_cons]; omega
      · cases h
theorem lc_gen {K : KP} {mg : Str → Option Value} {G0 H0 G H1 : Hp} {δ : DEnv} {σ : L2.St} {Dn : Addr} {J : It} {ds ys done0 : List D} {acc0 : List V} {g : TG} {tt : TT} {te : TE} {vs : List Nat} {gD : D → DEnv → Option DEnv} {tD : DEnv → R Bool} {eD : DEnv → R D} {ss : List Nat}
    (rr : SRel K G0 H0 G δ σ H1) (w : WalkD K.K J G ds) (hD : H1 Dn = none) (r0 : Reps K.K G acc0 done0) (hs : done0.length + ds.length ≤ 2000000) (hss : ∀ j ∈ ss, j ∈ vs)
    (hg : ∀ (G : Hp) (δ : DEnv) (σ : L2.St) (H : Hp) (v : V) (d : D) (Q : L2.St → Hp → Prop), SRel K G0 H0 G δ σ H → Rep K.K G v d →
      (match gD d δ with
        | some δ' => ∀ σ', SRel K G0 H0 G δ' σ' H → σ'.length = σ.length → (∀ j, j ∉ ss → σ'[j]? = σ[j]?) → Q σ' H
        | none => False) → g v σ H Q)
    (ht : ∀ (G : Hp) (δ : DEnv) (σ : L2.St) (H : Hp) (Q : Bool → Hp → Prop), SRel K G0 H0 G δ σ H → Ok1 mg (fun _ _ _ _ => False) (fun _ b c => b = c) G H σ (tD δ) Q → tt σ H Q)
    (he : ∀ (G : Hp) (δ : DEnv) (σ : L2.St) (H : Hp) (Q : VK), SRel K G0 H0 G δ σ H → Ok1 mg (fun _ _ _ _ => False) (Rep K.K) G H σ (eD δ) Q → te σ H Q)
    (hy : lcD gD tD eD (wipeD δ vs) ds = some ys) {Qd : Hp → Prop} (hd : ∀ G' H' zs, Gr G H1 G' H' → H' Dn = some (.lst zs) → G' Dn = none → Reps K.K G' zs (done0 ++ ys) → Qd H') :
    ∃ W : Nat → Nat → Hp → Prop, (∃ m, W 0 m (upd H1 Dn (.lst acc0))) ∧ ∀ i m H, W i m H →
      (J.stop i H ∧ Qd H) ∨ (J.go i H ∧ ∃ Nx : Hp → Prop, (∀ H', Nx H' → ∃ m', m' < m ∧ W (i + 1) m' H') ∧ ∀ x H', J.yld i H x H' → g x (wipe σ vs) H' fun σ2 H2 => wipe σ2 vs = wipe σ vs ∧ tt σ2 H2 fun b H3 =>
        if b = true then te σ2 H3 fun y H4 => ∃ acc, H4 Dn = some (.lst acc) ∧ acc.length < sizeLine ∧ Nx (upd H4 Dn (.lst (acc ++ [y]))) else Nx H3) := by
  -- at turn i: what is made so far, and what the rest will make
  let Pv : Nat → Hp → Prop := fun i H => ∃ (Gi : Hp) (acc : List V) (done rest : List D), Gr G H1 Gi H ∧ Gi Dn = none ∧ H Dn = some (.lst acc) ∧ Reps K.K Gi acc done ∧ done.length ≤ done0.length + i ∧ lcD gD tD eD (wipeD δ vs) (ds.drop i) = some rest ∧ done0 ++ ys = done ++ rest
  have hszl := hs
  refine ⟨fun i m H => m = ds.length - i ∧ i ≤ ds.length ∧ Pv i H, ⟨ds.length, by simp, Nat.zero_le _, G, acc0, done0, ys, Gr.newH rr.gr.gh hD, rr.gr.gh.free hD, upd_same, r0, Nat.le_refl _, by simpa using hy, rfl⟩, ?_⟩
  rintro i m H ⟨rfl, hi, Gi, acc, done, rest, gr, hGD, hHD, hrep, hdl, hrest, hys⟩
  have sG : Same G H := gr.gg.trans gr.gh
  by_cases hlt : i < ds.length
  · refine .inr ⟨w.goes i H hlt sG, Pv (i + 1), fun H' p' => ⟨ds.length - (i + 1), by omega, rfl, hlt, p'⟩, fun x H' y => ?_⟩
    have hdi : ds[i]? = some ds[i] := by simp [hlt]
    obtain ⟨Gy, gy, ry⟩ := w.yields i H x H' ds[i] Gi gr.gg gr.gh hdi y
    have hGyD : Gy Dn = none := by
      cases z : Gy Dn with
      | none => rfl
      | some o => exact absurd (gy.fr _ o z hGD) (by rw [hHD]; exact fun z => nomatch z)
    have gr2 := gr.trans gy
    have rr2 := (rr.ext gr2).wipe vs
    rw [List.drop_eq_getElem_cons hlt] at hrest
    unfold lcD at hrest
    refine hg Gy (wipeD δ vs) (wipe σ vs) H' x ds[i] _ rr2 ry ?_
    cases eg : gD ds[i] (wipeD δ vs) with
    | none => simp only [eg, reduceCtorEq] at hrest
    | some δ1 =>
      simp only [eg] at hrest ⊢
      intro σ2 rr3 l3 k3
      have hw : wipe σ2 vs = wipe σ vs := by
        rw [← wipe_wipe σ vs]
        exact wipe_same l3 fun j hj => k3 j fun z => hj (hss j z)
      refine ⟨hw, ht Gy δ1 σ2 H' _ rr3 ?_⟩
      cases et : tD δ1 with
      | none => simp only [et, reduceCtorEq] at hrest
      | some rt =>
        cases rt with
        | error c => simp only [et, reduceCtorEq] at hrest
        | ok bt =>
          intro v Gt Ht gt ev
          subst ev
          have hGtD : Gt Dn = none := by
            cases z : Gt Dn with
            | none => rfl
            | some o =>
              have h2 := gt.fr _ o z hGyD
              have h3 : H' Dn = some (.lst acc) := gy.hh _ _ hHD
              rw [h3] at h2; cases h2
          cases v with
          | false =>
            simp only [et] at hrest
            show (if false = true then _ else _)
            rw [if_neg Bool.false_ne_true]
            exact ⟨Gt, acc, done, rest, gr2.trans gt, hGtD, gt.hh _ _ (gy.hh _ _ hHD), hrep.mono (gy.gg.trans gt.gg), by omega, hrest, hys⟩
          | true =>
            simp only [et] at hrest
            show (if true = true then _ else _)
            rw [if_pos rfl]
            refine he Gt δ1 σ2 Ht _ (rr3.ext gt) ?_
            cases ee : eD δ1 with
            | none => simp only [ee, reduceCtorEq] at hrest
            | some re =>
              cases re with
              | error c => simp only [ee, reduceCtorEq] at hrest
              | ok yv =>
                simp only [ee] at hrest
                intro v Ge He ge rv
                have hGeD : Ge Dn = none := by
                  cases z : Ge Dn with
                  | none => rfl
                  | some o =>
                    have h2 := ge.fr _ o z hGtD
                    have h3 : Ht Dn = some (.lst acc) := gt.hh _ _ (gy.hh _ _ hHD)
                    rw [h3] at h2; cases h2
                have hHe : He Dn = some (.lst acc) := ge.hh _ _ (gt.hh _ _ (gy.hh _ _ hHD))
                have gall := (gr2.trans gt).trans ge
                have hacc : acc.length < sizeLine := by
                  have h1 := hrep.1
                  rw [sizeLine_eq]; omega
                refine ⟨acc, hHe, hacc, ?_⟩
                split at hrest
                · rename_i ws hws
                  cases hrest
                  refine ⟨Ge, acc ++ [v], done ++ [yv], ws, ?_, hGeD, upd_same, (hrep.mono (gy.gg.trans (gt.gg.trans ge.gg))).append (Reps.cons rv Reps.nil), by simp; omega, hws, by rw [hys]; simp⟩
                  have n1 : ∀ a o, H1 a = some o → a ≠ Dn := fun a o z => ne_of_none z hD
                  have n2 : ∀ a o, Ge a = some o → a ≠ Dn := fun a o z => ne_of_none z hGeD
                  exact ⟨fun a o z => by rw [upd_ne (n1 a o z)]; exact gall.hh a o z, gall.gg, fun a o z => by rw [upd_ne (n2 a o z)]; exact ge.gh a o z, gall.fr⟩
                · cases hrest
  · have e : i = ds.length := by omega
    subst e
    refine .inl ⟨w.stops H sG, ?_⟩
    rw [List.drop_length] at hrest
    simp only [lcD, Option.some.injEq] at hrest
    subst hrest
    rw [List.append_nil] at hys
    rw [← hys] at hrep
    exact hd Gi H acc gr hHD hGD hrep
theorem lc_sat {K : KP} {mg : Str → Option Value} {G0 H0 G H1 : Hp} {δ : DEnv} {σ : L2.St} {Dn : Addr} {J : It} {ds ys : List D} {g : TG} {tt : TT} {te : TE} {vs : List Nat} {gD : D → DEnv → Option DEnv} {tD : DEnv → R Bool} {eD : DEnv → R D} {ss : List Nat}
    (rr : SRel K G0 H0 G δ σ H1) (w : WalkD K.K J G ds) (hD : H1 Dn = none) (hs : small ds.length = true) (hss : ∀ j ∈ ss, j ∈ vs)
    (hg : ∀ (G : Hp) (δ : DEnv) (σ : L2.St) (H : Hp) (v : V) (d : D) (Q : L2.St → Hp → Prop), SRel K G0 H0 G δ σ H → Rep K.K G v d →
      (match gD d δ with
        | some δ' => ∀ σ', SRel K G0 H0 G δ' σ' H → σ'.length = σ.length → (∀ j, j ∉ ss → σ'[j]? = σ[j]?) → Q σ' H
        | none => False) → g v σ H Q)
    (ht : ∀ (G : Hp) (δ : DEnv) (σ : L2.St) (H : Hp) (Q : Bool → Hp → Prop), SRel K G0 H0 G δ σ H → Ok1 mg (fun _ _ _ _ => False) (fun _ b c => b = c) G H σ (tD δ) Q → tt σ H Q)
    (he : ∀ (G : Hp) (δ : DEnv) (σ : L2.St) (H : Hp) (Q : VK), SRel K G0 H0 G δ σ H → Ok1 mg (fun _ _ _ _ => False) (Rep K.K) G H σ (eD δ) Q → te σ H Q)
    (hy : lcD gD tD eD (wipeD δ vs) ds = some ys) {Qd : Hp → Prop} (hd : ∀ G' H' zs, Gr G H1 G' H' → G' Dn = some (.lst zs) → Reps K.K G' zs ys → Qd H') :
    ∃ W : Nat → Nat → Hp → Prop, (∃ m, W 0 m (upd H1 Dn (.lst []))) ∧ ∀ i m H, W i m H →
      (J.stop i H ∧ Qd H) ∨ (J.go i H ∧ ∃ Nx : Hp → Prop, (∀ H', Nx H' → ∃ m', m' < m ∧ W (i + 1) m' H') ∧ ∀ x H', J.yld i H x H' → g x (wipe σ vs) H' fun σ2 H2 => wipe σ2 vs = wipe σ vs ∧ tt σ2 H2 fun b H3 =>
        if b = true then te σ2 H3 fun y H4 => ∃ acc, H4 Dn = some (.lst acc) ∧ acc.length < sizeLine ∧ Nx (upd H4 Dn (.lst (acc ++ [y]))) else Nx H3) :=
  lc_gen rr w hD Reps.nil (by have := of_decide_eq_true hs; simp; omega) hss hg ht he hy fun Gi H acc gr hHD hGD hrep => by
    have gg : Same Gi (upd Gi Dn (.lst acc)) := same_new hGD
    refine hd (upd Gi Dn (.lst acc)) H acc ⟨gr.hh, gr.gg.trans gg, fun a o z => ?_, fun a o z y => ?_⟩ upd_same (hrep.mono gg)
    · by_cases ha : a = Dn
      · subst ha; rw [upd_same] at z; rw [hHD]; exact z
      · rw [upd_ne ha] at z; exact gr.gh a o z
    · by_cases ha : a = Dn
      · subst ha; exact hD
      · rw [upd_ne ha] at z; exact gr.fr a o z y
def eAll (X : Cx) (scope : Scope) (e : Expr) : TE := fun σ H Q => ∀ (s : Shared) (H' : Hp) (C : Addr) (cl : List (Str × Addr)) (fp : List Addr) (pins : List (Addr × Obj)) (s1 : Shared),
  Inv (X.blk s H' scope (compEnvC scope cl C X.env) fp) pins σ H s1 → wpAny (model X.prog X.w) X.A (eval e (compEnvC scope cl C X.env)) (EP (X.blk s H' scope (compEnvC scope cl C X.env) fp) pins σ Q) (fun _ _ => False) s1
def tAll (X : Cx) (scope : Scope) (ifs : List Expr) : TT := fun σ H Q => ∀ (s : Shared) (H' : Hp) (C : Addr) (cl : List (Str × Addr)) (fp : List Addr) (pins : List (Addr × Obj)) (s1 : Shared),
  Inv (X.blk s H' scope (compEnvC scope cl C X.env) fp) pins σ H s1 → wpAny (model X.prog X.w) X.A (forIn ifs true fun c r => if r = true then do let ok ← isTrue c (compEnvC scope cl C X.env) (eval c (compEnvC scope cl C X.env)); pure (ForInStep.yield ok) else pure (ForInStep.yield r)) (TP (X.blk s H' scope (compEnvC scope cl C X.env) fp) pins σ Q) (fun _ _ => False) s1
def gAll (X : Cx) (scope : Scope) (tg : Expr) : TG := fun v σ H Q => ∀ (s : Shared) (H' : Hp) (C : Addr) (cl : List (Str × Addr)) (fp : List Addr) (pins : List (Addr × Obj)) (s1 : Shared) (u : Value), RelV v u →
  Inv (X.blk s H' scope (compEnvC scope cl C X.env) fp) pins σ H s1 → wpAny (model X.prog X.w) X.A (assign tg (compEnvC scope cl C X.env) u) (fun _ s' => ∃ σ' H2, Inv (X.blk s H' scope (compEnvC scope cl C X.env) fp) pins σ' H2 s' ∧ Q σ' H2) (fun _ _ => False) s1
section
variable {scope : Scope} {s : Shared} {H' : Hp} {C : Addr} {cl : List (Str × Addr)} {fp : List Addr}
theorem eAll_ok {e : Expr} : PE (X.blk s H' scope (compEnvC scope cl C X.env) fp) e (eAll X scope e) := ⟨fun pins s1 σ H Q I h => h s H' C cl fp pins s1 I⟩
theorem tAll_ok {ifs : List Expr} : PTs (X.blk s H' scope (compEnvC scope cl C X.env) fp) ifs (tAll X scope ifs) := ⟨fun pins s1 σ H Q I h => h s H' C cl fp pins s1 I⟩
theorem gAll_ok {tg : Expr} : PG (X.blk s H' scope (compEnvC scope cl C X.env) fp) tg (gAll X scope tg) := ⟨fun pins s1 σ H v u Q I r h => h s H' C cl fp pins s1 u r I⟩
theorem eAll_sat {e : Expr} {f : DEnv → R D} (he : ∀ (s : Shared) (H : Hp) (C : Addr) (cl : List (Str × Addr)) (fp : List Addr), DPE (X.blk s H scope (compEnvC scope cl C X.env) fp) e f)
    {G0 H0 G : Hp} {δ : DEnv} {σ : L2.St} {H : Hp} {Q : VK} (rr : SRel (kb X) G0 H0 G δ σ H) (h : Ok1 X.mg (fun _ _ _ _ => False) (Rep X.K) G H σ (f δ) Q) : eAll X scope e σ H Q := fun s H' C cl fp pins s1 I => by
  obtain ⟨te, pe, qe⟩ := (he s H' C cl fp).run (fun _ _ _ _ => False) takes0
  exact pe.run pins s1 σ H Q I (qe G0 H0 G δ σ H Q rr h)
theorem tAll_sat {ifs : List Expr} {f : DEnv → R Bool} (he : ∀ (s : Shared) (H : Hp) (C : Addr) (cl : List (Str × Addr)) (fp : List Addr), DPTs (X.blk s H scope (compEnvC scope cl C X.env) fp) ifs f)
    {G0 H0 G : Hp} {δ : DEnv} {σ : L2.St} {H : Hp} {Q : Bool → Hp → Prop} (rr : SRel (kb X) G0 H0 G δ σ H) (h : Ok1 X.mg (fun _ _ _ _ => False) (fun _ b c => b = c) G H σ (f δ) Q) : tAll X scope ifs σ H Q := fun s H' C cl fp pins s1 I => by
  obtain ⟨te, pe, qe⟩ := (he s H' C cl fp).run (fun _ _ _ _ => False) takes0
  exact pe.run pins s1 σ H Q I (qe G0 H0 G δ σ H Q rr h)
theorem gAll_sat {tg : Expr} {ss : List Nat} {g : D → DEnv → Option DEnv} (hg : ∀ (s : Shared) (H : Hp) (C : Addr) (cl : List (Str × Addr)) (fp : List Addr), DPG (X.blk s H scope (compEnvC scope cl C X.env) fp) tg ss g)
    {G0 H0 G : Hp} {δ : DEnv} {σ : L2.St} {H : Hp} {v : V} {d : D} {Q : L2.St → Hp → Prop} (rr : SRel (kb X) G0 H0 G δ σ H) (rp : Rep X.K G v d)
    (h : match g d δ with
        | some δ' => ∀ σ', SRel (kb X) G0 H0 G δ' σ' H → σ'.length = σ.length → (∀ j, j ∉ ss → σ'[j]? = σ[j]?) → Q σ' H
        | none => False) : gAll X scope tg v σ H Q := fun s H' C cl fp pins s1 u r I => by
  obtain ⟨t, p, q⟩ := (hg s H' C cl fp).run
  exact p.run pins s1 σ H v u Q I r (q G0 H0 G δ σ H v d Q rr rp h)
end
theorem OkI.lc {mg : Str → Option Value} {W : WX} {K : PySem.W.Frag} {G H : Hp} {σ : L2.St} {r : R (List D)} {g : List D → R D} {Q : VK} {P : It → Hp → Addr → Prop} (h : Ok1 mg W (Rep K) G H σ (R.bind r g) Q)
    (k : ∀ ds J G' H', Gr G H G' H' → WalkD K J G' ds → Ok1 mg W (Rep K) G' H' σ (g ds) Q → ∀ Dn, H' Dn = none → P J H' Dn) : OkI mg W K G H σ r (fun J H' => ∀ Dn, H' Dn = none → P J H' Dn) := by
  cases r with
  | none => exact h
  | some e =>
    cases e with
    | error c => exact h
    | ok d => exact fun J G' H' gr w => k d J G' H' gr w (Ok1.mono gr h)
theorem dpe_lc {elt tg iter : Expr} {ifs : List Expr} {scope : Scope} {own : List (Str × Nat)} {ss : List Nat} {src : DEnv → R (List D)} {gD : D → DEnv → Option DEnv} {tD : DEnv → R Bool} {eD : DEnv → R D}
    (hc : X.calm = true) (hN : X.N.Nodup) (hi : DPI X tg iter src) (ok : BlkOk X.N X.env.scope scope own)
    (hg : ∀ (s : Shared) (H : Hp) (C : Addr) (cl : List (Str × Addr)) (fp : List Addr), DPG (X.blk s H scope (compEnvC scope cl C X.env) fp) tg ss gD)
    (ht : ∀ (s : Shared) (H : Hp) (C : Addr) (cl : List (Str × Addr)) (fp : List Addr), DPTs (X.blk s H scope (compEnvC scope cl C X.env) fp) ifs tD)
    (he : ∀ (s : Shared) (H : Hp) (C : Addr) (cl : List (Str × Addr)) (fp : List Addr), DPE (X.blk s H scope (compEnvC scope cl C X.env) fp) elt eD)
    (hss : ∀ j ∈ ss, j ∈ own.map (·.2)) (hs : ∀ x, foldedSetIterable iter X.env x = pure x := by intro _; rfl) :
    DPE X (.ListComp elt [⟨tg, iter, ifs, 0⟩] scope pos) (eLC src (own.map (·.2)) gD tD eD) := ⟨fun W tk => by
  obtain ⟨wi, pi, qi⟩ := hi.run W tk
  refine ⟨_, pe_lc (g := gAll X scope tg) (tt := tAll X scope ifs) (te := eAll X scope elt) hc hN pi ok (fun s H C cl fp => gAll_ok) (fun s H C cl fp => tAll_ok) (fun s H C cl fp => eAll_ok) hs, fun G0 H0 G δ σ H Q rr h => ?_⟩
  refine qi G0 H0 G δ σ H _ rr (OkI.lc h fun ds J G' H' gr w h' Dn hDn => ?_)
  split at h'
  · rename_i hsm
    split at h'
    · rename_i ys hys
      exact lc_sat (K := kb X) ((rr.ext gr).strip) w hDn hsm hss (fun G δ σ H v d Q r1 r2 h => gAll_sat hg r1 r2 h) (fun G δ σ H Q r1 h => tAll_sat ht r1 h) (fun G δ σ H Q r1 h => eAll_sat he r1 h) hys fun G2 H2 zs g2 h2 h3 =>
        h'.retG g2 (.lst' h2 h3)
    · exact h'.elim
  · exact h'.elim⟩
def hide (H : Hp) (a : Addr) : Hp := fun b => if b = a then none else H b
theorem hide_at (H : Hp) (a : Addr) : hide H a a = none := by unfold hide; rw [if_pos rfl]
theorem hide_ne {H : Hp} {a b : Addr} (h : b ≠ a) : hide H a b = H b := by unfold hide; rw [if_neg h]
theorem upd_hide {H : Hp} {a : Addr} {o : HO} (h : H a = some o) : upd (hide H a) a o = H := by
  funext b
  by_cases hb : b = a
  · subst hb; rw [upd_same, h]
  · rw [upd_ne hb, hide_ne hb]
theorem SRel.hide {K : KP} {G0 H0 G H : Hp} {δ : DEnv} {σ : L2.St} (r : SRel K G0 H0 G δ σ H) (n : NoOwn δ) {a : Addr} (hg : G a = none) (h0 : H0 a = none) : SRel K G0 H0 G δ σ (DL.hide H a) := by
  refine ⟨r.len, ⟨fun b o z => ?_, r.gr.gg, fun b o z => ?_, r.gr.fr⟩, fun i s e => ?_, r.own⟩
  · rw [hide_ne (ne_of_none z h0)]; exact r.gr.hh b o z
  · rw [hide_ne (ne_of_none z hg)]; exact r.gr.gh b o z
  · cases s with
    | val d => exact r.slot i _ e
    | exc c => exact r.slot i _ e
    | own ds => exact absurd e (n i ds)
def lcD2 (g : D → DEnv → Option DEnv) (t : DEnv → R Bool) (src1 : DEnv → R (List D)) (vs1 : List Nat) (g1 : D → DEnv → Option DEnv) (t1 : DEnv → R Bool) (e : DEnv → R D) (δ : DEnv) : List D → Option (List D)
  | [] => some []
  | d :: ds => match g d δ with
    | none => none
    | some δ1 => match t δ1 with
      | some (.ok true) => match src1 δ1 with
        | some (.ok ds1) => match lcD g1 t1 e (wipeD δ1 vs1) ds1 with
          | some ys => if small ds1.length then match lcD2 g t src1 vs1 g1 t1 e δ ds with
            | some zs => if small (ys.length + zs.length) then some (ys ++ zs) else none
            | none => none else none
          | none => none
        | _ => none
      | some (.ok false) => lcD2 g t src1 vs1 g1 t1 e δ ds
      | _ => none
def eLC2 (src : DEnv → R (List D)) (vs vs1 : List Nat) (g : D → DEnv → Option DEnv) (t : DEnv → R Bool) (src1 : DEnv → R (List D)) (g1 : D → DEnv → Option DEnv) (t1 : DEnv → R Bool) (e : DEnv → R D) : DEnv → R D := fun δ => R.bind (src δ) fun ds => match lcD2 g t src1 vs1 g1 t1 e (wipeD (strip δ) vs) ds with
  | some ys => if small ys.length then some (.ok (.lst ys)) else none
  | none => none
def iAll (X : Cx) (scope : Scope) (tg iter : Expr) : TI := fun σ H R => ∀ (s : Shared) (H' : Hp) (C : Addr) (cl : List (Str × Addr)) (fp : List Addr) (pins : List (Addr × Obj)) (s1 : Shared),
  Inv (X.blk s H' scope (compEnvC scope cl C X.env) fp) pins σ H s1 → wpAny (model X.prog X.w) X.A (eval iter (compEnvC scope cl C X.env)) (fun v s2 => wpAny (model X.prog X.w) X.A (pyIter v) (PIE (X.blk s H' scope (compEnvC scope cl C X.env) fp) pins σ tg R) (fun _ _ => False) s2) (fun _ _ => False) s1
theorem iAll_ok {scope : Scope} {s : Shared} {H' : Hp} {C : Addr} {cl : List (Str × Addr)} {fp : List Addr} {tg iter : Expr} : PI (X.blk s H' scope (compEnvC scope cl C X.env) fp) tg iter (iAll X scope tg iter) := ⟨fun pins s1 σ H Q I h => h s H' C cl fp pins s1 I⟩
theorem iAll_sat {scope : Scope} {tg iter : Expr} {f : DEnv → R (List D)} (hi : ∀ (s : Shared) (H : Hp) (C : Addr) (cl : List (Str × Addr)) (fp : List Addr), DPI (X.blk s H scope (compEnvC scope cl C X.env) fp) tg iter f)
    {G0 H0 G : Hp} {δ : DEnv} {σ : L2.St} {H : Hp} {Q : It → Hp → Prop} (rr : SRel (kb X) G0 H0 G δ σ H) (h : OkI X.mg (fun _ _ _ _ => False) X.K G H σ (f δ) Q) : iAll X scope tg iter σ H Q := fun s H' C cl fp pins s1 I => by
  obtain ⟨te, pe, qe⟩ := (hi s H' C cl fp).run (fun _ _ _ _ => False) takes0
  exact pe.run pins s1 σ H Q I (qe G0 H0 G δ σ H Q rr h)
theorem gr_back {G H G' H' Gm Hm : Hp} {a : Addr} (g : Gr G H G' H') (hG : G' a = none) (h0 : H a = none) (k : Gr G' (hide H' a) Gm Hm) : Gr G H Gm Hm :=
  ⟨fun b o z => k.hh b o (by rw [hide_ne (ne_of_none z h0)]; exact g.hh b o z), g.gg.trans k.gg, k.gh, fun b o z y => by
    cases w : G' b with
    | some u => exact g.fr b u w y
    | none =>
      have q := k.fr b o z w
      by_cases hb : b = a
      · subst hb; exact h0
      · rw [hide_ne hb] at q
        exact g.hh.free q⟩
theorem lc2_sat {K : KP} {mg : Str → Option Value} {G0 H0 G H1 : Hp} {δ : DEnv} {σ : L2.St} {Dn : Addr} {J : It} {ds ys : List D} {g g1 : TG} {tt tt1 : TT} {te : TE} {wi1 : TI} {vs vs1 : List Nat} {gD g1D : D → DEnv → Option DEnv} {tD t1D : DEnv → R Bool} {eD : DEnv → R D} {iDD : DEnv → R (List D)} {ss ss1 : List Nat}
    (rr : SRel K G0 H0 G (strip δ) σ H1) (w : WalkD K.K J G ds) (hD : H1 Dn = none) (hs : small ys.length = true) (hss : ∀ j ∈ ss, j ∈ vs) (hss1 : ∀ j ∈ ss1, j ∈ vs1)
    (hg : ∀ (G : Hp) (δ : DEnv) (σ : L2.St) (H : Hp) (v : V) (d : D) (Q : L2.St → Hp → Prop), SRel K G0 H0 G δ σ H → Rep K.K G v d →
      (match gD d δ with
        | some δ' => ∀ σ', SRel K G0 H0 G δ' σ' H → σ'.length = σ.length → (∀ j, j ∉ ss → σ'[j]? = σ[j]?) → Q σ' H
        | none => False) → g v σ H Q) (hgn : ∀ d δ δ', gD d δ = some δ' → NoOwn δ → NoOwn δ')
    (hg1 : ∀ (G : Hp) (δ : DEnv) (σ : L2.St) (H : Hp) (v : V) (d : D) (Q : L2.St → Hp → Prop), SRel K G0 H0 G δ σ H → Rep K.K G v d →
      (match g1D d δ with
        | some δ' => ∀ σ', SRel K G0 H0 G δ' σ' H → σ'.length = σ.length → (∀ j, j ∉ ss1 → σ'[j]? = σ[j]?) → Q σ' H
        | none => False) → g1 v σ H Q)
    (ht : ∀ (G : Hp) (δ : DEnv) (σ : L2.St) (H : Hp) (Q : Bool → Hp → Prop), SRel K G0 H0 G δ σ H → Ok1 mg (fun _ _ _ _ => False) (fun _ b c => b = c) G H σ (tD δ) Q → tt σ H Q)
    (ht1 : ∀ (G : Hp) (δ : DEnv) (σ : L2.St) (H : Hp) (Q : Bool → Hp → Prop), SRel K G0 H0 G δ σ H → Ok1 mg (fun _ _ _ _ => False) (fun _ b c => b = c) G H σ (t1D δ) Q → tt1 σ H Q)
    (hi : ∀ (G : Hp) (δ : DEnv) (σ : L2.St) (H : Hp) (Q : It → Hp → Prop), SRel K G0 H0 G δ σ H → OkI mg (fun _ _ _ _ => False) K.K G H σ (iDD δ) Q → wi1 σ H Q)
    (he : ∀ (G : Hp) (δ : DEnv) (σ : L2.St) (H : Hp) (Q : VK), SRel K G0 H0 G δ σ H → Ok1 mg (fun _ _ _ _ => False) (Rep K.K) G H σ (eD δ) Q → te σ H Q)
    (hy : lcD2 gD tD iDD vs1 g1D t1D eD (wipeD (strip δ) vs) ds = some ys) {Qd : Hp → Prop} (hd : ∀ G' H' zs, Gr G H1 G' H' → G' Dn = some (.lst zs) → Reps K.K G' zs ys → Qd H') :
    ∃ W : Nat → Nat → Hp → Prop, (∃ m, W 0 m (upd H1 Dn (.lst []))) ∧ ∀ i m H, W i m H →
      (J.stop i H ∧ Qd H) ∨ (J.go i H ∧ ∃ Nx : Hp → Prop, (∀ H', Nx H' → ∃ m', m' < m ∧ W (i + 1) m' H') ∧ ∀ x H', J.yld i H x H' → g x (wipe σ vs) H' fun σ2 H2 => wipe σ2 vs = wipe σ vs ∧ tt σ2 H2 fun b H3 =>
        if b = true then wi1 σ2 H3 fun J1 H4 => ∃ W1 : Nat → Nat → Hp → Prop, (∃ m, W1 0 m H4) ∧ ∀ j k H, W1 j k H →
          (J1.stop j H ∧ Nx H) ∨ (J1.go j H ∧ ∃ Nx1 : Hp → Prop, (∀ H', Nx1 H' → ∃ k', k' < k ∧ W1 (j + 1) k' H') ∧ ∀ x H', J1.yld j H x H' → g1 x (wipe σ2 vs1) H' fun σ3 H5 => wipe σ3 vs1 = wipe σ2 vs1 ∧ tt1 σ3 H5 fun b H6 =>
            if b = true then te σ3 H6 fun y H7 => ∃ acc, H7 Dn = some (.lst acc) ∧ acc.length < sizeLine ∧ Nx1 (upd H7 Dn (.lst (acc ++ [y]))) else Nx1 H6)
        else Nx H3) := by
  have h0D : H0 Dn = none := rr.gr.hh.free hD
  let Pv : Nat → Hp → Prop := fun i H => ∃ (Gi : Hp) (acc : List V) (done rest : List D), Gr G H1 Gi H ∧ Gi Dn = none ∧ H Dn = some (.lst acc) ∧ Reps K.K Gi acc done ∧ lcD2 gD tD iDD vs1 g1D t1D eD (wipeD (strip δ) vs) (ds.drop i) = some rest ∧ ys = done ++ rest
  refine ⟨fun i m H => m = ds.length - i ∧ i ≤ ds.length ∧ Pv i H, ⟨ds.length, by simp, Nat.zero_le _, G, [], [], ys, Gr.newH rr.gr.gh hD, rr.gr.gh.free hD, upd_same, Reps.nil, by simpa using hy, rfl⟩, ?_⟩
  rintro i m H ⟨rfl, hi', Gi, acc, done, rest, gr, hGD, hHD, hrep, hrest, hys⟩
  have sG : Same G H := gr.gg.trans gr.gh
  have keepN : ∀ {G1 Hx G2 Hy : Hp}, Gr G1 Hx G2 Hy → G1 Dn = none → Hx Dn = some (.lst acc) → G2 Dn = none := fun {G1 Hx G2 Hy} gg e1 e2 => by
    cases z : G2 Dn with
    | none => rfl
    | some o =>
      have q := gg.fr _ o z e1
      rw [e2] at q; cases q
  by_cases hlt : i < ds.length
  · refine .inr ⟨w.goes i H hlt sG, Pv (i + 1), fun H' p' => ⟨ds.length - (i + 1), by omega, rfl, hlt, p'⟩, fun x H' y => ?_⟩
    have hdi : ds[i]? = some ds[i] := by simp [hlt]
    obtain ⟨Gy, gy, ry⟩ := w.yields i H x H' ds[i] Gi gr.gg gr.gh hdi y
    have hGyD := keepN gy hGD hHD
    have hHyD : H' Dn = some (.lst acc) := gy.hh _ _ hHD
    have gr2 := gr.trans gy
    have rr2 := (rr.ext gr2).wipe vs
    rw [List.drop_eq_getElem_cons hlt] at hrest
    unfold lcD2 at hrest
    refine hg Gy (wipeD (strip δ) vs) (wipe σ vs) H' x ds[i] _ rr2 ry ?_
    cases eg : gD ds[i] (wipeD (strip δ) vs) with
    | none => simp only [eg, reduceCtorEq] at hrest
    | some δ1 =>
      simp only [eg] at hrest ⊢
      intro σ2 rr3 l3 k3
      have no1 : NoOwn δ1 := hgn _ _ _ eg (wipe_noOwn (strip_noOwn δ) vs)
      have hw : wipe σ2 vs = wipe σ vs := by
        rw [← wipe_wipe σ vs]
        exact wipe_same l3 fun j hj => k3 j fun z => hj (hss j z)
      refine ⟨hw, ht Gy δ1 σ2 H' _ rr3 ?_⟩
      cases et : tD δ1 with
      | none => simp only [et, reduceCtorEq] at hrest
      | some rt =>
        cases rt with
        | error c => simp only [et, reduceCtorEq] at hrest
        | ok bt =>
          intro v Gt Ht gt ev
          subst ev
          have hGtD := keepN gt hGyD hHyD
          have hHtD : Ht Dn = some (.lst acc) := gt.hh _ _ hHyD
          cases v with
          | false =>
            simp only [et] at hrest
            show (if false = true then _ else _)
            rw [if_neg Bool.false_ne_true]
            exact ⟨Gt, acc, done, rest, gr2.trans gt, hGtD, hHtD, hrep.mono (gy.gg.trans gt.gg), hrest, hys⟩
          | true =>
            simp only [et] at hrest
            show (if true = true then _ else _)
            rw [if_pos rfl]
            refine hi Gt δ1 σ2 Ht _ (rr3.ext gt) ?_
            cases ei : iDD δ1 with
            | none => simp only [ei, reduceCtorEq] at hrest
            | some ri =>
              cases ri with
              | error c => simp only [ei, reduceCtorEq] at hrest
              | ok ds1 =>
                intro J1 Gs Hs gs w1
                have hGsD := keepN gs hGtD hHtD
                have hHsD : Hs Dn = some (.lst acc) := gs.hh _ _ hHtD
                simp only [ei] at hrest
                cases ey : lcD g1D t1D eD (wipeD δ1 vs1) ds1 with
                | none => simp only [ey, reduceCtorEq] at hrest
                | some y1 =>
                  simp only [ey] at hrest
                  split at hrest
                  · rename_i hsm1
                    split at hrest
                    · rename_i zs hzs
                      split at hrest
                      · cases hrest
                        have rr4 : SRel K G0 H0 Gs δ1 σ2 (hide Hs Dn) := ((rr3.ext gt).ext gs).hide no1 hGsD h0D
                        have hacc : Reps K.K Gs acc done := hrep.mono (gy.gg.trans (gt.gg.trans gs.gg))
                        have hlen : done.length + ds1.length ≤ 2000000 := by
                          have h1 := of_decide_eq_true hs
                          have h2 := of_decide_eq_true hsm1
                          rw [hys] at h1
                          simp only [List.length_append] at h1
                          omega
                        have q := lc_gen (Qd := Pv (i + 1)) (tt := tt1) (te := te) (g := g1) rr4 w1 (hide_at Hs Dn) hacc hlen hss1 hg1 ht1 he ey fun G' H' zs' g' h1 h2 h3 =>
                          ⟨G', zs', done ++ y1, zs, gr_back ((gr2.trans gt).trans gs) hGsD hD g', h2, h1, h3, hzs, by rw [hys]; simp⟩
                        rw [upd_hide hHsD] at q
                        exact q
                      · cases hrest
                    · cases hrest
                  · cases hrest
  · have e : i = ds.length := by omega
    subst e
    refine .inl ⟨w.stops H sG, ?_⟩
    rw [List.drop_length] at hrest
    simp only [lcD2, Option.some.injEq] at hrest
    subst hrest
    rw [List.append_nil] at hys
    subst hys
    have gg : Same Gi (upd Gi Dn (.lst acc)) := same_new hGD
    refine hd (upd Gi Dn (.lst acc)) H acc ⟨gr.hh, gr.gg.trans gg, fun a o z => ?_, fun a o z y => ?_⟩ upd_same (hrep.mono gg)
    · by_cases ha : a = Dn
      · subst ha; rw [upd_same] at z; rw [hHD]; exact z
      · rw [upd_ne ha] at z; exact gr.gh a o z
    · by_cases ha : a = Dn
      · subst ha; exact hD
      · rw [upd_ne ha] at z; exact gr.fr a o z y
theorem dpe_lc2 {elt tg iter tg1 iter1 : Expr} {ifs ifs1 : List Expr} {scope : Scope} {own : List (Str × Nat)} {vs1 ss ss1 : List Nat} {src src1 : DEnv → R (List D)} {gD g1D : D → DEnv → Option DEnv} {tD t1D : DEnv → R Bool} {eD : DEnv → R D}
    (hc : X.calm = true) (hN : X.N.Nodup) (hi : DPI X tg iter src) (ok : BlkOk X.N X.env.scope scope own) (hv : ∀ i ∈ vs1, i ∈ own.map (·.2))
    (hg : ∀ (s : Shared) (H : Hp) (C : Addr) (cl : List (Str × Addr)) (fp : List Addr), DPG (X.blk s H scope (compEnvC scope cl C X.env) fp) tg ss gD)
    (ht : ∀ (s : Shared) (H : Hp) (C : Addr) (cl : List (Str × Addr)) (fp : List Addr), DPTs (X.blk s H scope (compEnvC scope cl C X.env) fp) ifs tD)
    (hi1 : ∀ (s : Shared) (H : Hp) (C : Addr) (cl : List (Str × Addr)) (fp : List Addr), DPI (X.blk s H scope (compEnvC scope cl C X.env) fp) tg1 iter1 src1)
    (hg1 : ∀ (s : Shared) (H : Hp) (C : Addr) (cl : List (Str × Addr)) (fp : List Addr), DPG (X.blk s H scope (compEnvC scope cl C X.env) fp) tg1 ss1 g1D)
    (ht1 : ∀ (s : Shared) (H : Hp) (C : Addr) (cl : List (Str × Addr)) (fp : List Addr), DPTs (X.blk s H scope (compEnvC scope cl C X.env) fp) ifs1 t1D)
    (he : ∀ (s : Shared) (H : Hp) (C : Addr) (cl : List (Str × Addr)) (fp : List Addr), DPE (X.blk s H scope (compEnvC scope cl C X.env) fp) elt eD)
    (hgn : ∀ d δ δ', gD d δ = some δ' → NoOwn δ → NoOwn δ')
    (hss : ∀ j ∈ ss, j ∈ own.map (·.2)) (hss1 : ∀ j ∈ ss1, j ∈ vs1) (hs : ∀ x, foldedSetIterable iter X.env x = pure x := by intro _; rfl) (hs1 : ∀ env x, foldedSetIterable iter1 env x = pure x := by intro _ _; rfl) :
    DPE X (.ListComp elt [⟨tg, iter, ifs, 0⟩, ⟨tg1, iter1, ifs1, 0⟩] scope pos) (eLC2 src (own.map (·.2)) vs1 gD tD src1 g1D t1D eD) := ⟨fun W tk => by
  obtain ⟨wi, pi, qi⟩ := hi.run W tk
  refine ⟨_, pe_lc2 (g := gAll X scope tg) (tt := tAll X scope ifs) (wi1 := iAll X scope tg1 iter1) (g1 := gAll X scope tg1) (tt1 := tAll X scope ifs1) (te := eAll X scope elt) hc hN pi ok hv (fun s H C cl fp => gAll_ok) (fun s H C cl fp => tAll_ok)
    (fun s H C cl fp => iAll_ok) (fun s H C cl fp => gAll_ok) (fun s H C cl fp => tAll_ok) (fun s H C cl fp => eAll_ok) hs hs1, fun G0 H0 G δ σ H Q rr h => ?_⟩
  refine qi G0 H0 G δ σ H _ rr (OkI.lc h fun ds J G' H' gr w h' Dn hDn => ?_)
  split at h'
  · rename_i ys hys
    split at h'
    · rename_i hsm
      exact lc2_sat (K := kb X) ((rr.ext gr).strip) w hDn hsm hss hss1 (fun G δ σ H v d Q r1 r2 h => gAll_sat hg r1 r2 h) hgn (fun G δ σ H v d Q r1 r2 h => gAll_sat hg1 r1 r2 h) (fun G δ σ H Q r1 h => tAll_sat ht r1 h) (fun G δ σ H Q r1 h => tAll_sat ht1 r1 h)
        (fun G δ σ H Q r1 h => iAll_sat hi1 r1 h) (fun G δ σ H Q r1 h => eAll_sat he r1 h) hys fun G2 H2 zs g2 h2 h3 => h'.retG g2 (.lst' h2 h3)
    · exact h'.elim
  · exact h'.elim⟩
end
end DL

namespace DL
open PySem PySem.Spec L2

def eIxO (i : Nat) (fb : DEnv → R D) : DEnv → R D := fun δ => match δ[i]? with
  | some (some (.own xs)) => R.bind (fb δ) (ixD (.lst xs))
  | _ => none
def eLenO (i : Nat) : DEnv → R D := fun δ => match δ[i]? with
  | some (some (.own xs)) => some (.ok (.int xs.length))
  | _ => none
section
variable {X : Cx} {b : Expr} {fb : DEnv → R D} {pos p : Pos} {x : Str}
theorem dpe_ixO (i : Nat) (hb : DPE X b fb) (hN : X.N[i]? = some x := by rfl) (hv : Vis X.env.scope x := by first | exact Or.inl rfl | exact Or.inr (Or.inl rfl) | exact Or.inr (Or.inr rfl)) (hd : (x == ("__debug__" : Str)) = false := by decide)
    (hcd : (x == ("__classdict__" : Str)) = false := by decide) (hs : PlainIx b := by intro _ _; rfl) : DPE X (.Subscript (.Name x p) b pos) (eIxO i fb) := ⟨fun W tk => by
  obtain ⟨tb, pb, qb⟩ := hb.run W tk
  refine ⟨_, pe_ix ix_list (pe_var hN hv hd hcd) pb hs, fun G0 H0 G δ σ H Q rr h => ?_⟩
  unfold eIxO at h
  split at h
  · rename_i xs e
    obtain ⟨q, vs, e1, e2, e3, e4, e5⟩ := rr.own_at e
    refine ⟨_, e1, qb G0 H0 G δ σ H _ rr (Ok1.bind h fun d v G' H' ed gr rp h' => ?_)⟩
    cases d <;> simp only [ixD] at h' <;> try exact h'.elim
    split at h'
    · rename_i y hy
      obtain ⟨w, h4, r4⟩ := (e5.mono gr.gg).atI hy
      exact ⟨q, vs, _, w, rfl, rp.int_inv, SqL.of (gr.hh _ _ e2), h4, h'.ret gr.gh r4⟩
    · exact h'.elim
  · exact h.elim⟩
theorem dpe_lenO (i : Nat) {pl : Pos} (hm : X.mg "len" = none) (hg : Gl X "len" := by rfl) (hN : X.N[i]? = some x := by rfl) (hv : Vis X.env.scope x := by first | exact Or.inl rfl | exact Or.inr (Or.inl rfl) | exact Or.inr (Or.inr rfl)) (hd : (x == ("__debug__" : Str)) = false := by decide)
    (hcd : (x == ("__classdict__" : Str)) = false := by decide) (hs : starEach [(.Name x p)] X.env = (false, eval (.Name x p) X.env) :: starEach [] X.env := by rfl) (hpl : (backTo pos (starEach [] X.env)).any (·.1) = false := by rfl) :
    DPE X (.Call (.Name "len" pl) [.Name x p] [] pos) (eLenO i) := ⟨fun W tk => by
  refine ⟨_, pe_callB call_len hg hm (by decide +kernel) (pa_cons (pe_var hN hv hd hcd) pa_nil hs) (by decide) (by decide) hs hpl, fun G0 H0 G δ σ H Q rr h => ?_⟩
  unfold eLenO at h
  split at h
  · rename_i xs e
    obtain ⟨q, vs, e1, e2, e3, e4, e5⟩ := rr.own_at e
    refine ⟨_, e1, _, vs.length, rfl, .inl ⟨vs, SqL.of e2, rfl⟩, ?_⟩
    rw [e5.1]
    exact h.ret rr.gr.gh (.int _)
  · exact h.elim⟩
end

def spD (K : PySem.W.Frag) (mg : Str → Option Value) (m : Nat) (F : List D → R D) : Sp := fun vs H Q E => ∃ (G : Hp) (ds : List D), Same G H ∧ Reps K G vs ds ∧ ds.length = m ∧
  match F ds with
  | some (.ok d) => ∀ v G' H', Gr G H G' H' → Rep K G' v d → Q v H'
  | some (.error c) => ∀ G' H', Gr G H G' H' → E (cval mg c) none H'
  | none => False
def DFun (P : Program) (w : World) (K : PySem.W.Frag) (mg : Str → Option Value) (base : Heap) (x : Str) (m k : Nat) (F : List D → R D) : Prop :=
  ∃ (f : Addr) (fd : FuncData) (ps : List Str), FnOk P w K mg base (L2.CX P w) k f fd ps (spD K mg m F) ∧ mg x = some (.ref f) ∧ PySem.W.keepIn K (.ref f) = true ∧ Binds K fd ps []
theorem DFun.mono {P : Program} {w : World} {K : PySem.W.Frag} {mg : Str → Option Value} {base : Heap} {x : Str} {m k k' : Nat} {F : List D → R D} (h : DFun P w K mg base x m k F) (hk : k ≤ k') : DFun P w K mg base x m k' F := by
  obtain ⟨f, fd, ps, h1, h2, h3, h4⟩ := h
  exact ⟨f, fd, ps, h1.mono hk, h2, h3, h4⟩
section
variable {X : Cx} {x : Str} {p pos : Pos} {e : Expr} {es : List Expr} {fr : DEnv → R (List D)} {F : List D → R D} {m k : Nat}
def eCall (F : List D → R D) (m : Nat) (fa : DEnv → R (List D)) : DEnv → R D := fun δ => R.bind (fa δ) fun ds => if ds.length = m then F ds else none
theorem Ok1.call {mg : Str → Option Value} {W : WX} {K : PySem.W.Frag} {G H : Hp} {σ : L2.St} {ds : List D} {Q : VK} (h : Ok1 mg W (Rep K) G H σ (if ds.length = m then F ds else none) Q) {vs : List V} (s : Same G H) (r : Reps K G vs ds) :
    spD K mg m F vs H Q (fun cls d H' => W cls d σ H') := by
  split at h
  · rename_i hm
    refine ⟨G, ds, s, r, hm, ?_⟩
    unfold Ok1 at h
    split at h
    · rename_i d e; rw [e]; exact h
    · rename_i c e; rw [e]; exact h
    · exact h.elim
  · exact h.elim
theorem dpe_call (F' : DFun X.prog X.w X.K X.mg X.base x m k F) (hr : Room k X.A) (ha : DPA X (e :: es) fr) (hg : Gl X x := by rfl) (hdb : (x == ("__debug__" : Str)) = false := by decide)
    (he : starEach (e :: es) X.env = (false, eval e X.env) :: starEach es X.env := by rfl) (hpl : (backTo pos (starEach es X.env)).any (·.1) = false := by rfl) : DPE X (.Call (.Name x p) (e :: es) [] pos) (eCall F m fr) := ⟨fun W tk => by
  obtain ⟨f, fd, ps, h1, h2, h3, h4⟩ := F'
  obtain ⟨ta, pa, qa⟩ := ha.run W tk
  refine ⟨_, pe_callS h1 hr hg h2 h3 h4 (fun σ => passAt tk σ) pa hdb he hpl, fun G0 H0 G δ σ H Q rr h => qa G0 H0 G δ σ H _ rr (Ok1.bind h fun d v G' H' e gr rp h' => ?_)⟩
  exact Ok1.call h' gr.gh rp⟩
theorem pe_callS0 {CX : CXT} {f : Addr} {fd : FuncData} {ps : List Str} {sp : Sp} {E : L2.St → XK} (F : FnOk X.prog X.w X.K X.mg X.base CX k f fd ps sp) (hr : Room k X.A) (hg : Gl X x) (hm : X.mg x = some (.ref f)) (hk : PySem.W.keepIn X.K (.ref f) = true) (hb : Binds X.K fd ps []) (hx : ∀ σ, PassesAt CX X σ (E σ))
    (hdb : (x == ("__debug__" : Str)) = false := by decide) : PE X (.Call (.Name x p) [] [] pos) (tCallS sp E tNil) := by
  refine ⟨fun pins s σ H Q I h => ?_⟩
  refine wpAny_Call_Name_kw (ld_glob I hg hm ?_ hdb)
  exact PySem.W.callWith_K0 I.kIn hk (run_fnS (us := []) F hr hb (hx σ) I .nil h)
theorem dpe_call0 (F' : DFun X.prog X.w X.K X.mg X.base x m k F) (hr : Room k X.A) (hg : Gl X x := by rfl) (hdb : (x == ("__debug__" : Str)) = false := by decide) : DPE X (.Call (.Name x p) [] [] pos) (eCall F m aNil) := ⟨fun W tk => by
  obtain ⟨f, fd, ps, h1, h2, h3, h4⟩ := F'
  refine ⟨_, pe_callS0 h1 hr hg h2 h3 h4 (fun σ => passAt tk σ) hdb, fun G0 H0 G δ σ H Q rr h => ?_⟩
  exact Ok1.call h rr.gr.gh Reps.nil⟩
end

inductive SR where
  | nx (δ : DEnv) | ret (d : D) | brk (δ : DEnv) | ct (δ : DEnv) | exc (c : Str) (δ : DEnv)
def OkS (X : Cx) (W : WX) (G0 H0 Gs : Hp) (r : Option SR) (Dn : Ends) : Prop :=
  match r with
  | some (.nx δ') => ∀ G' σ' H', SRel (kx X) G0 H0 G' δ' σ' H' → Same Gs G' → Dn.nx σ' H'
  | some (.ret d) => ∀ G' v H', Gr G0 H0 G' H' → Rep X.K G' v d → Dn.rt v H'
  | some (.brk δ') => ∀ G' σ' H', SRel (kx X) G0 H0 G' δ' σ' H' → Same Gs G' → Dn.bk σ' H'
  | some (.ct δ') => ∀ G' σ' H', SRel (kx X) G0 H0 G' δ' σ' H' → Same Gs G' → Dn.ct σ' H'
  | some (.exc c δ') => ∀ G' σ' H', SRel (kx X) G0 H0 G' δ' σ' H' → Same Gs G' → W (cval X.mg c) none σ' H'
  | none => False
theorem OkS.mono {X : Cx} {W : WX} {G0 H0 G G' : Hp} {r : Option SR} {Dn : Ends} (s : Same G G') (h : OkS X W G0 H0 G r Dn) : OkS X W G0 H0 G' r Dn := by
  cases r with
  | none => exact h
  | some r =>
    cases r with
    | nx δ => exact fun G2 σ2 H2 r2 s2 => h G2 σ2 H2 r2 (s.trans s2)
    | brk δ => exact fun G2 σ2 H2 r2 s2 => h G2 σ2 H2 r2 (s.trans s2)
    | ct δ => exact fun G2 σ2 H2 r2 s2 => h G2 σ2 H2 r2 (s.trans s2)
    | ret d => exact h
    | exc c δ => exact fun G2 σ2 H2 r2 s2 => h G2 σ2 H2 r2 (s.trans s2)
structure DPS (X : Cx) (st : Stmt) (f : DEnv → Option SR) : Prop where
  run : ∀ W : WX, Takes X W → ∃ ts : TS, PS X st ts ∧ ∀ (G0 H0 G : Hp) (δ : DEnv) (σ : L2.St) (H : Hp) (Dn : Ends), SRel (kx X) G0 H0 G δ σ H → OkS X W G0 H0 G (f δ) Dn → ts Dn σ H
structure DPSs (X : Cx) (sts : List Stmt) (f : DEnv → Option SR) : Prop where
  run : ∀ W : WX, Takes X W → ∃ ts : TS, PSs X sts ts ∧ ∀ (G0 H0 G : Hp) (δ : DEnv) (σ : L2.St) (H : Hp) (Dn : Ends), SRel (kx X) G0 H0 G δ σ H → OkS X W G0 H0 G (f δ) Dn → ts Dn σ H
def eS {α : Type} (r : R α) (δ : DEnv) (k : α → Option SR) : Option SR := match r with
  | some (.ok a) => k a
  | some (.error c) => some (.exc c δ)
  | none => none
@[simp] theorem eS_ok {α : Type} (a : α) (δ : DEnv) (k : α → Option SR) : eS (some (.ok a)) δ k = k a := rfl
@[simp] theorem eS_error {α : Type} (c : Str) (δ : DEnv) (k : α → Option SR) : eS (some (.error c) : R α) δ k = some (.exc c δ) := rfl
@[simp] theorem eS_none {α : Type} (δ : DEnv) (k : α → Option SR) : eS (none : R α) δ k = none := rfl
theorem OkS.expr {X : Cx} {W : WX} {G0 H0 G H : Hp} {α β : Type} {rel : Hp → β → α → Prop} {r : R α} {δ : DEnv} {σ : L2.St} {k : α → Option SR} {Dn : Ends} {Q : β → Hp → Prop} (rr : SRel (kx X) G0 H0 G δ σ H) (h : OkS X W G0 H0 G (eS r δ k) Dn)
    (q : ∀ d v G' H', r = some (.ok d) → Gr G H G' H' → SRel (kx X) G0 H0 G' δ σ H' → rel G' v d → OkS X W G0 H0 G' (k d) Dn → Q v H') : Ok1 X.mg W rel G H σ r Q := by
  cases r with
  | none => exact h
  | some e =>
    cases e with
    | error c => exact fun G' H' gr => h G' σ H' (rr.ext gr) gr.gg
    | ok d => exact fun v G' H' gr rp => q d v G' H' rfl gr (rr.ext gr) rp (OkS.mono gr.gg h)
def bNil : DEnv → Option SR := fun δ => some (.nx δ)
def bSeq (a b : DEnv → Option SR) : DEnv → Option SR := fun δ => match a δ with
  | some (.nx δ') => b δ'
  | r => r
def bSet (g : D → DEnv → Option DEnv) (e : DEnv → R D) : DEnv → Option SR := fun δ => eS (e δ) δ fun d => match g d δ with
  | some δ' => some (.nx δ')
  | none => none
def bRet (e : DEnv → R D) : DEnv → Option SR := fun δ => eS (e δ) δ fun d => some (.ret d)
def bRetN : DEnv → Option SR := fun _ => some (.ret .non)
def bDrop (e : DEnv → R D) : DEnv → Option SR := fun δ => eS (e δ) δ fun _ => some (.nx δ)
def bIf (t : DEnv → R Bool) (a b : DEnv → Option SR) : DEnv → Option SR := fun δ => eS (t δ) δ fun c => if c then a δ else b δ
def bBrk : DEnv → Option SR := fun δ => some (.brk δ)
def bCt : DEnv → Option SR := fun δ => some (.ct δ)
def bFreeze (i : Nat) (b : DEnv → Option SR) : DEnv → Option SR := fun δ => match δ[i]? with
  | some (some (.own ds)) => b (δ.set i (some (.val (.lst ds))))
  | _ => none
def bFreezeM (i : Nat) (b : DEnv → Option SR) : DEnv → Option SR := fun δ => match δ[i]? with
  | some (some (.own ds)) => b (δ.set i (some (.val (.lst ds))))
  | _ => b δ
def bOwn (i : Nat) (a : DEnv → R (List D)) : DEnv → Option SR := fun δ => eS (a δ) δ fun ds => if small ds.length then some (.nx (δ.set i (some (.own ds)))) else none
def bApp (i : Nat) (e : DEnv → R D) : DEnv → Option SR := fun δ => match δ[i]? with
  | some (some (.own ds)) => eS (e δ) δ fun d => if small ds.length then some (.nx (δ.set i (some (.own (ds ++ [d]))))) else none
  | _ => none
def bPop (i : Nat) : DEnv → Option SR := fun δ => match δ[i]? with
  | some (some (.own ds)) => match ds with
    | [] => none
    | _ => some (.nx (δ.set i (some (.own ds.dropLast))))
  | _ => none
def bAug (i : Nat) (g : D → D → R D) (e : DEnv → R D) : DEnv → Option SR := fun δ => eS (eVar i δ) δ fun x => eS (e δ) δ fun y => eS (g x y) δ fun z => some (.nx (δ.set i (some (.val z))))
def bRaise (c : Str) : DEnv → Option SR := fun δ => some (.exc c δ)
def forD (g : D → DEnv → Option DEnv) (b : DEnv → Option SR) : List D → DEnv → Option SR
  | [], δ => some (.nx δ)
  | d :: ds, δ => match g d δ with
    | none => none
    | some δ1 => match b δ1 with
      | some (.nx δ2) => forD g b ds δ2
      | some (.ct δ2) => forD g b ds δ2
      | some (.brk δ2) => some (.nx δ2)
      | r => r
def bFor (src : DEnv → R (List D)) (g : D → DEnv → Option DEnv) (b : DEnv → Option SR) : DEnv → Option SR := fun δ => eS (src δ) δ fun ds => forD g b ds δ
def whileD (t : DEnv → R Bool) (b : DEnv → Option SR) : Nat → DEnv → Option SR
  | 0, _ => none
  | n + 1, δ => match t δ with
    | none => none
    | some (.error c) => some (.exc c δ)
    | some (.ok false) => some (.nx δ)
    | some (.ok true) => match b δ with
      | some (.nx δ2) => whileD t b n δ2
      | some (.ct δ2) => whileD t b n δ2
      | some (.brk δ2) => some (.nx δ2)
      | r => r
def bWhile (n : Nat) (t : DEnv → R Bool) (b : DEnv → Option SR) : DEnv → Option SR := fun δ => whileD t b n δ

section
variable {X : Cx} {st : Stmt} {rest sts : List Stmt} {f g : DEnv → Option SR} {e : Expr} {fe : DEnv → R D} {pos : Pos}
theorem dpss_nil : DPSs X [] bNil := ⟨fun W tk => ⟨_, pss_nil, fun G0 H0 G δ σ H Dn rr h => h G σ H rr (Same.refl _)⟩⟩
theorem OkS.seq {W : WX} {G0 H0 Gs : Hp} {δ : DEnv} {Dn : Ends} {u : TS} (h : OkS X W G0 H0 Gs (bSeq f g δ) Dn)
    (hu : ∀ (G : Hp) (δ : DEnv) (σ : L2.St) (H : Hp) (Dn : Ends), SRel (kx X) G0 H0 G δ σ H → OkS X W G0 H0 G (g δ) Dn → u Dn σ H) : OkS X W G0 H0 Gs (f δ) { Dn with nx := u Dn } := by
  unfold bSeq at h
  split at h
  · rename_i δ' e
    rw [e]
    exact fun G' σ' H' rr s => hu G' δ' σ' H' Dn rr (OkS.mono s h)
  · rename_i r hr
    cases e : f δ with
    | none => rw [e] at h; exact h
    | some s =>
      cases s with
      | nx δ' => exact absurd e (hr δ')
      | ret d => rw [e] at h; exact h
      | brk δ' => rw [e] at h; exact h
      | ct δ' => rw [e] at h; exact h
      | exc c δ' => rw [e] at h; exact h
theorem dpss_cons (h1 : DPS X st f) (h2 : DPSs X rest g) : DPSs X (st :: rest) (bSeq f g) := ⟨fun W tk => by
  obtain ⟨ta, pa, qa⟩ := h1.run W tk
  obtain ⟨tb, pb, qb⟩ := h2.run W tk
  exact ⟨_, pss_cons pa pb, fun G0 H0 G δ σ H Dn rr h => qa G0 H0 G δ σ H _ rr (h.seq (qb G0 H0))⟩⟩
theorem dpss_one (h1 : DPS X st f) : DPSs X [st] f := ⟨fun W tk => by
  obtain ⟨ta, pa, qa⟩ := h1.run W tk
  exact ⟨_, pss_one pa, qa⟩⟩
theorem dps_pass : DPS X (.Pass pos) bNil := ⟨fun W tk => ⟨_, ps_pass, fun G0 H0 G δ σ H Dn rr h => h G σ H rr (Same.refl _)⟩⟩
theorem dps_break : DPS X (.Break pos) bBrk := ⟨fun W tk => ⟨_, ps_break, fun G0 H0 G δ σ H Dn rr h => h G σ H rr (Same.refl _)⟩⟩
theorem dps_continue : DPS X (.Continue pos) bCt := ⟨fun W tk => ⟨_, ps_continue, fun G0 H0 G δ σ H Dn rr h => h G σ H rr (Same.refl _)⟩⟩
theorem dps_doc {x : Str} {j pos pos'} : DPS X (.Expr (.Constant (.str x) j pos) pos') bNil := ⟨fun W tk => ⟨_, ps_doc, fun G0 H0 G δ σ H Dn rr h => h G σ H rr (Same.refl _)⟩⟩
theorem dps_ret (he : DPE X e fe) : DPS X (.Return (some e) pos) (bRet fe) := ⟨fun W tk => by
  obtain ⟨ta, pa, qa⟩ := he.run W tk
  exact ⟨_, ps_ret pa, fun G0 H0 G δ σ H Dn rr h => qa G0 H0 G δ σ H _ rr (OkS.expr rr h fun d v G' H' e gr rr' rp h' => h' G' v H' rr'.gr rp)⟩⟩
theorem dps_retN : DPS X (.Return none pos) bRetN := ⟨fun W tk => ⟨_, ps_retN, fun G0 H0 G δ σ H Dn rr h => h G .non H rr.gr .non⟩⟩
theorem dps_drop (he : DPE X e fe) (hs : swapsWith e none pos.line X.env = pure false := by rfl) : DPS X (.Expr e pos) (bDrop fe) := ⟨fun W tk => by
  obtain ⟨ta, pa, qa⟩ := he.run W tk
  exact ⟨_, ps_expr pa hs, fun G0 H0 G δ σ H Dn rr h => qa G0 H0 G δ σ H _ rr (OkS.expr rr h fun d v G' H' e gr rr' rp h' => h' G' σ H' rr' (Same.refl _))⟩⟩
theorem dps_if {c : Expr} {a b : List Stmt} {t : DEnv → R Bool} (hc : DPT X c t) (ha : DPSs X a f) (hb : DPSs X b g) : DPS X (.If c a b pos) (bIf t f g) := ⟨fun W tk => by
  obtain ⟨tc, pc, qc⟩ := hc.run W tk
  obtain ⟨ta, pa, qa⟩ := ha.run W tk
  obtain ⟨tb, pb, qb⟩ := hb.run W tk
  refine ⟨_, ps_if pc pa pb, fun G0 H0 G δ σ H Dn rr h => qc G0 H0 G δ σ H _ rr (OkS.expr rr h fun d v G' H' e gr rr' rp h' => ?_)⟩
  subst rp
  cases v with
  | true => exact qa G0 H0 G' δ σ H' Dn rr' h'
  | false => exact qb G0 H0 G' δ σ H' Dn rr' h'⟩
theorem dps_set {x : Str} {pos' : Pos} (i : Nat) (hN : X.N.Nodup) (he : DPE X e fe) (hi : X.N[i]? = some x := by rfl) (hx : Loc X.env.scope x := by first | exact Or.inl rfl | exact Or.inr rfl) (hs : swapsWith e (some (.Name x pos')) pos.line X.env = pure false := by rfl) (hf : X.fn x = true ∨ X.env.scope.names.lookup x = some .local := by first | exact .inl rfl | exact .inr rfl | assumption) :
    DPS X (.Assign [.Name x pos'] e pos) (bSet (gN i) fe) := ⟨fun W tk => by
  obtain ⟨ta, pa, qa⟩ := he.run W tk
  exact ⟨_, ps_set (i := i) hN hi hx pa hs hf, fun G0 H0 G δ σ H Dn rr h => qa G0 H0 G δ σ H _ rr (OkS.expr rr h fun d v G' H' e gr rr' rp h' => h' G' _ H' (rr'.setVal rp) (Same.refl _))⟩⟩
theorem dps_asg {tg : Expr} {ss : List Nat} {gD : D → DEnv → Option DEnv} (he : DPE X e fe) (hg : DPG X tg ss gD) (hs : swapsWithSole [tg] e pos.line X.env = pure false := by rfl) (hw : swappedStores [tg] e X.env = pure none := by rfl)
    (h1 : (assignEach [tg] X.env).map (·.2) = [assign tg X.env] := by rfl) : DPS X (.Assign [tg] e pos) (bSet gD fe) := ⟨fun W tk => by
  obtain ⟨ta, pa, qa⟩ := he.run W tk
  obtain ⟨tgt, pg, qg⟩ := hg.run
  refine ⟨_, ps_asg pa pg hs hw h1, fun G0 H0 G δ σ H Dn rr h => qa G0 H0 G δ σ H _ rr (OkS.expr rr h fun d v G' H' e gr rr' rp h' => ?_)⟩
  refine qg G0 H0 G' δ σ H' v d _ rr' rp ?_
  split at h'
  · rename_i δ' e'
    try rw [e']
    exact fun σ' r1 r2 r3 => h' G' σ' H' r1 (Same.refl _)
  · exact h'.elim⟩
theorem dps_own {x : Str} {pos' p2 : Pos} {es : List Expr} {fr : DEnv → R (List D)} (i : Nat) (hN : X.N.Nodup) (ha : DPA X es fr) (hi : X.N[i]? = some x := by rfl) (hx : Loc X.env.scope x := by first | exact Or.inl rfl | exact Or.inr rfl) (hs : swapsWith (.List es p2) (some (.Name x pos')) pos.line X.env = pure false := by rfl) (hf : X.fn x = true ∨ X.env.scope.names.lookup x = some .local := by first | exact .inl rfl | exact .inr rfl | assumption) :
    DPS X (.Assign [.Name x pos'] (.List es p2) pos) (bOwn i fr) := ⟨fun W tk => by
  obtain ⟨ta, pa, qa⟩ := ha.run W tk
  refine ⟨_, ps_set (i := i) hN hi hx (pe_lst pa) hs hf, fun G0 H0 G δ σ H Dn rr h => qa G0 H0 G δ σ H _ rr (OkS.expr rr h fun ds vs G' H' e gr rr' rp h' => ?_)⟩
  split at h'
  · rename_i hsm
    exact ⟨by rw [rp.1]; exact small_line hsm, fun p hp => h' G' _ _ (rr'.setOwn hp rp) (Same.refl _)⟩
  · exact h'.elim⟩
theorem dps_app {x : Str} {p p2 p3 : Pos} {fe : DEnv → R D} (i : Nat) (he : DPE X e fe) (hN : X.N[i]? = some x := by rfl) (hv : Vis X.env.scope x := by first | exact Or.inl rfl | exact Or.inr (Or.inl rfl) | exact Or.inr (Or.inr rfl)) (hd : (x == ("__debug__" : Str)) = false := by decide) (hcd : (x == ("__classdict__" : Str)) = false := by decide)
    (hpe : ∀ {to : TE} {t : TA}, PE X (.Name x p) to → PA X [e] t → PE X (.Call (.Attribute (.Name x p) "append" p2) [e] [] p3) (tBM X.K "list" rAppend to t) := by intro _ _ ho ha; exact pe_bm PySem.F.plainAttrs_list PySem.F.slot_list_append PySem.F.type_list_append mt_append ho ha)
    (hst : starEach [e] X.env = (false, eval e X.env) :: starEach [] X.env := by rfl)
    (hs : swapsWith (.Call (.Attribute (.Name x p) "append" p2) [e] [] p3) none pos.line X.env = pure false := by rfl) : DPS X (.Expr (.Call (.Attribute (.Name x p) "append" p2) [e] [] p3) pos) (bApp i fe) := ⟨fun W tk => by
  obtain ⟨ta, pa, qa⟩ := he.run W tk
  refine ⟨_, ps_expr (hpe (pe_var hN hv hd hcd) (pa_cons pa pa_nil hst)) hs, fun G0 H0 G δ σ H Dn rr h => ?_⟩
  unfold bApp at h
  split at h
  · rename_i ds e1
    obtain ⟨q, vs, e2, e3, e4, e5, e6⟩ := rr.own_at e1
    refine ⟨_, e2, .inl ⟨rfl, _, SqL.of e3⟩, qa G0 H0 G δ σ H _ rr (OkS.expr rr h fun d v G' H' ee gr rr' rp h' => ?_)⟩
    split at h'
    · rename_i hsm
      have hl : vs.length < sizeLine := by
        have := of_decide_eq_true hsm
        rw [e6.1, sizeLine_eq]; omega
      exact ⟨q, vs, v, rfl, rfl, gr.hh _ _ e3, hl, h' G' _ _ (rr'.mut e1 e2 ((e6.mono gr.gg).append (Reps.cons rp Reps.nil))) (Same.refl _)⟩
    · exact h'.elim
  · exact h.elim⟩
theorem dps_pop {x : Str} {p p2 p3 : Pos} (i : Nat) (hN : X.N[i]? = some x := by rfl) (hv : Vis X.env.scope x := by first | exact Or.inl rfl | exact Or.inr (Or.inl rfl) | exact Or.inr (Or.inr rfl)) (hd : (x == ("__debug__" : Str)) = false := by decide) (hcd : (x == ("__classdict__" : Str)) = false := by decide)
    (hpe : ∀ {to : TE}, PE X (.Name x p) to → PE X (.Call (.Attribute (.Name x p) "pop" p2) [] [] p3) (tBM0 X.K "list" rPop to) := by intro _ ho; exact pe_bm0 PySem.F.plainAttrs_list PySem.F.slot_list_pop PySem.F.type_list_pop mt_pop ho)
    (hs : swapsWith (.Call (.Attribute (.Name x p) "pop" p2) [] [] p3) none pos.line X.env = pure false := by rfl) : DPS X (.Expr (.Call (.Attribute (.Name x p) "pop" p2) [] [] p3) pos) (bPop i) := ⟨fun W tk => by
  refine ⟨_, ps_expr (hpe (pe_var hN hv hd hcd)) hs, fun G0 H0 G δ σ H Dn rr h => ?_⟩
  unfold bPop at h
  split at h
  · rename_i ds e1
    obtain ⟨q, vs, e2, e3, e4, e5, e6⟩ := rr.own_at e1
    split at h
    · exact h.elim
    · rename_i ds hne
      have hl : vs.length ≠ 0 := by
        rw [e6.1]
        intro z
        exact hne (List.eq_nil_of_length_eq_zero z)
      have hlt : vs.length - 1 < vs.length := by omega
      exact ⟨_, e2, .inl ⟨rfl, _, SqL.of e3⟩, q, vs, vs[vs.length - 1], rfl, rfl, e3, by simp [hlt], h G _ _ (rr.mut e1 e2 e6.dropLast) (Same.refl _)⟩
  · exact h.elim⟩
theorem dps_freeze (i : Nat) (h : DPS X st f) : DPS X st (bFreeze i f) := ⟨fun W tk => by
  obtain ⟨ta, pa, qa⟩ := h.run W tk
  refine ⟨_, pa, fun G0 H0 G δ σ H Dn rr h => ?_⟩
  unfold bFreeze at h
  split at h
  · rename_i ds e
    obtain ⟨G', rr', sg⟩ := rr.freeze e
    exact qa G0 H0 G' _ σ H Dn rr' (OkS.mono sg h)
  · exact h.elim⟩
theorem dps_freezeM (i : Nat) (h : DPS X st f) : DPS X st (bFreezeM i f) := ⟨fun W tk => by
  obtain ⟨ta, pa, qa⟩ := h.run W tk
  refine ⟨_, pa, fun G0 H0 G δ σ H Dn rr h => ?_⟩
  unfold bFreezeM at h
  split at h
  · rename_i ds e
    obtain ⟨G', rr', sg⟩ := rr.freeze e
    exact qa G0 H0 G' _ σ H Dn rr' (OkS.mono sg h)
  · exact qa G0 H0 G _ σ H Dn rr h⟩

theorem dps_for {tg iter : Expr} {body : List Stmt} {src : DEnv → R (List D)} {ss : List Nat} {gD : D → DEnv → Option DEnv} (hp : PassesOwn (model X.prog X.w) X.A X.env X.xe) (hc : X.calm = true) (hi : DPI X tg iter src) (hg : DPG X tg ss gD) (hb : DPSs X body f)
    (hs : ∀ x, foldedSetIterable iter X.env x = pure x := by intro _; rfl) : DPS X (.For tg iter body [] pos) (bFor src gD f) := ⟨fun W tk => by
  obtain ⟨wi, pi, qi⟩ := hi.run W tk
  obtain ⟨tgt, pg, qg⟩ := hg.run
  obtain ⟨tb, pb, qb⟩ := hb.run W tk
  refine ⟨_, ps_for hp hc pi pg pb hs, fun G0 H0 G δ σ H Dn rr h => qi G0 H0 G δ σ H _ rr ?_⟩
  unfold bFor at h
  cases es : src δ with
  | none => rw [es] at h; exact h
  | some r =>
    cases r with
    | error c => rw [es] at h; exact fun G' H' gr => h G' σ H' (rr.ext gr) gr.gg
    | ok ds =>
      rw [es, eS_ok] at h
      intro J G' H' gr w
      refine ⟨fun i m σ2 H2 => m = ds.length - i ∧ i ≤ ds.length ∧ ∃ (G2 : Hp) (δ2 : DEnv), SRel (kx X) G0 H0 G2 δ2 σ2 H2 ∧ Same G' G2 ∧ OkS X W G0 H0 G2 (forD gD f (ds.drop i) δ2) Dn, ⟨ds.length, by simp, Nat.zero_le _, G', δ, rr.ext gr, Same.refl _, OkS.mono gr.gg h⟩, ?_⟩
      rintro i m σ2 H2 ⟨rfl, hi', G2, δ2, rr2, sG, h2⟩
      by_cases hlt : i < ds.length
      · rw [List.drop_eq_getElem_cons hlt] at h2
        unfold forD at h2
        refine .inr ⟨w.goes i H2 hlt (sG.trans rr2.gr.gh), fun σ' H' => i + 1 ≤ ds.length ∧ ∃ (G3 : Hp) (δ3 : DEnv), SRel (kx X) G0 H0 G3 δ3 σ' H' ∧ Same G' G3 ∧ OkS X W G0 H0 G3 (forD gD f (ds.drop (i + 1)) δ3) Dn,
          fun σ' H' q => ⟨ds.length - (i + 1), by omega, rfl, q.1, q.2⟩, fun x H3 y => ?_⟩
        have hdi : ds[i]? = some ds[i] := by simp [hlt]
        obtain ⟨Gy, gy, ry⟩ := w.yields i H2 x H3 ds[i] G2 sG rr2.gr.gh hdi y
        refine qg G0 H0 Gy δ2 σ2 H3 x ds[i] _ (rr2.ext gy) ry ?_
        cases eg : gD ds[i] δ2 with
        | none => simp only [eg] at h2; exact h2
        | some δ3 =>
          simp only [eg] at h2 ⊢
          intro σ3 rr3 l3 k3
          refine qb G0 H0 Gy δ3 σ3 H3 _ rr3 ?_
          cases ef : f δ3 with
          | none => simp only [ef] at h2; exact h2
          | some r =>
            cases r with
            | nx δ4 =>
              simp only [ef] at h2
              exact fun G4 σ4 H4 rr4 s4 => ⟨by omega, G4, δ4, rr4, sG.trans (gy.gg.trans s4), OkS.mono (gy.gg.trans s4) h2⟩
            | ct δ4 =>
              simp only [ef] at h2
              exact fun G4 σ4 H4 rr4 s4 => ⟨by omega, G4, δ4, rr4, sG.trans (gy.gg.trans s4), OkS.mono (gy.gg.trans s4) h2⟩
            | brk δ4 => simp only [ef] at h2; exact fun G4 σ4 H4 rr4 s4 => h2 G4 σ4 H4 rr4 (gy.gg.trans s4)
            | ret d => simp only [ef] at h2; exact h2
            | exc c δ4 => simp only [ef] at h2; exact fun G4 σ4 H4 rr4 s4 => h2 G4 σ4 H4 rr4 (gy.gg.trans s4)
      · have e : i = ds.length := by omega
        subst e
        rw [List.drop_length] at h2
        exact .inl ⟨w.stops H2 (sG.trans rr2.gr.gh), h2 G2 σ2 H2 rr2 (Same.refl _)⟩⟩
end
end DL

namespace DL
open PySem PySem.Spec L2
section
variable {X : Cx} {st : Stmt} {rest sts body : List Stmt} {f g : DEnv → Option SR} {e : Expr} {fe : DEnv → R D} {pos : Pos}
theorem dps_while (n : Nat) {c : Expr} {t : DEnv → R Bool} (hp : PassesOwn (model X.prog X.w) X.A X.env X.xe) (hc : DPT X c t) (hb : DPSs X body f) : DPS X (.While c body [] pos) (bWhile n t f) := ⟨fun W tk => by
  obtain ⟨tc, pc, qc⟩ := hc.run W tk
  obtain ⟨tb, pb, qb⟩ := hb.run W tk
  refine ⟨_, ps_while hp pc pb, fun G0 H0 G δ σ H Dn rr h => ?_⟩
  refine ⟨fun m σ1 H1 => ∃ (G1 : Hp) (δ1 : DEnv), SRel (kx X) G0 H0 G1 δ1 σ1 H1 ∧ OkS X W G0 H0 G1 (whileD t f m δ1) Dn, ⟨n, G, δ, rr, h⟩, fun m σ1 H1 ⟨G1, δ1, rr1, h1⟩ => ?_⟩
  cases m with
  | zero => exact h1.elim
  | succ m =>
    unfold whileD at h1
    refine qc G0 H0 G1 δ1 σ1 H1 _ rr1 ?_
    cases et : t δ1 with
    | none => rw [et] at h1; exact h1
    | some rt =>
      cases rt with
      | error c => rw [et] at h1; exact fun G' H' gr => h1 G' σ1 H' (rr1.ext gr) gr.gg
      | ok b =>
        intro b' G2 H2 gr eb
        subst eb
        cases b' with
        | false =>
          simp only [et] at h1
          show (if false = true then _ else _)
          rw [if_neg Bool.false_ne_true]
          exact h1 G2 σ1 H2 (rr1.ext gr) gr.gg
        | true =>
          simp only [et] at h1
          show (if true = true then _ else _)
          rw [if_pos rfl]
          refine ⟨fun σ' H' => ∃ (G1 : Hp) (δ1 : DEnv), SRel (kx X) G0 H0 G1 δ1 σ' H' ∧ OkS X W G0 H0 G1 (whileD t f m δ1) Dn, fun σ' H' q => ⟨m, Nat.lt_succ_self m, q⟩, ?_⟩
          refine qb G0 H0 G2 δ1 σ1 H2 _ (rr1.ext gr) ?_
          cases ef : f δ1 with
          | none => simp only [ef] at h1; exact h1
          | some r =>
            cases r with
            | nx δ4 => simp only [ef] at h1; exact fun G4 σ4 H4 rr4 s4 => ⟨G4, δ4, rr4, OkS.mono (gr.gg.trans s4) h1⟩
            | ct δ4 => simp only [ef] at h1; exact fun G4 σ4 H4 rr4 s4 => ⟨G4, δ4, rr4, OkS.mono (gr.gg.trans s4) h1⟩
            | brk δ4 => simp only [ef] at h1; exact fun G4 σ4 H4 rr4 s4 => h1 G4 σ4 H4 rr4 (gr.gg.trans s4)
            | ret d => simp only [ef] at h1; exact h1
            | exc c δ4 => simp only [ef] at h1; exact fun G4 σ4 H4 rr4 s4 => h1 G4 σ4 H4 rr4 (gr.gg.trans s4)⟩

def addD2 : D → D → R D
  | .int i, .int j => some (.ok (.int (i + j)))
  | .str x, .str y => if small (x.length + y.length) then some (.ok (.str (x ++ y))) else none
  | _, _ => none
def mulD2 : D → D → R D
  | .int i, .int j => if (-(2 ^ 64) < i ∧ i < 2 ^ 64) ∨ (-(2 ^ 64) < j ∧ j < 2 ^ 64) then some (.ok (.int (i * j))) else none
  | _, _ => none
def IpD (X : Cx) (op : Operator) (g : D → D → R D) : Prop := ∃ t : TIp, PIp X op t ∧
  ∀ (W : WX) (G H : Hp) (σ : L2.St) (x y : V) (a b : D) (Q : VK), Same G H → Rep X.K G x a → Rep X.K G y b → Ok1 X.mg W (Rep X.K) G H σ (g a b) Q → t x y H Q
theorem pip_of {op : Operator} {r : R2} (h : OpR X (inplaceOp op) r) : PIp X op r := fun pins s σ H x y v u Q I rx ry q => h pins s σ H x y v u Q I rx ry q
theorem ipd_add : IpD X .Add addD2 := by
  refine ⟨_, pip_of (iop_add.or iop_add_str), fun W G H σ x y a b Q s ra rb h => ?_⟩
  cases a <;> cases b <;> simp only [addD2] at h <;> try exact h.elim
  · exact .inl ⟨_, _, ra.int_inv, rb.int_inv, h.ret s (.int _)⟩
  · split at h
    · rename_i hs
      exact .inr ⟨_, _, ra.str_inv, rb.str_inv, small_line hs, h.ret s (.str _)⟩
    · exact h.elim
theorem ipd_sub : IpD X .Sub subD := by
  refine ⟨_, pip_of iop_sub, fun W G H σ x y a b Q s ra rb h => ?_⟩
  cases a <;> cases b <;> simp only [subD] at h <;> try exact h.elim
  exact ⟨_, _, ra.int_inv, rb.int_inv, h.ret s (.int _)⟩
theorem ipd_mul : IpD X .Mult mulD2 := by
  refine ⟨_, pip_of iop_mul, fun W G H σ x y a b Q s ra rb h => ?_⟩
  cases a <;> cases b <;> simp only [mulD2] at h <;> try exact h.elim
  split at h
  · rename_i hc
    exact ⟨_, _, ra.int_inv, rb.int_inv, hc, h.ret s (.int _)⟩
  · exact h.elim
theorem dps_aug {x : Str} {pos' : Pos} {op : Operator} {gD : D → D → R D} (i : Nat) (hN : X.N.Nodup) (ho : IpD X op gD) (he : DPE X e fe) (hi : X.N[i]? = some x := by rfl) (hx : Loc X.env.scope x := by first | exact Or.inl rfl | exact Or.inr rfl) (hf : X.fn x = true ∨ X.env.scope.names.lookup x = some .local := by first | exact .inl rfl | exact .inr rfl | assumption) :
    DPS X (.AugAssign (.Name x pos') op e pos) (bAug i gD fe) := ⟨fun W tk => by
  obtain ⟨t, pt, qt⟩ := ho
  obtain ⟨ta, pa, qa⟩ := he.run W tk
  refine ⟨_, ps_aug (i := i) hN hi hx pa pt hf, fun G0 H0 G δ σ H Dn rr h => ?_⟩
  unfold bAug eVar at h
  split at h
  · rename_i d ed
    obtain ⟨v, e1, e2⟩ := rr.val ed
    rw [eS_ok] at h
    refine ⟨v, e1, qa G0 H0 G δ σ H _ rr (OkS.expr rr h fun y vy G' H' ee gr rr' rp h' => ?_)⟩
    exact qt W G' H' σ v vy d y _ gr.gh (e2.mono gr.gg) rp (OkS.expr rr' h' fun z vz G2 H2 e3 g3 rr3 rp3 h3 => h3 G2 _ H2 (rr3.setVal rp3) (Same.refl _))
  · exact h.elim⟩
def bAugIx (i : Nat) (fi : DEnv → R D) (g : D → D → R D) (e : DEnv → R D) : DEnv → Option SR := fun δ => match δ[i]? with
  | some (some (.own ds)) => eS (fi δ) δ fun k => match k with
    | .int k => match ixN ds.length k with
      | some j => match ds[j]? with
        | some d => eS (e δ) δ fun y => eS (g d y) δ fun z => some (.nx (δ.set i (some (.own (ds.set j z)))))
        | none => none
      | none => none
    | _ => none
  | _ => none
theorem pget_list : PGet X (rIxL X.K) := fun pins s σ H o i ov iv Q I ro ri h => by
  obtain ⟨p, xs, k, z, rfl, rfl, hq, he, q⟩ := h
  cases ro
  obtain ⟨t, rfl⟩ := ri
  obtain ⟨its, r, pl, hz⟩ := I.list hq
  obtain ⟨j, h1, h2, h3, h4, h5⟩ := atI_get he
  obtain ⟨u, eu, ru⟩ := r.get h2
  have hl := r.length
  have hn := line63
  have done : EP X pins σ Q u s := ⟨z, H, I, ru, q⟩
  by_cases h0 : 0 ≤ k
  · have hj : k.toNat = j := by
      rw [PySem.seqIndex_of h0 h5] at h1
      exact Option.some.inj h1
    exact PySem.wpAny_getItem_list pl.isList h0 (by omega) (by rw [hj]; simpa using eu) done
  · have hj : (k + (its.toArray.size : Int)).toNat = j := by
      rw [PySem.seqIndex_neg (by omega) h4] at h1
      rw [List.size_toArray, ← hl]
      exact Option.some.inj h1
    exact PySem.wpAny_getItem_list_neg pl.isList (by omega) (by rw [List.size_toArray]; omega) (by omega) (by rw [hj]; simpa using eu) done
theorem atI_of {α : Type} {xs : List α} {k : Int} {j : Nat} {z : α} (h1 : ixN xs.length k = some j) (h2 : xs[j]? = some z) : atI xs k = some z := by
  unfold atI; rw [h1]; exact h2
theorem dps_augIx {x : Str} {p tpos : Pos} {b : Expr} {fi : DEnv → R D} {op : Operator} {gD : D → D → R D} (i : Nat) (ho : IpD X op gD) (hb : DPE X b fi) (he : DPE X e fe) (hN : X.N[i]? = some x := by rfl) (hv : Vis X.env.scope x := by first | exact Or.inl rfl | exact Or.inr (Or.inl rfl) | exact Or.inr (Or.inr rfl)) (hd : (x == ("__debug__" : Str)) = false := by decide) (hcd : (x == ("__classdict__" : Str)) = false := by decide)
    (ha : ∀ ov iv new, augStore b ov iv new = (do holding [new, ov, iv] (setItem ov iv new); release [new, ov, iv] []; pure Flow.next) := by intros; rfl) :
    DPS X (.AugAssign (.Subscript (.Name x p) b tpos) op e pos) (bAugIx i fi gD fe) := ⟨fun W tk => by
  obtain ⟨t, pt, qt⟩ := ho
  obtain ⟨tb, pb, qb⟩ := hb.run W tk
  obtain ⟨ta, pa, qa⟩ := he.run W tk
  refine ⟨_, ps_augS (pe_var hN hv hd hcd) pb pget_list pa pt set_list ha, fun G0 H0 G δ σ H Dn rr h => ?_⟩
  unfold bAugIx at h
  split at h
  · rename_i ds e1
    obtain ⟨q, vs, e2, e3, e4, e5, e6⟩ := rr.own_at e1
    refine ⟨_, e2, qb G0 H0 G δ σ H _ rr (OkS.expr rr h fun kd kv G1 H1 ek g1 r1 p1 h1 => ?_)⟩
    cases kd <;> try exact h1.elim
    rename_i k
    dsimp only at h1
    split at h1
    · rename_i j hj
      split at h1
      · rename_i d hd'
        obtain ⟨w, ew, rw'⟩ := e6.get hd'
        have hj2 : ixN vs.length k = some j := by rw [e6.1]; exact hj
        refine ⟨q, vs, k, w, rfl, p1.int_inv, SqL.of (g1.hh _ _ e3), atI_of hj2 ew, qa G0 H0 G1 δ σ H1 _ r1 (OkS.expr r1 h1 fun y vy G2 H2 ey g2 r2 p2 h2 => ?_)⟩
        refine qt W G2 H2 σ w vy d y _ g2.gh (rw'.mono (g1.gg.trans g2.gg)) p2 (OkS.expr r2 h2 fun z vz G3 H3 ez g3 r3 p3 h3 => ?_)
        have e3' : H3 q = some (.lst vs) := g3.hh _ _ (g2.hh _ _ (g1.hh _ _ e3))
        exact ⟨q, vs, k, j, rfl, p1.int_inv, e3', hj2, h3 G3 _ _ (r3.mut e1 e2 ((e6.mono (g1.gg.trans (g2.gg.trans g3.gg))).set p3)) (Same.refl _)⟩
      · exact h1.elim
    · exact h1.elim
  · exact h.elim⟩
def bSetIx (i : Nat) (fi : DEnv → R D) (e : DEnv → R D) : DEnv → Option SR := fun δ => eS (e δ) δ fun y => match δ[i]? with
  | some (some (.own ds)) => eS (fi δ) δ fun k => match k with
    | .int k => match ixN ds.length k with
      | some j => some (.nx (δ.set i (some (.own (ds.set j y)))))
      | none => none
    | _ => none
  | _ => none
theorem dps_setIx {x : Str} {p tpos : Pos} {b : Expr} {fi : DEnv → R D} (i : Nat) (hb : DPE X b fi) (he : DPE X e fe) (hN : X.N[i]? = some x := by rfl) (hv : Vis X.env.scope x := by first | exact Or.inl rfl | exact Or.inr (Or.inl rfl) | exact Or.inr (Or.inr rfl)) (hd : (x == ("__debug__" : Str)) = false := by decide) (hcd : (x == ("__classdict__" : Str)) = false := by decide)
    (ha : ∀ v, assign (.Subscript (.Name x p) b tpos) X.env v = (do
      let ov ← holding [v] (eval (.Name x p) X.env)
      let iv ← holding [v, ov] (eval b X.env)
      standAt tpos
      holding [v, ov, iv] (setItem ov iv v)
      release [v, ov, iv] []) := by intro _; rfl)
    (hs : swapsWithSole [.Subscript (.Name x p) b tpos] e pos.line X.env = pure false := by rfl) (hw : swappedStores [.Subscript (.Name x p) b tpos] e X.env = pure none := by rfl)
    (h1 : (assignEach [.Subscript (.Name x p) b tpos] X.env).map (·.2) = [assign (.Subscript (.Name x p) b tpos) X.env] := by rfl) :
    DPS X (.Assign [.Subscript (.Name x p) b tpos] e pos) (bSetIx i fi fe) := ⟨fun W tk => by
  obtain ⟨tb, pb, qb⟩ := hb.run W tk
  obtain ⟨ta, pa, qa⟩ := he.run W tk
  refine ⟨_, ps_asg pa (pg_sub (pe_var hN hv hd hcd) pb set_list ha) hs hw h1, fun G0 H0 G δ σ H Dn rr h => ?_⟩
  refine qa G0 H0 G δ σ H _ rr (OkS.expr rr h fun y vy G1 H1 ey g1 r1 p1 h1 => ?_)
  split at h1
  · rename_i ds e1
    obtain ⟨q, vs, e2, e3, e4, e5, e6⟩ := r1.own_at e1
    refine ⟨_, e2, qb G0 H0 G1 δ σ H1 _ r1 (OkS.expr r1 h1 fun kd kv G2 H2 ek g2 r2 p2 h2 => ?_)⟩
    cases kd <;> try exact h2.elim
    rename_i k
    dsimp only at h2
    split at h2
    · rename_i j hj
      have hj2 : ixN vs.length k = some j := by rw [e6.1]; exact hj
      exact ⟨q, vs, k, j, rfl, p2.int_inv, g2.hh _ _ e3, hj2, h2 G2 _ _ (r2.mut e1 e2 ((e6.mono g2.gg).set (p1.mono g2.gg))) (Same.refl _)⟩
    · exact h2.elim
  · exact h1.elim⟩

structure ErrC (K : PySem.W.Frag) (mg : Str → Option Value) (c : Str) : Prop where
  ex : ∃ C : Addr, mg c = some (.ref C) ∧ PySem.W.excIn K C [.type "ValueError", .type "Exception", .type "BaseException", .type "object"] "ValueError.__new__" = true ∧ PySem.W.keepIn K (.ref C) = true ∧
    PySem.W.subIn K (.ref C) (.type "BaseException") = some true ∧ PySem.W.typeIn K (.ref C) = some (.type "type")
theorem dps_raise {c m : Str} {j : Nat} {p p2 p3 : Pos} (T : ErrC X.K X.mg c) (hc : X.calm = true) (hg : Gl X c := by rfl) (hdb : (c == ("__debug__" : Str)) = false := by decide) : DPS X (.Raise (some (.Call (.Name c p) [.Constant (.str m) j p2] [] p3)) none pos) (bRaise c) := ⟨fun W tk => by
  obtain ⟨C, gC, xC, kC, sC, tC⟩ := T.ex
  refine ⟨_, ps_raise hc tk (pmk_own PySem.F.excBase_ValueError xC gC kC (raises_own sC tC) hg hdb), fun G0 H0 G δ σ H Dn rr h => ?_⟩
  have e : cval X.mg c = .ref C := by unfold cval; rw [gC]; rfl
  have q := h G σ H rr (Same.refl _)
  rw [e] at q
  exact q⟩

def sAll (X : Cx) (body : List Stmt) (W : WX) : TS := fun Dn σ H => ∀ (pn : List (Addr × Obj)) (xe : Value → Shared → Prop) (pins : List (Addr × Obj)) (s : Shared), Takes (X.tr pn xe) W → PassesOwn (model X.prog X.w) X.A X.env xe →
  Inv (X.tr pn xe) pins σ H s → wpAny (model X.prog X.w) X.A (execs body X.env) (SP (X.tr pn xe) pins Dn) xe s
theorem sAll_ok {W : WX} {pn : List (Addr × Obj)} {xe : Value → Shared → Prop} (tk : Takes (X.tr pn xe) W) (hp : PassesOwn (model X.prog X.w) X.A X.env xe) : PSs (X.tr pn xe) body (sAll X body W) := ⟨fun pins s σ H Dn I h => h pn xe pins s tk hp I⟩
def uAll (X : Cx) (suite : List Stmt) (a : Addr) (cls : Value) (d : Option Addr) : TS := fun Dn σ H => ∀ (oe : Obj) (pn pins : List (Addr × Obj)) (s : Shared), Zc cls d oe → (∃ vs, oe.data = .fields vs) →
  Inv (X.suite a ((a, oe) :: pn)) pins σ H s → wpAny (model X.prog X.w) (X.A.mark (some (.ref a))) (execs suite X.env) (SP (X.suite a ((a, oe) :: pn)) pins Dn) (fun _ _ => False) s
theorem uAll_ok {suite : List Stmt} {a : Addr} {oe : Obj} {cls : Value} {d : Option Addr} {pn : List (Addr × Obj)} (hz : Zc cls d oe) (hf : ∃ vs, oe.data = .fields vs) : PSs (X.suite a ((a, oe) :: pn)) suite (uAll X suite a cls d) := ⟨fun pins s σ H Dn I h => h oe pn pins s hz hf I⟩
theorem SRel.reK {K : PySem.W.Frag} {P P' : Addr → Str → Prop} {G0 H0 G H : Hp} {δ : DEnv} {σ : L2.St} (r : SRel ⟨K, P⟩ G0 H0 G δ σ H) (h : ∀ a c, P a c → P' a c) : SRel ⟨K, P'⟩ G0 H0 G δ σ H :=
  ⟨r.len, r.gr, fun i s e => by
    have q := r.slot i s e
    cases s with
    | val d => exact q
    | own xs => exact q
    | exc c => obtain ⟨a, h1, h2⟩ := q; exact ⟨a, h1, h a c h2⟩, r.own⟩
def noExc (δ : DEnv) : DEnv := δ.map fun o => match o with
  | some (.exc _) => none
  | x => x
theorem noExc_some {δ : DEnv} {i : Nat} {s : DS} (h : (noExc δ)[i]? = some (some s)) : δ[i]? = some (some s) ∧ ∀ c, s ≠ .exc c := by
  unfold noExc at h
  rw [List.getElem?_map] at h
  cases e : δ[i]? with
  | none => rw [e] at h; cases h
  | some o =>
    rw [e] at h
    cases o with
    | none => cases h
    | some s' =>
      cases s' with
      | val d => cases h; exact ⟨rfl, fun c z => nomatch z⟩
      | own xs => cases h; exact ⟨rfl, fun c z => nomatch z⟩
      | exc c => cases h
theorem SRel.dropExc {K : PySem.W.Frag} {P P' : Addr → Str → Prop} {G0 H0 G H : Hp} {δ : DEnv} {σ : L2.St} (r : SRel ⟨K, P⟩ G0 H0 G δ σ H) : SRel ⟨K, P'⟩ G0 H0 G (noExc δ) σ H :=
  ⟨by unfold noExc; simpa using r.len, r.gr, fun i s e => by
    obtain ⟨h, n⟩ := noExc_some e
    have q := r.slot i s h
    cases s with
    | val d => exact q
    | own xs => exact q
    | exc c => exact absurd rfl (n c), fun i j ds es a hne e1 e2 => r.own i j ds es a hne (noExc_some e1).1 (noExc_some e2).1⟩
def bTry (tab : Str → Option Bool) (b : DEnv → Option SR) (u : Str → DEnv → Option SR) : DEnv → Option SR := fun δ => match b (noExc δ) with
  | some (.exc c δ') => match tab c with
    | some true => match u c (noExc δ') with
      | some (.nx δ2) => some (.nx (noExc δ2))
      | some (.brk δ2) => some (.brk (noExc δ2))
      | some (.ct δ2) => some (.ct (noExc δ2))
      | some (.ret d) => some (.ret d)
      | _ => none
    | some false => some (.exc c (noExc δ'))
    | none => none
  | some (.nx δ') => some (.nx (noExc δ'))
  | some (.brk δ') => some (.brk (noExc δ'))
  | some (.ct δ') => some (.ct (noExc δ'))
  | r => r
def bTryAs (i : Nat) (tab : Str → Option Bool) (b : DEnv → Option SR) (u : Str → DEnv → Option SR) : DEnv → Option SR := fun δ => match b (noExc δ) with
  | some (.exc c δ') => match tab c with
    | some true => match u c ((noExc δ').set i (some (.exc c))) with
      | some (.nx δ2) => some (.nx ((noExc δ2).set i none))
      | some (.brk δ2) => some (.brk ((noExc δ2).set i none))
      | some (.ct δ2) => some (.ct ((noExc δ2).set i none))
      | some (.ret d) => some (.ret d)
      | _ => none
    | some false => some (.exc c (noExc δ'))
    | none => none
  | some (.nx δ') => some (.nx (noExc δ'))
  | some (.brk δ') => some (.brk (noExc δ'))
  | some (.ct δ') => some (.ct (noExc δ'))
  | r => r
structure CatchC (K : PySem.W.Frag) (mg : Str → Option Value) (x : Str) (tab : Str → Option Bool) : Prop where
  ex : ∃ C : Addr, mg x = some (.ref C) ∧ ∀ c b, tab c = some b → ∃ D : Addr, mg c = some (.ref D) ∧ PySem.W.exmOne K (.ref D) (.ref C) = some b
theorem SRel.noneAt {K : KP} {G0 H0 G H : Hp} {δ : DEnv} {σ : L2.St} (r : SRel K G0 H0 G δ σ H) (i : Nat) : SRel K G0 H0 G (δ.set i none) (σ.set i none) H := by
  have out : ∀ (j : Nat) (s : DS), (δ.set i none)[j]? = some (some s) → i ≠ j ∧ δ[j]? = some (some s) := fun j s e => by
    by_cases h : i = j
    · subst h
      by_cases hl : i < δ.length
      · rw [List.getElem?_set_self hl] at e; cases e
      · rw [List.getElem?_eq_none (by simpa using hl)] at e; cases e
    · rw [List.getElem?_set_ne h] at e
      exact ⟨h, e⟩
  refine ⟨by simp [r.len], r.gr, fun j s e => ?_, fun j k ds es a hne e1 e2 e3 => ?_⟩
  · obtain ⟨h, e⟩ := out j s e
    rw [List.getElem?_set_ne h]
    exact r.slot j s e
  · obtain ⟨h1, e1⟩ := out j _ e1
    obtain ⟨h2, e2⟩ := out k _ e2
    rw [List.getElem?_set_ne h1] at e3
    rw [List.getElem?_set_ne h2]
    exact r.own j k ds es a hne e1 e2 e3
theorem SRel.setExc {K : KP} {G0 H0 G H : Hp} {δ : DEnv} {σ : L2.St} (r : SRel K G0 H0 G δ σ H) {i : Nat} {a : Addr} {c : Str} (h : K.P a c) : SRel K G0 H0 G (δ.set i (some (.exc c))) (σ.set i (some (.ref a))) H := by
  have out : ∀ (j : Nat) (s : DS), i ≠ j → (δ.set i (some (.exc c)))[j]? = some (some s) → δ[j]? = some (some s) := fun j s hj e => by
    rw [List.getElem?_set_ne hj] at e
    exact e
  have self : ∀ (s : DS), (δ.set i (some (.exc c)))[i]? = some (some s) → s = .exc c ∧ i < δ.length := fun s e => by
    by_cases hl : i < δ.length
    · rw [List.getElem?_set_self hl] at e; cases e; exact ⟨rfl, hl⟩
    · rw [List.getElem?_eq_none (by simpa using hl)] at e; cases e
  refine ⟨by simp [r.len], r.gr, fun j s e => ?_, fun j k ds es a' hne e1 e2 e3 => ?_⟩
  · by_cases hj : i = j
    · subst hj
      obtain ⟨rfl, hl⟩ := self s e
      exact ⟨a, by rw [List.getElem?_set_self (by rw [← r.len]; exact hl)], h⟩
    · rw [List.getElem?_set_ne hj]
      exact r.slot j s (out j s hj e)
  · have h1 : i ≠ j := fun z => by subst z; cases (self _ e1).1
    have h2 : i ≠ k := fun z => by subst z; cases (self _ e2).1
    rw [List.getElem?_set_ne h1] at e3
    rw [List.getElem?_set_ne h2]
    exact r.own j k ds es a' hne (out j _ h1 e1) (out k _ h2 e2) e3
theorem srel_base {K : PySem.W.Frag} {mg : Str → Option Value} {pn pn' : List (Addr × Obj)} {G0 H0 G H : Hp} {δ : DEnv} {σ : L2.St} (r : SRel ⟨K, HeldE mg pn⟩ G0 H0 G (noExc δ) σ H) : SRel ⟨K, HeldE mg pn'⟩ G0 H0 G (noExc δ) σ H := by
  refine ⟨r.len, r.gr, fun i s e => ?_, r.own⟩
  obtain ⟨h, n⟩ := noExc_some e
  have q := r.slot i s e
  cases s with
  | val d => exact q
  | own xs => exact q
  | exc c => exact absurd rfl (n c)
theorem ok_none (X : Cx) (W : WX) (G0 H0 G : Hp) (Dn : Ends) : OkS X W G0 H0 G none Dn → False := id
theorem dps_try {b₀ : Stmt} {suite : List Stmt} {x : Str} {np pos' : Pos} {tab : Str → Option Bool} {u : Str → DEnv → Option SR} (T : CatchC X.K X.mg x tab)
    (hb : ∀ (pn : List (Addr × Obj)) (xe : Value → Shared → Prop), PassesOwn (model X.prog X.w) X.A X.env xe → DPSs (X.tr pn xe) body f)
    (hu : ∀ (a : Addr) (oe : Obj) (c : Str) (pn : List (Addr × Obj)), DPSs (X.suite a ((a, oe) :: pn)) (b₀ :: suite) (u c))
    (hs : X.stack = X.env :: X.outer := by rfl) (hf : X.env.frame = some X.env.locals := by rfl) (hg : Gl X x := by rfl) (hdb : (x == ("__debug__" : Str)) = false := by decide) :
    DPS X (.Try body [.ExceptHandler (some (.Name x np)) none (b₀ :: suite) pos'] [] [] pos) (bTry tab f u) := ⟨fun W tk => by
  obtain ⟨C, gC, hC⟩ := T.ex
  refine ⟨_, ps_try_only hs hf ⟨hg, hdb, .inl gC⟩ tk (tb := sAll X body) (ts := uAll X (b₀ :: suite)) (fun W pn xe tk hp => sAll_ok tk hp) (fun a oe cls d pn hz hf => uAll_ok hz hf), fun G0 H0 G δ σ H Dn rr h => ?_⟩
  intro pn xe pins s tkb hpb I
  obtain ⟨tb, pb, qb⟩ := (hb pn xe hpb).run _ tkb
  refine pb.run pins s σ H Dn I (qb G0 H0 G (noExc δ) σ H Dn rr.dropExc ?_)
  unfold bTry at h
  cases e : f (noExc δ) with
  | none => rw [e] at h; exact h
  | some r =>
    cases r with
    | nx δ' => rw [e] at h; exact fun G' σ' H' r' s' => h G' σ' H' r'.dropExc s'
    | brk δ' => rw [e] at h; exact fun G' σ' H' r' s' => h G' σ' H' r'.dropExc s'
    | ct δ' => rw [e] at h; exact fun G' σ' H' r' s' => h G' σ' H' r'.dropExc s'
    | ret d => rw [e] at h; exact h
    | exc c δ' =>
      rw [e] at h
      dsimp only at h
      intro G' σ' H' rr' sG
      cases et : tab c with
      | none => simp only [et] at h; exact h.elim
      | some bb =>
        simp only [et] at h
        obtain ⟨D, gD, xD⟩ := hC c bb et
        have ec : cval X.mg c = .ref D := by unfold cval; rw [gD]; rfl
        have ec' : cval (X.tr pn xe).mg c = .ref D := ec
        rw [ec']
        refine ⟨bb, xD, fun eb a na => ?_, fun eb => ?_⟩
        · subst eb
          intro oe pn' pins' s' hz hf' I'
          obtain ⟨tu, pu, qu⟩ := (hu a oe c pn').run (fun _ _ _ _ => False) takes0
          refine pu.run pins' s' σ' H' Dn I' (qu G0 H0 G' (noExc δ') σ' H' Dn rr'.dropExc ?_)
          cases eu : u c (noExc δ') with
          | none => simp only [eu] at h; exact h.elim
          | some r2 =>
            cases r2 with
            | nx δ2 => simp only [eu] at h; exact fun G2 σ2 H2 r2 s2 => h G2 σ2 H2 r2.dropExc (sG.trans s2)
            | brk δ2 => simp only [eu] at h; exact fun G2 σ2 H2 r2 s2 => h G2 σ2 H2 r2.dropExc (sG.trans s2)
            | ct δ2 => simp only [eu] at h; exact fun G2 σ2 H2 r2 s2 => h G2 σ2 H2 r2.dropExc (sG.trans s2)
            | ret d => simp only [eu] at h; exact h
            | exc c2 δ2 => simp only [eu] at h; exact h.elim
        · subst eb
          have q := h G' σ' H' rr'.dropExc sG
          rw [ec] at q
          exact q⟩
theorem dps_tryAs {b₀ : Stmt} {suite : List Stmt} {x n : Str} {np pos' : Pos} {tab : Str → Option Bool} {u : Str → DEnv → Option SR} (i : Nat) (hN : X.N.Nodup) (T : CatchC X.K X.mg x tab)
    (hb : ∀ (pn : List (Addr × Obj)) (xe : Value → Shared → Prop), PassesOwn (model X.prog X.w) X.A X.env xe → DPSs (X.tr pn xe) body f)
    (hu : ∀ (a : Addr) (oe : Obj) (c : Str) (pn : List (Addr × Obj)), DPSs (X.suite a ((a, oe) :: pn)) (b₀ :: suite) (u c))
    (hi : X.N[i]? = some n := by rfl) (hln : X.env.kindOf n = some .local := by rfl)
    (hs : X.stack = X.env :: X.outer := by rfl) (hf : X.env.frame = some X.env.locals := by rfl) (hg : Gl X x := by rfl) (hdb : (x == ("__debug__" : Str)) = false := by decide) :
    DPS X (.Try body [.ExceptHandler (some (.Name x np)) (some n) (b₀ :: suite) pos'] [] [] pos) (bTryAs i tab f u) := ⟨fun W tk => by
  obtain ⟨C, gC, hC⟩ := T.ex
  refine ⟨_, ps_try_as (i := i) hs hf hN hi hln ⟨hg, hdb, .inl gC⟩ tk (tb := sAll X body) (ts := uAll X (b₀ :: suite)) (fun W pn xe tk hp => sAll_ok tk hp) (fun a oe cls d pn hz hf => uAll_ok hz hf), fun G0 H0 G δ σ H Dn rr h => ?_⟩
  intro pn xe pins s tkb hpb I
  obtain ⟨tb, pb, qb⟩ := (hb pn xe hpb).run _ tkb
  refine pb.run pins s σ H Dn I (qb G0 H0 G (noExc δ) σ H Dn rr.dropExc ?_)
  unfold bTryAs at h
  cases e : f (noExc δ) with
  | none => rw [e] at h; exact h
  | some r =>
    cases r with
    | nx δ' => rw [e] at h; exact fun G' σ' H' r' s' => h G' σ' H' r'.dropExc s'
    | brk δ' => rw [e] at h; exact fun G' σ' H' r' s' => h G' σ' H' r'.dropExc s'
    | ct δ' => rw [e] at h; exact fun G' σ' H' r' s' => h G' σ' H' r'.dropExc s'
    | ret d => rw [e] at h; exact h
    | exc c δ' =>
      rw [e] at h
      dsimp only at h
      intro G' σ' H' rr' sG
      cases et : tab c with
      | none => simp only [et] at h; exact h.elim
      | some bb =>
        simp only [et] at h
        obtain ⟨D, gD, xD⟩ := hC c bb et
        have ec : cval X.mg c = .ref D := by unfold cval; rw [gD]; rfl
        have ec' : cval (X.tr pn xe).mg c = .ref D := ec
        rw [ec']
        refine ⟨bb, xD, fun eb a na => ?_, fun eb => ?_⟩
        · subst eb
          intro oe pn' pins' s' hz hf' I'
          obtain ⟨tu, pu, qu⟩ := (hu a oe c pn').run (fun _ _ _ _ => False) takes0
          have held : HeldE X.mg ((a, oe) :: pn') a c := ⟨oe, D, List.mem_cons_self, ec, hz, hf'⟩
          have rr2 : SRel (kx (X.suite a ((a, oe) :: pn'))) G0 H0 G' ((noExc δ').set i (some (.exc c))) (σ'.set i (some (.ref a))) H' := SRel.setExc (K := kx (X.suite a ((a, oe) :: pn'))) rr'.dropExc held
          refine pu.run pins' s' _ H' _ I' (qu G0 H0 G' _ _ H' _ rr2 ?_)
          cases eu : u c ((noExc δ').set i (some (.exc c))) with
          | none => simp only [eu] at h; exact h.elim
          | some r2 =>
            cases r2 with
            | nx δ2 => simp only [eu] at h; exact fun G2 σ2 H2 r2 s2 => h G2 _ H2 (SRel.noneAt (K := kx X) r2.dropExc i) (sG.trans s2)
            | brk δ2 => simp only [eu] at h; exact fun G2 σ2 H2 r2 s2 => h G2 _ H2 (SRel.noneAt (K := kx X) r2.dropExc i) (sG.trans s2)
            | ct δ2 => simp only [eu] at h; exact fun G2 σ2 H2 r2 s2 => h G2 _ H2 (SRel.noneAt (K := kx X) r2.dropExc i) (sG.trans s2)
            | ret d => simp only [eu] at h; exact h
            | exc c2 δ2 => simp only [eu] at h; exact h.elim
        · subst eb
          have q := h G' σ' H' rr'.dropExc sG
          rw [ec] at q
          exact q⟩
end
end DL

namespace DL
open PySem PySem.Spec L2

def isTy (d : D) (T : String) : Option Bool := match d with
  | .non => if T = "list" ∨ T = "tuple" ∨ T = "dict" ∨ T = "bool" ∨ T = "int" ∨ T = "str" then some false else none
  | .bl _ => if T = "bool" ∨ T = "int" then some true else if T = "list" ∨ T = "tuple" ∨ T = "dict" ∨ T = "str" then some false else none
  | .int _ => if T = "int" then some true else if T = "list" ∨ T = "tuple" ∨ T = "dict" ∨ T = "bool" ∨ T = "str" then some false else none
  | .str _ => if T = "str" then some true else if T = "list" ∨ T = "tuple" ∨ T = "dict" ∨ T = "bool" ∨ T = "int" then some false else none
  | .tup _ => if T = "tuple" then some true else if T = "list" ∨ T = "dict" ∨ T = "bool" ∨ T = "int" ∨ T = "str" then some false else none
  | .lst _ => if T = "list" then some true else if T = "tuple" ∨ T = "dict" ∨ T = "bool" ∨ T = "int" ∨ T = "str" then some false else none
  | _ => none
def isiD : List D → R D
  | [d, .ty T] => match isTy d T with
    | some b => some (.ok (.bl b))
    | none => none
  | _ => none
theorem isTy_ok {K : PySem.W.Frag} {G H : Hp} {x : V} {d : D} {T : String} {b : Bool} (s : Same G H) (r : Rep K G x d) (h : isTy d T = some b) : ∃ t, TyX K H x (.type t) ∧ PySem.W.kitOne K (.type t) (.type T) = some b := by
  cases r with
  | non =>
    refine ⟨"NoneType", .base .non, ?_⟩
    unfold isTy at h
    dsimp only at h
    split at h
    · rename_i hT
      cases h
      rcases hT with rfl | rfl | rfl | rfl | rfl | rfl <;> exact kit_ty (by decide +kernel)
    · cases h
  | bl k =>
    refine ⟨"bool", .base (.bl k), ?_⟩
    unfold isTy at h
    dsimp only at h
    split at h
    · rename_i hT
      cases h
      rcases hT with rfl | rfl <;> exact kit_ty (by decide +kernel)
    · split at h
      · rename_i hT
        cases h
        rcases hT with rfl | rfl | rfl | rfl <;> exact kit_ty (by decide +kernel)
      · cases h
  | int k =>
    refine ⟨"int", .base (.int k), ?_⟩
    unfold isTy at h
    dsimp only at h
    split at h
    · rename_i hT
      cases h
      subst hT
      exact kit_ty (by decide +kernel)
    · split at h
      · rename_i hT
        cases h
        rcases hT with rfl | rfl | rfl | rfl | rfl <;> exact kit_ty (by decide +kernel)
      · cases h
  | str k =>
    refine ⟨"str", .base (.str k), ?_⟩
    unfold isTy at h
    dsimp only at h
    split at h
    · rename_i hT
      cases h
      subst hT
      exact kit_ty (by decide +kernel)
    · split at h
      · rename_i hT
        cases h
        rcases hT with rfl | rfl | rfl | rfl | rfl <;> exact kit_ty (by decide +kernel)
      · cases h
  | raw a => simp [isTy] at h
  | ty n => simp [isTy] at h
  | frz _ _ _ => simp [isTy] at h
  | @tup a0 _ _ h1 h2 h3 =>
    have ht : TyX K H (.ref a0) (.type "tuple") := by
      rcases same_t s h1 with (q | ⟨o, q⟩) | ⟨o, its, n, q, hc, _⟩
      · exact .base (.tup q)
      · exact .fTuple q
      · exact .kTuple q hc
    refine ⟨"tuple", ht, ?_⟩
    unfold isTy at h
    dsimp only at h
    split at h
    · rename_i hT
      cases h
      subst hT
      exact kit_ty (by decide +kernel)
    · split at h
      · rename_i hT
        cases h
        rcases hT with rfl | rfl | rfl | rfl | rfl <;> exact kit_ty (by decide +kernel)
      · cases h
  | lst h1 h2 h3 =>
    refine ⟨"list", .base (.lst (s _ _ h1)), ?_⟩
    unfold isTy at h
    dsimp only at h
    split at h
    · rename_i hT
      cases h
      subst hT
      exact kit_ty (by decide +kernel)
    · split at h
      · rename_i hT
        cases h
        rcases hT with rfl | rfl | rfl | rfl | rfl <;> exact kit_ty (by decide +kernel)
      · cases h
section
variable {X : Cx}
theorem cd_isi : CallD X (.builtin "isinstance") isiD := by
  refine ⟨_, call_isi, fun W G H σ xs ds Q s rp h => ?_⟩
  unfold isiD at h
  split at h
  · rename_i d T
    obtain ⟨v, w, rfl, r1, r2⟩ := two_inv rp
    cases r2.ty_inv
    split at h
    · rename_i b hb
      obtain ⟨t, ht, hk⟩ := isTy_ok s r1 hb
      exact ⟨v, .ty T, .type t, .type T, b, rfl, .ty T, ht, hk, h.ret s (.bl b)⟩
    · exact h.elim
  · exact h.elim
def rIsH (X : Cx) : List V → Hp → VK → Prop := fun xs H Q => ∃ (a C D : Addr) (oe : Obj) (b : Bool), xs = [.ref a, .ref C] ∧ (a, oe) ∈ X.pn ∧ ExcC X.K D ∧ Zc (.ref D) none oe ∧ (∃ vs, oe.data = .fields vs) ∧ PySem.W.kitOne X.K (.ref D) (.ref C) = some b ∧ Q (.bl b) H
theorem call_isH : CallR X (.builtin "isinstance") (rIsH X) := by
  intro pins s σ H xs us Q I r h
  obtain ⟨a, C, E, oe, b, rfl, hp, ec, hz, ⟨vs, hv⟩, hk, q⟩ := h
  obtain ⟨u1, u2, rfl, r1, r2⟩ := vals2 r
  cases r1
  cases r2
  obtain ⟨hget, _⟩ := I.pin (a, oe) (List.mem_append.mpr (.inl hp))
  have J : PySem.W.InstAt s.heap a oe E none := by
    obtain ⟨oc, od, oda, osl⟩ := oe
    obtain ⟨h1, h2⟩ := hz
    dsimp only at h1 h2 hv
    subst h1 h2 hv
    exact ⟨hget, rfl, rfl, trivial⟩
  exact PySem.W.kia_one (PySem.W.handS_kitx_exc ec.hg ec.hk ec.hs ec.hd ec.ha ec.hn ec.ht ec.hm) I.kIn J hk (fun z => nomatch z) fun tk => ⟨.bl b, H, I.kept (t' := tk) fun _ _ z => z, rfl, q⟩
structure IsC (K : PySem.W.Frag) (mg : Str → Option Value) (x : Str) (tab : Str → Option Bool) : Prop where
  ex : ∃ C : Addr, mg x = some (.ref C) ∧ ∀ c b, tab c = some b → ∃ E : Addr, mg c = some (.ref E) ∧ ExcC K E ∧ PySem.W.kitOne K (.ref E) (.ref C) = some b
def eIsE (i : Nat) (tab : Str → Option Bool) : DEnv → R D := fun δ => match δ[i]? with
  | some (some (.exc c)) => match tab c with
    | some b => some (.ok (.bl b))
    | none => none
  | _ => none
theorem dpe_isE {n x : Str} {pl p1 p2 pos : Pos} {tab : Str → Option Bool} (i : Nat) (T : IsC X.K X.mg x tab) (hm : X.mg "isinstance" = none) (hg : Gl X "isinstance" := by rfl) (hgx : Gl X x := by rfl) (hdx : (x == ("__debug__" : Str)) = false := by decide)
    (hN : X.N[i]? = some n := by rfl) (hv : Vis X.env.scope n := by first | exact Or.inl rfl | exact Or.inr (Or.inl rfl) | exact Or.inr (Or.inr rfl)) (hd : (n == ("__debug__" : Str)) = false := by decide) (hcd : (n == ("__classdict__" : Str)) = false := by decide)
    (hs : starEach [(.Name n p1), (.Name x p2)] X.env = (false, eval (.Name n p1) X.env) :: starEach [(.Name x p2)] X.env := by rfl) (hs2 : starEach [(.Name x p2)] X.env = (false, eval (.Name x p2) X.env) :: starEach [] X.env := by rfl) (hpl : (backTo pos (starEach [(.Name x p2)] X.env)).any (·.1) = false := by rfl) :
    DPE X (.Call (.Name "isinstance" pl) [.Name n p1, .Name x p2] [] pos) (eIsE i tab) := ⟨fun W tk => by
  obtain ⟨C, gC, hC⟩ := T.ex
  refine ⟨_, pe_callB call_isH hg hm (by decide +kernel) (pa_cons (pe_var hN hv hd hcd) (pa_cons (pe_glob (v := .ref C) hgx gC rfl hdx) pa_nil hs2) hs) (by decide) (by decide) hs hpl, fun G0 H0 G δ σ H Q rr h => ?_⟩
  unfold eIsE at h
  split at h
  · rename_i c e
    split at h
    · rename_i b hb
      obtain ⟨a, ea, oe, E1, hp, ec, hz, hf⟩ := rr.slot i _ e
      obtain ⟨E2, gE, xE, kE⟩ := hC c b hb
      have e2 : cval X.mg c = .ref E2 := by unfold cval; rw [gE]; rfl
      rw [e2] at ec
      have ee : E2 = E1 := Value.ref.inj ec
      subst ee
      exact ⟨_, ea, a, C, E2, oe, b, rfl, hp, xE, hz, hf, kE, h.ret rr.gr.gh (.bl b)⟩
    · exact h.elim
  · exact h.elim⟩

def bitsD : D → R D
  | .int i => some (.ok (.int (bitsOf i : Nat)))
  | _ => none
theorem dpe_bits {o : Expr} {fo : DEnv → R D} {apos pos : Pos} (ho : DPE X o fo) (hbase : attributeBase o "bit_length" X.env (eval o X.env) = eval o X.env := by rfl) (hline : (apos.endLine == pos.line) = true := by rfl) : DPE X (.Call (.Attribute o "bit_length" apos) [] [] pos) (eUn bitsD fo) := ⟨fun W tk => by
  obtain ⟨ta, pa, qa⟩ := ho.run W tk
  refine ⟨_, pe_bits pa hbase hline, fun G0 H0 G δ σ H Q rr h => qa G0 H0 G δ σ H _ rr (Ok1.bind h fun d v G' H' e gr rp h' => ?_)⟩
  cases d <;> simp only [bitsD] at h' <;> try exact h'.elim
  exact ⟨_, rp.int_inv, h'.ret gr.gh (.int _)⟩⟩
def isqrtD : List D → R D
  | [.int a] => if 0 ≤ a ∧ a.toNat.log2 ≤ 13469 then some (.ok (.int ((Float64.isqrt a.toNat : Nat) : Int))) else none
  | _ => none
theorem cd_isqrt : CallD X (.builtin "math.isqrt") isqrtD := by
  refine ⟨fun xs H Q => ∃ a : Int, xs = [.int a] ∧ 0 ≤ a ∧ a.toNat.log2 ≤ 13469 ∧ Q (.int ((Float64.isqrt a.toNat : Nat) : Int)) H, fun pins s σ H xs us Q I r h => ?_, fun W G H σ xs ds Q s rp h => ?_⟩
  · obtain ⟨a, rfl, h0, h1, q⟩ := h
    obtain ⟨u, rfl, t, rfl⟩ := vals1 r
    exact call_function_meets PySem.W.MGF.kind_isqrt PySem.W.MGF.plain_isqrt PySem.W.MGF.entry_isqrt (PySem.W.MGF.args_isqrt _) (PySem.W.mg_run_isqrt a t (by omega) (by omega) (by omega)).meets ⟨.int _, H, I.tok _, ⟨_, rfl⟩, q⟩
  · unfold isqrtD at h
    split at h
    · split at h
      · rename_i hc
        obtain ⟨v, rfl, r1⟩ := one_inv rp
        exact ⟨_, by rw [r1.int_inv], hc.1, hc.2, h.ret s (.int _)⟩
      · exact h.elim
    · exact h.elim
def gcdD : List D → R D
  | [.int a, .int b] => some (.ok (.int ((Nat.gcd a.natAbs b.natAbs : Nat) : Int)))
  | _ => none
theorem cd_gcd : CallD X (.builtin "math.gcd") gcdD := by
  refine ⟨_, cr_gcd, fun W G H σ xs ds Q s rp h => ?_⟩
  unfold gcdD at h
  split at h
  · obtain ⟨v, w, rfl, r1, r2⟩ := two_inv rp
    exact ⟨_, _, by rw [r1.int_inv, r2.int_inv], h.ret s (.int _)⟩
  · exact h.elim

def gTL (gs : List D → DEnv → Option DEnv) : D → DEnv → Option DEnv := fun d δ => match d with
  | .lst xs => gs xs δ
  | _ => none
theorem dpg_tupL {es : List Expr} {k : Nat} {pos : Pos} {ss : List Nat} {gs : List D → DEnv → Option DEnv} (hc : X.calm = true) (h : DPGs X es ss gs) (n : Nat) (hl : ∀ ds δ, ds.length ≠ n → gs ds δ = none) (hn : (assignEach es X.env).length = n := by rfl)
    (hst : (assignEach es X.env).findIdx? (·.1) = none := by rfl) : DPG X (.Tuple es k pos) ss (gTL gs) := by
  obtain ⟨t, p, q⟩ := h.run
  refine ⟨⟨_, pg_lst hc p hn hst, fun G0 H0 G δ σ H v d Q rr rp h => ?_⟩, fun d δ δ' h' n => by
    cases d <;> simp only [gTL, reduceCtorEq] at h'
    exact h.noown _ δ δ' h' n⟩
  cases d <;> simp only [gTL] at h <;> try exact h.elim
  rename_i xs
  obtain ⟨a, vs, rfl, h3, r3⟩ := rp.lst_inv
  refine ⟨a, vs, rfl, SqL.of (rr.gr.gh _ _ h3), ?_, q G0 H0 G δ σ H vs xs Q rr r3 h⟩
  rw [r3.1]
  by_cases hx : xs.length = n
  · exact hx
  · rw [hl xs δ hx] at h; exact h.elim
theorem gs_len0 : ∀ (ds : List D) (δ : DEnv), ds.length ≠ 0 → gsNil ds δ = none := fun ds δ h => by
  cases ds with
  | nil => exact absurd rfl h
  | cons d r => rfl
theorem gs_lenS {n : Nat} {g : D → DEnv → Option DEnv} {gs : List D → DEnv → Option DEnv} (h : ∀ (ds : List D) (δ : DEnv), ds.length ≠ n → gs ds δ = none) : ∀ (ds : List D) (δ : DEnv), ds.length ≠ n + 1 → gsCons g gs ds δ = none := fun ds δ hl => by
  cases ds with
  | nil => rfl
  | cons d r =>
    simp only [gsCons]
    split
    · exact h _ _ (by simpa using hl)
    · rfl
end

def runF (n : Nat) (b : DEnv → Option SR) (ds : List D) : R D := match b (ds.map (fun d => some (.val d)) ++ List.replicate (n - ds.length) none) with
  | some (.ret d) => some (.ok d)
  | some (.nx _) => some (.ok .non)
  | some (.exc c _) => some (.error c)
  | _ => none
theorem start_srel {K : KP} {G H : Hp} {N : List Str} {vs : List V} {ds : List D} (s : Same G H) (r : Reps K.K G vs ds) : SRel K G H G (ds.map (fun d => some (.val d)) ++ List.replicate (N.length - ds.length) none) (L2.start N vs) H := by
  have hl := r.1
  have get : ∀ (i : Nat) (x : DS), (ds.map (fun d => some (DS.val d)) ++ List.replicate (N.length - ds.length) none)[i]? = some (some x) → ∃ d, x = .val d ∧ ds[i]? = some d := fun i x e => by
    by_cases hi : i < ds.length
    · rw [List.getElem?_append_left (by simpa using hi), List.getElem?_map] at e
      cases q : ds[i]? with
      | none => rw [q] at e; cases e
      | some d => rw [q] at e; cases e; exact ⟨d, rfl, rfl⟩
    · rw [List.getElem?_append_right (by simpa using hi), List.getElem?_replicate] at e
      split at e <;> cases e
  refine ⟨by unfold L2.start; simp [hl], Gr.refl s, fun i x e => ?_, fun i j xs ys a hne e => ?_⟩
  · obtain ⟨d, rfl, hd⟩ := get i x e
    obtain ⟨v, hv, rv⟩ := r.get hd
    refine ⟨v, ?_, rv⟩
    unfold L2.start
    rw [List.getElem?_append_left (by simpa using (List.getElem?_eq_some_iff.mp hv).1), List.getElem?_map, hv]
    rfl
  · obtain ⟨d, h, _⟩ := get i _ e
    cases h
section
variable {P : Program} {w : World} {K : PySem.W.Frag} {mg : Str → Option Value} {base : Heap}
theorem dfn {x qual : Str} {params : Arguments} {body : List Stmt} {scope : Scope} {f : Addr} {fd : FuncData} {N ps : List Str} {k m : Nat} {b : DEnv → Option SR} (F : FunD K x qual params body scope [] [] f fd) (S : FnScope N ps scope) (hm : ps.length = m)
    (h : ∀ (cdv : Value) (A : Around) (outer : List Env) (s : Shared) (H : Hp) (E : XK), Room k (A.deeper (PyProof.Rows.envOfC qual scope s.heap.objs.size f cdv)) → DPSs (cxOf (L2.CX P w) P w K mg base N qual scope f cdv A outer s H E) body b) :
    FnOk P w K mg base (L2.CX P w) (k + 1) f fd ps (spD K mg m (runF N.length b)) := by
  refine F.ok S (fun vs H Q E q => ?_) fun cdv A outer s H vs Q E hr q => ?_
  · obtain ⟨G, ds, _, r, hl, _⟩ := q
    rw [r.1, hl, hm]
  · obtain ⟨G, ds, sg, r, hl, q⟩ := q
    obtain ⟨ts, ps, qs⟩ := (h cdv A outer s H E hr).run (fun cls d _ H => E cls d H) (takes_of rfl rfl rfl rfl)
    refine ⟨ts, ps, qs G H G _ (L2.start N vs) H _ (start_srel sg r) ?_⟩
    unfold runF at q
    split at q
    · rename_i d e
      split at e
      · rename_i d' e'
        cases e
        rw [e']
        exact fun G' v H' gr rp => q v G' H' gr rp
      · rename_i δ' e'
        cases e
        rw [e']
        exact fun G' σ' H' rr _ => q .non G' H' rr.gr .non
      · cases e
      · cases e
    · rename_i c e
      split at e
      · cases e
      · cases e
      · rename_i c' δ' e'
        cases e
        rw [e']
        exact fun G' σ' H' rr _ => q G' H' rr.gr
      · cases e
    · exact q.elim
end
end DL

namespace DL
open PySem PySem.Spec L2
section
variable {X : Cx}
theorem dps_setLc {y : Str} {py : Pos} {elt tg iter : Expr} {ifs : List Expr} {scope : Scope} {own : List (Str × Nat)} {pos spos : Pos} {ss : List Nat} {src : DEnv → R (List D)} {gD : D → DEnv → Option DEnv} {tD : DEnv → R Bool} {eD : DEnv → R D}
    (i : Nat) (hN : X.N.Nodup) (hi : DPI X tg iter src) (ok : BlkOk X.N X.env.scope scope own)
    (hg : ∀ (s : Shared) (H : Hp) (C : Addr) (cl : List (Str × Addr)) (fp : List Addr), DPG (X.blk s H scope (compEnvC scope cl C X.env) fp) tg ss gD)
    (ht : ∀ (s : Shared) (H : Hp) (C : Addr) (cl : List (Str × Addr)) (fp : List Addr), DPTs (X.blk s H scope (compEnvC scope cl C X.env) fp) ifs tD)
    (he : ∀ (s : Shared) (H : Hp) (C : Addr) (cl : List (Str × Addr)) (fp : List Addr), DPE (X.blk s H scope (compEnvC scope cl C X.env) fp) elt eD)
    (hss : ∀ j ∈ ss, j ∈ own.map (·.2)) (hc : X.calm = true := by rfl) (hy : X.N[i]? = some y := by rfl) (hyl : X.env.scope.names.lookup y = some .local := by rfl)
    (hsw : swapsWith (.ListComp elt [⟨tg, iter, ifs, 0⟩] scope pos) (some (.Name y py)) spos.line X.env = pure true := by exact sw_true rfl rfl rfl (by decide +kernel)) (hs : ∀ x, foldedSetIterable iter X.env x = pure x := by intro _; rfl) :
    DPS X (.Assign [.Name y py] (.ListComp elt [⟨tg, iter, ifs, 0⟩] scope pos) spos) (bSet (gN i) (eLC src (own.map (·.2)) gD tD eD)) := ⟨fun W tk => by
  obtain ⟨wi, pi, qi⟩ := hi.run W tk
  refine ⟨_, ps_setLc (i := i) (g := gAll X scope tg) (tt := tAll X scope ifs) (te := eAll X scope elt) hc hN hy hyl hsw pi ok (fun s H C cl fp => gAll_ok) (fun s H C cl fp => tAll_ok) (fun s H C cl fp => eAll_ok) hs, fun G0 H0 G δ σ H Dn rr h => ?_⟩
  have h' : Ok1 X.mg W (Rep X.K) G H σ (eLC src (own.map (·.2)) gD tD eD δ) (fun x H1 => gName i x σ H1 Dn.nx) := OkS.expr rr h fun d v G' H' e gr rr' rp h' => h' G' _ H' (rr'.setVal rp) (Same.refl _)
  refine qi G0 H0 G δ σ H _ rr (OkI.lc h' fun ds J G' H' gr w h' Dn hDn => ?_)
  split at h'
  · rename_i hsm
    split at h'
    · rename_i ys hys
      exact lc_sat (K := kb X) ((rr.ext gr).strip) w hDn hsm hss (fun G δ σ H v d Q r1 r2 h => gAll_sat hg r1 r2 h) (fun G δ σ H Q r1 h => tAll_sat ht r1 h) (fun G δ σ H Q r1 h => eAll_sat he r1 h) hys fun G2 H2 zs g2 h2 h3 =>
        h'.retG g2 (.lst' h2 h3)
    · exact h'.elim
  · exact h'.elim⟩
theorem dps_setLc2 {y : Str} {py : Pos} {elt tg iter tg1 iter1 : Expr} {ifs ifs1 : List Expr} {scope : Scope} {own : List (Str × Nat)} {vs1 ss ss1 : List Nat} {pos spos : Pos} {src src1 : DEnv → R (List D)} {gD g1D : D → DEnv → Option DEnv} {tD t1D : DEnv → R Bool} {eD : DEnv → R D}
    (i : Nat) (hN : X.N.Nodup) (hi : DPI X tg iter src) (ok : BlkOk X.N X.env.scope scope own) (hv : ∀ i ∈ vs1, i ∈ own.map (·.2))
    (hg : ∀ (s : Shared) (H : Hp) (C : Addr) (cl : List (Str × Addr)) (fp : List Addr), DPG (X.blk s H scope (compEnvC scope cl C X.env) fp) tg ss gD)
    (ht : ∀ (s : Shared) (H : Hp) (C : Addr) (cl : List (Str × Addr)) (fp : List Addr), DPTs (X.blk s H scope (compEnvC scope cl C X.env) fp) ifs tD)
    (hi1 : ∀ (s : Shared) (H : Hp) (C : Addr) (cl : List (Str × Addr)) (fp : List Addr), DPI (X.blk s H scope (compEnvC scope cl C X.env) fp) tg1 iter1 src1)
    (hg1 : ∀ (s : Shared) (H : Hp) (C : Addr) (cl : List (Str × Addr)) (fp : List Addr), DPG (X.blk s H scope (compEnvC scope cl C X.env) fp) tg1 ss1 g1D)
    (ht1 : ∀ (s : Shared) (H : Hp) (C : Addr) (cl : List (Str × Addr)) (fp : List Addr), DPTs (X.blk s H scope (compEnvC scope cl C X.env) fp) ifs1 t1D)
    (he : ∀ (s : Shared) (H : Hp) (C : Addr) (cl : List (Str × Addr)) (fp : List Addr), DPE (X.blk s H scope (compEnvC scope cl C X.env) fp) elt eD)
    (hgn : ∀ d δ δ', gD d δ = some δ' → NoOwn δ → NoOwn δ') (hss : ∀ j ∈ ss, j ∈ own.map (·.2)) (hss1 : ∀ j ∈ ss1, j ∈ vs1)
    (hc : X.calm = true := by rfl) (hy : X.N[i]? = some y := by rfl) (hyl : X.env.scope.names.lookup y = some .local := by rfl)
    (hsw : swapsWith (.ListComp elt [⟨tg, iter, ifs, 0⟩, ⟨tg1, iter1, ifs1, 0⟩] scope pos) (some (.Name y py)) spos.line X.env = pure true := by exact sw_true rfl rfl rfl (by decide +kernel)) (hs : ∀ x, foldedSetIterable iter X.env x = pure x := by intro _; rfl) (hs1 : ∀ env x, foldedSetIterable iter1 env x = pure x := by intro _ _; rfl) :
    DPS X (.Assign [.Name y py] (.ListComp elt [⟨tg, iter, ifs, 0⟩, ⟨tg1, iter1, ifs1, 0⟩] scope pos) spos) (bSet (gN i) (eLC2 src (own.map (·.2)) vs1 gD tD src1 g1D t1D eD)) := ⟨fun W tk => by
  obtain ⟨wi, pi, qi⟩ := hi.run W tk
  refine ⟨_, ps_setLc2 (i := i) (g := gAll X scope tg) (tt := tAll X scope ifs) (wi1 := iAll X scope tg1 iter1) (g1 := gAll X scope tg1) (tt1 := tAll X scope ifs1) (te := eAll X scope elt) hc hN hy hyl hsw pi ok hv (fun s H C cl fp => gAll_ok) (fun s H C cl fp => tAll_ok)
    (fun s H C cl fp => iAll_ok) (fun s H C cl fp => gAll_ok) (fun s H C cl fp => tAll_ok) (fun s H C cl fp => eAll_ok) hs hs1, fun G0 H0 G δ σ H Dn rr h => ?_⟩
  have h' : Ok1 X.mg W (Rep X.K) G H σ (eLC2 src (own.map (·.2)) vs1 gD tD src1 g1D t1D eD δ) (fun x H1 => gName i x σ H1 Dn.nx) := OkS.expr rr h fun d v G' H' e gr rr' rp h' => h' G' _ H' (rr'.setVal rp) (Same.refl _)
  refine qi G0 H0 G δ σ H _ rr (OkI.lc h' fun ds J G' H' gr w h' Dn hDn => ?_)
  split at h'
  · rename_i ys hys
    split at h'
    · rename_i hsm
      exact lc2_sat (K := kb X) ((rr.ext gr).strip) w hDn hsm hss hss1 (fun G δ σ H v d Q r1 r2 h => gAll_sat hg r1 r2 h) hgn (fun G δ σ H v d Q r1 r2 h => gAll_sat hg1 r1 r2 h) (fun G δ σ H Q r1 h => tAll_sat ht r1 h) (fun G δ σ H Q r1 h => tAll_sat ht1 r1 h)
        (fun G δ σ H Q r1 h => iAll_sat hi1 r1 h) (fun G δ σ H Q r1 h => eAll_sat he r1 h) hys fun G2 H2 zs g2 h2 h3 => h'.retG g2 (.lst' h2 h3)
    · exact h'.elim
  · exact h'.elim⟩
theorem gN_noown (i : Nat) : ∀ d δ δ', gN i d δ = some δ' → NoOwn δ → NoOwn δ' := fun d δ δ' h n j ds e => by
  simp only [gN, Option.some.injEq] at h
  subst h
  by_cases hj : i = j
  · subst hj
    by_cases hl : i < δ.length
    · rw [List.getElem?_set_self hl] at e; cases e
    · rw [List.getElem?_eq_none (by simpa using hl)] at e; cases e
  · rw [List.getElem?_set_ne hj] at e
    exact n j ds e
def HasDef (K : PySem.W.Frag) (mg : Str → Option Value) (x : Str) (st : Stmt) : Prop := ∃ (f : Addr) (fd : FuncData), FunD K x x (defArgs st) (defBody st) (defScope st) [] [] f fd ∧ mg x = some (.ref f)
end
end DL

namespace DL
open PySem PySem.Spec L2 PyProof.Rows

abbrev PI := Int × Int
def pv (p : PI) : List Int := [p.1, p.2]
def pbig : List PI → Int
  | [] => 1
  | p :: ps => pbig ps + (if p.2 < 0 then -p.2 else p.2)
theorem pbig_pos : ∀ ps : List PI, 1 ≤ pbig ps
  | [] => Int.le_refl _
  | p :: ps => by have := pbig_pos ps; unfold pbig; split <;> omega
theorem pbig_mem : ∀ (ps : List PI) (p : PI), p ∈ ps → -pbig ps < p.2 ∧ p.2 < pbig ps
  | [], p, h => nomatch h
  | q :: ps, p, h => by
    have h0 := pbig_pos ps
    unfold pbig
    rcases List.mem_cons.mp h with rfl | h
    · split <;> omega
    · have := pbig_mem ps p h
      split <;> omega
def prank (B : Int) (ns : List Int) : Int := match ns with
  | [x, y] => x * (2 * B) + y
  | _ => 0
theorem prank_lt {B : Int} {p q : PI} (hp : -B < p.2 ∧ p.2 < B) (hq : -B < q.2 ∧ q.2 < B) : prank B (pv p) < prank B (pv q) ↔ (p.1 < q.1 ∨ (p.1 = q.1 ∧ p.2 < q.2)) := by
  show p.1 * (2 * B) + p.2 < q.1 * (2 * B) + q.2 ↔ _
  have key : ∀ x y : Int, x < y → x * (2 * B) + 2 * B ≤ y * (2 * B) := fun x y h => by
    have := Int.mul_le_mul_of_nonneg_right (show x + 1 ≤ y by omega) (show 0 ≤ 2 * B by omega)
    rw [Int.add_mul, Int.one_mul] at this
    exact this
  constructor
  · intro h
    rcases Int.lt_trichotomy p.1 q.1 with z | z | z
    · exact .inl z
    · rw [z] at h; exact .inr ⟨z, by omega⟩
    · have := key _ _ z; omega
  · rintro (z | ⟨z, z2⟩)
    · have := key _ _ z; omega
    · rw [z]; omega
theorem lexLt_pv (p q : PI) : HT.lexLt (pv p) (pv q) = decide (p.1 < q.1 ∨ (p.1 = q.1 ∧ p.2 < q.2)) := by
  unfold pv
  rw [HT.lexLt_cons, HT.lexLt_cons, HT.lexLt_nil_nil]
  by_cases h : p.1 = q.1
  · rw [if_pos h]
    by_cases h2 : p.2 = q.2
    · rw [if_pos h2]; symm; apply decide_eq_false; omega
    · rw [if_neg h2]
      apply decide_eq_decide.mpr; omega
  · rw [if_neg h]
    apply decide_eq_decide.mpr; omega
section
variable {prog : Program} {w : World} {A : Around} {E : Value → Shared → Prop} {s : Shared}
theorem lexK {Q : Bool → Shared → Prop} {b : Bool} {xs ys : List Value} {ns ms : List Int} (i : Nat) (hx : IntsAre xs ns) (hy : IntsAre ys ms) (hl : ns.length = ms.length) (h : Q (HT.lexLt ns ms) s) : PySem.W.KatLex prog w A b false Q (xs.zip ys) i s := by
  induction hx generalizing ys ms i with
  | nil =>
    cases hy with
    | nil => exact PySem.W.kat_nil h
    | cons q u hy => simp at hl
  | @cons p t xs ns hx ih =>
    cases hy with
    | nil => simp at hl
    | @cons q u ys ms hy =>
      rw [HT.lexLt_cons] at h
      show PySem.W.KatLex prog w A b false Q ((Value.int p t, Value.int q u) :: xs.zip ys) i s
      refine PySem.W.kat_cons (wpAny_eqBool_int ?_)
      by_cases e : p = q
      · rw [if_pos e] at h
        rw [show (p == q) = true from beq_iff_eq.mpr e]
        refine PySem.W.kat_yes ?_
        first
          | exact ih (i + 1) hy (by simpa using hl) h
          | exact ih _ _ (i + 1) hy (by simpa using hl) h
      · rw [if_neg e] at h
        rw [show (p == q) = false from beq_eq_false_iff_ne.mpr e]
        exact PySem.W.kat_no (TS.oneLt_ints _ h)
def PairsIn (h : Heap) (ps : List PI) (vs : List Value) : Prop := ∀ v ∈ vs, ∃ p ∈ ps, TS.TupInts h v (pv p)
theorem PairsIn.keeps {h h' : Heap} {ps : List PI} {vs : List Value} (x : PairsIn h ps vs) (k : ∀ b o, h.get? b = some o → o.cls = .type "tuple" → h'.get? b = some o) : PairsIn h' ps vs := fun v hv =>
  let ⟨p, hp, t⟩ := x v hv; ⟨p, hp, t.keeps k⟩
theorem PairsIn.toks {h : Heap} {ps : List PI} {vs : List Value} (x : PairsIn h ps vs) : ∃ B, TS.TupsOk h 2 B (vs.take 0) := ⟨0, fun v hv => by simp at hv⟩
theorem firsts_pairs {h : Heap} {ps : List PI} : ∀ vs : List Value, PairsIn h ps vs → ∃ fs, PySem.W.KatTups h vs fs ∧ fs.length = vs.length ∧ ∀ f, f ∈ fs → ∃ n t, f = Value.int n t
  | [], _ => ⟨[], PySem.W.KatTups.nil, rfl, fun f hf => by simp at hf⟩
  | v :: vs, x => by
    obtain ⟨fs, k, hl, hi⟩ := firsts_pairs vs fun u hu => x u (List.mem_cons_of_mem _ hu)
    obtain ⟨p, _, ⟨a, xs, rfl, ⟨o, ho, hc, n, hdt⟩, i⟩⟩ := x v (List.mem_cons_self ..)
    obtain ⟨xl⟩ := xs
    cases i with
    | cons m t i2 =>
      refine ⟨_ :: fs, PySem.W.KatTups.cons ho hc hdt rfl k, by simp [hl], fun f hf => ?_⟩
      rcases List.mem_cons.mp hf with rfl | hf
      · exact ⟨_, _, rfl⟩
      · exact hi f hf
theorem kind_pairs {ps : List PI} {vs : List Value} (h2 : 2 ≤ vs.length) (x : PairsIn s.heap ps vs) (r : Value → Int) (hr : ∀ v ∈ vs, ∀ ns, TS.TupInts s.heap v ns → r v = prank (pbig ps) ns) (Q : SortKind → Shared → Prop)
    (h : ∀ κ, TS.Cmp prog w A s κ (pairsOf vs) r → Q κ s) : wpAny (model prog w) A (keyKind' vs.toArray) Q E s := by
  obtain ⟨fs, k, hl, hi⟩ := firsts_pairs vs x
  refine PySem.W.kat_kind (T := Value.type "int") k (by omega) (fun f hf => ?_) rfl (h _ ?_)
  · obtain ⟨n, t, rfl⟩ := hi f hf
    exact PySem.W.Looks.of_pure rfl
  · intro p q hp hq Q' E' hQ
    rw [pairsOf_toList] at hp hq
    have mp := (mem_zip_self hp).2
    have mq := (mem_zip_self hq).2
    obtain ⟨a, ha, tp⟩ := x _ mp
    obtain ⟨b, hb, tq⟩ := x _ mq
    have ep := hr _ mp _ tp
    have eq2 := hr _ mq _ tq
    have e : decide (r p.1 < r q.1) = HT.lexLt (pv a) (pv b) := by
      rw [ep, eq2, lexLt_pv]
      exact decide_eq_decide.mpr (prank_lt (pbig_mem ps a ha) (pbig_mem ps b hb))
    rw [e] at hQ
    obtain ⟨a', xs, e1, ⟨o, ho, hc, n, hdt⟩, i⟩ := tp
    obtain ⟨b', ys, e2, ⟨o', ho', hc', n', hdt'⟩, i'⟩ := tq
    rw [e1, e2]
    refine PySem.W.kat_lt ho hdt ho' hdt' ?_
    have sz : decide (xs.size < ys.size) = false := by
      have l1 := i.length
      have l2 := i'.length
      rw [Array.length_toList] at l1 l2
      have l3 : (pv a).length = 2 := rfl
      have l4 : (pv b).length = 2 := rfl
      exact decide_eq_false (by omega)
    rw [sz]
    exact lexK 0 i i' rfl hQ
theorem sort_pairs2 {a : Addr} {vs : List Value} {n : Nat} {ps : List PI} {Q : Value → Shared → Prop} (ho : s.heap.get? a = some (seqObj "list" vs.toArray n)) (h64 : vs.length < 64) (x : PairsIn s.heap ps vs)
    (h : ∀ out : Array Value, out.toList.Perm vs → out.toList.Pairwise (fun u v => prank (pbig ps) (TS.intsOf s.heap u) ≤ prank (pbig ps) (TS.intsOf s.heap v)) → Q .none { s with heap := sortedHeap s.heap a vs out }) :
    wpAny (model prog w) A (call (.builtin "list.sort") [.ref a]) Q E s := by
  refine wpAny_call_entry slot_list_sort ⟨_, ho, rfl⟩ entry_list_sort ?_ (args_list_sort _)
  have keep : ∀ b o, s.heap.get? b = some o → o.cls = .type "tuple" → (TS.midHeap s.heap a vs).get? b = some o := fun b o e hc => by
    refine TS.midHeap_old ?_ e
    rintro rfl
    rw [ho] at e
    cases e
    injection hc with c
    exact absurd c (by decide)
  refine SK.plain_sort (r := fun v => prank (pbig ps) (TS.intsOf s.heap v)) ho h64 (fun h2 Q hQ => ?_) fun zs out h1 h2 h3 => ?_
  · refine kind_pairs (s := { s with heap := TS.midHeap s.heap a vs }) h2 (x.keeps keep) _ (fun v hv ns t => ?_) Q hQ
    obtain ⟨p, _, t0⟩ := x v hv
    have e : ns = pv p := t.ints.symm.trans (t0.keeps keep).ints
    show prank _ (TS.intsOf s.heap v) = _
    rw [t0.ints, e]
  · obtain ⟨p, o⟩ := TS.out_rank (r := fun v => prank (pbig ps) (TS.intsOf s.heap v)) h1 h2 h3
    exact ⟨_, rfl, h out p o⟩
end

section
variable {P : Program} {w : World} {A : Around} {E : Value → Shared → Prop} {s : Shared}
theorem refs_of_mem {L : List (Addr × List Int)} : ∀ vs : List Value, (∀ v ∈ vs, ∃ q ∈ L, v = Value.ref q.1) → ∃ L1 : List (Addr × List Int), vs = L1.map (fun q => Value.ref q.1) ∧ ∀ q ∈ L1, q ∈ L
  | [], _ => ⟨[], rfl, fun q hq => nomatch hq⟩
  | v :: vs, hv => by
    obtain ⟨q, hq, e⟩ := hv v List.mem_cons_self
    obtain ⟨L1, e1, hs⟩ := refs_of_mem vs fun u hu => hv u (List.mem_cons_of_mem _ hu)
    refine ⟨q :: L1, by rw [List.map_cons, e, e1], fun r hr => ?_⟩
    rcases List.mem_cons.mp hr with z | z
    · rw [z]; exact hq
    · exact hs r z
theorem sortedP {a : Addr} {L : List (Addr × List Int)} {es : Array (Int × Value)} {ep : Nat} {t : SetTable} {ps : List PI} {Q : Value → Shared → Prop} (R : SetTR P w s.heap a L es ep t) (hh : A.handled = none)
    (hB : ∀ p ∈ L, ∃ q ∈ ps, p.2 = pv q)
    (hQ : ∀ s' p (out : Array Value) (c : Nat) (L' : List (Addr × List Int)), (∀ b o, s.heap.get? b = some o → s'.heap.get? b = some o) → s'.gens = s.gens → s'.os = s.os → s.heap.objs.size ≤ p →
      s'.heap.get? p = some (seqObj "list" out c) → out.toList = L'.map (fun q => Value.ref q.1) → (∀ q, q ∈ L' ↔ q ∈ L) → (L'.map (·.2)).Nodup → L'.length < 64 → L'.Pairwise (fun q r => prank (pbig ps) q.2 ≤ prank (pbig ps) r.2) → Q (.ref p) s') :
    wpAny (model P w) A (call (.builtin "sorted") [.ref a]) Q E s := by
  obtain ⟨o, ho, hex, hd⟩ := R.ob
  have hsz := R.size
  have hfew := R.few
  refine Calls.call_function_entry kind_sorted plain_sorted entry_sorted (args_sorted1 _) ?_
  unfold Builtin.«sorted»
  refine wpAny_bind (m := checkCount "sorted" 1 1 _) (wpAny_pure ?_)
  refine wpAny_bind (collect_set (A := A.in1) hh ⟨o, ho, hex.1, hd⟩ R.fits (by unfold scanBound; omega) R.tab.ris R.led fun s1 vs k1 hz g1 o1 pm => ?_)
  have hes : es.toList.map (·.2) = L.map fun q => Value.ref q.1 := by
    rw [R.rows]
    unfold rowsOf
    rw [List.map_map] <;> rfl
  rw [hes] at pm
  have one : ∀ q ∈ L, ∀ r ∈ L, q.1 = r.1 → q = r := fun q hq r hr e => by
    have a1 := R.tup q hq
    have a2 := R.tup r hr
    rw [e] at a1
    exact Prod.ext e (a1.inj a2)
  have nL : L.Nodup := nodup_of_map R.nd
  have nref : (L.map fun q => Value.ref q.1).Nodup := by
    refine List.pairwise_map.mpr (List.Pairwise.imp_of_mem (fun {q r} hq hr hne e => ?_) nL)
    injection e with e
    exact hne (one q hq r hr e)
  have hvl : vs.length < 64 := by rw [pm.length_eq, List.length_map]; exact hfew
  refine wpAny_bind (wpAny_newList ?_ (by rw [sizeLine_eq]; omega))
  have hoL : (s1.heap.push (seqObj "list" vs.toArray 0)).get? s1.heap.objs.size = some (seqObj "list" vs.toArray 0) := Heap.get?_push_size _ rfl
  have tk : ∀ q ∈ L, TS.TupInts (s1.heap.push (seqObj "list" vs.toArray 0)) (.ref q.1) q.2 := fun q hq => tupInts_of (P := P) (w := w) (isT_keep (R.tup q hq) fun b u e => Heap.get?_push_of_some _ (k1 b u e))
  have x : PairsIn (s1.heap.push (seqObj "list" vs.toArray 0)) ps vs := fun v hv => by
    obtain ⟨q, hq, e⟩ := List.mem_map.mp (pm.mem_iff.mp hv)
    obtain ⟨p, hp, e2⟩ := hB q hq
    rw [← e]
    exact ⟨p, hp, e2 ▸ tk q hq⟩
  refine wpAny_bind (wpAny_holding (sort_pairs2 (s := { s1 with heap := s1.heap.push (seqObj "list" vs.toArray 0) }) hoL hvl x fun out a1 a2 => ?_))
  obtain ⟨c, hc⟩ := sortedHeap_at (vs := vs) (out := out) hoL
  obtain ⟨L', e', hs'⟩ := refs_of_mem (L := L) out.toList fun v hv => by
    obtain ⟨q, hq, e⟩ := List.mem_map.mp (pm.mem_iff.mp (a1.mem_iff.mp hv))
    exact ⟨q, hq, e.symm⟩
  have pmr : (L'.map (fun q => Value.ref q.1)).Perm (L.map fun q => Value.ref q.1) := by rw [← e']; exact a1.trans pm
  have n1 : L'.Nodup := nodup_of_map (pmr.nodup_iff.mpr nref)
  have mem : ∀ q, q ∈ L' ↔ q ∈ L := fun q => ⟨hs' q, fun hq => by
    have hm : Value.ref q.1 ∈ L'.map (fun q => Value.ref q.1) := pmr.mem_iff.mpr (List.mem_map.mpr ⟨q, hq, rfl⟩)
    obtain ⟨r, hr, e⟩ := List.mem_map.mp hm
    injection e with e
    rw [← one r (hs' r hr) q hq e]
    exact hr⟩
  have pL : L'.Perm L := (List.perm_ext_iff_of_nodup n1 nL).mpr mem
  have pw : L'.Pairwise (fun q r => prank (pbig ps) q.2 ≤ prank (pbig ps) r.2) := by
    rw [e'] at a2
    refine List.Pairwise.imp_of_mem (fun {q r} hq hr hle => ?_) (List.pairwise_map.mp a2)
    have f1 : TS.intsOf (s1.heap.push (seqObj "list" vs.toArray 0)) (.ref q.1) = q.2 := (tk q (hs' q hq)).ints
    have f2 : TS.intsOf (s1.heap.push (seqObj "list" vs.toArray 0)) (.ref r.1) = r.2 := (tk r (hs' r hr)).ints
    rw [← f1, ← f2]
    exact hle
  refine wpAny_pure ⟨_, rfl, hQ _ s1.heap.objs.size out c L' (fun b u e => ?_) g1 o1 hz hc e' mem ((pL.map (·.2)).nodup_iff.mpr R.nd) (by rw [pL.length_eq]; exact hfew) pw⟩
  have q := k1 b u e
  have hlt := Heap.lt_size q
  show (sortedHeap (s1.heap.push (seqObj "list" vs.toArray 0)) s1.heap.objs.size vs out).get? b = some u
  rw [sortedHeap_old (Nat.ne_of_lt hlt) (by rw [size_push']; exact Nat.lt_succ_of_lt hlt)]
  exact Heap.get?_push_of_some _ q
end
section
variable {X : Cx}
def rSortP (K : PySem.W.Frag) (P : Program) (w : World) : List V → Hp → VK → Prop := fun vs H Q => ∃ (a : Addr) (L : List (Addr × List Int)) (ps : List PI), vs = [V.ref a] ∧ H a = some (SetTO P w a L) ∧ (∀ p ∈ L, SqT K H p.1 (p.2.map V.int)) ∧ (∀ p ∈ L, ∃ q ∈ ps, p.2 = pv q) ∧
  ∀ (L' : List (Addr × List Int)) (p : Addr), (∀ q, q ∈ L' ↔ q ∈ L) → (L'.map (·.2)).Nodup → L'.Pairwise (fun q r => prank (pbig ps) q.2 ≤ prank (pbig ps) r.2) → H p = none → Q (.ref p) (upd H p (.lst (L'.map fun q => V.ref q.1)))
theorem cr_sortP (hc : X.calm = true) : CallR X (.builtin "sorted") (rSortP X.K X.prog X.w) := by
  intro pins s σ H vs us Q I r h
  obtain ⟨a, L, ps, rfl, ha, hk, hB, q⟩ := h
  have R0 : SetT0 X.prog X.w s.heap a L := (I.hok a _ ha).1
  obtain ⟨es, ep, t, R⟩ := R0.full fun p hp => I.isT (hk p hp)
  rw [Vals.ref1 r]
  refine sortedP R (I.ok.hd hc) hB fun s' p out c L' k g o hp hg hout mem nd hfew pw => ?_
  have hlen : (L'.map fun q => V.ref q.1).length ≤ sizeLine := by rw [List.length_map, sizeLine_eq]; omega
  have hn : H p = none := I.hok.fresh hp
  have hv : Vals (L'.map fun q => V.ref q.1) out.toList := by rw [hout]; exact vals_of_refs L'
  have J : Inv X pins σ (upd H p (.lst (L'.map fun q => V.ref q.1))) { s with heap := s'.heap, gens := s'.gens, drawn := s'.drawn, toks := s'.toks } :=
    I.call (ch := []) (Un.laid k hp hn) (I.hok.laid k hp ⟨hlen, out.toList, c, hv, hg⟩) (by rw [g]; exact I.bare) (fun _ z => nomatch z)
  have e : s' = { s with heap := s'.heap, gens := s'.gens, drawn := s'.drawn, toks := s'.toks } := by
    cases s'
    cases s
    cases o
    rfl
  rw [e]
  exact ⟨.ref p, _, J, rfl, q L' p mem nd pw hn⟩
end

def pairD : D → Option PI
  | .tup [.int x, .int y] => some (x, y)
  | _ => none
def pairsD : List D → Option (List PI)
  | [] => some []
  | d :: ds => match pairD d, pairsD ds with
    | some p, some ps => some (p :: ps)
    | _, _ => none
def pD (p : PI) : D := .tup [.int p.1, .int p.2]
theorem pairD_eq {d : D} {p : PI} (h : pairD d = some p) : d = pD p := by
  unfold pairD at h
  split at h
  · cases h; rfl
  · cases h
theorem pairsD_eq : ∀ {ds : List D} {ps : List PI}, pairsD ds = some ps → ds = ps.map pD
  | [], ps, h => by cases h; rfl
  | d :: ds, ps, h => by
    unfold pairsD at h
    split at h
    · rename_i p qs h1 h2
      cases h
      rw [List.map_cons, ← pairD_eq h1, ← pairsD_eq h2]
    · cases h
theorem pairsD_pD : ∀ ps : List PI, pairsD (ps.map pD) = some ps
  | [] => rfl
  | p :: ps => by
    show (match pairD (pD p), pairsD (ps.map pD) with | some p, some ps => some (p :: ps) | _, _ => none) = _
    rw [pairsD_pD ps]; rfl
def pless (p q : PI) : Bool := decide (p.1 < q.1 ∨ (p.1 = q.1 ∧ p.2 < q.2))
def insP (p : PI) : List PI → List PI
  | [] => [p]
  | q :: qs => if pless p q then p :: q :: qs else if p = q then q :: qs else q :: insP p qs
def sortP : List PI → List PI
  | [] => []
  | p :: ps => insP p (sortP ps)
abbrev PLt (p q : PI) : Prop := p.1 < q.1 ∨ (p.1 = q.1 ∧ p.2 < q.2)
theorem pless_iff {p q : PI} : pless p q = true ↔ PLt p q := by unfold pless; exact decide_eq_true_iff
theorem mem_insP {p q : PI} : ∀ {l : List PI}, q ∈ insP p l ↔ q = p ∨ q ∈ l
  | [] => by simp [insP]
  | r :: l => by
    unfold insP
    split
    · simp
    · split
      · rename_i h; subst h; simp
      · rw [List.mem_cons, List.mem_cons, mem_insP]
        constructor <;> (rintro (h | h | h) <;> simp [h])
theorem mem_sortP {q : PI} : ∀ {l : List PI}, q ∈ sortP l ↔ q ∈ l
  | [] => by simp [sortP]
  | p :: l => by unfold sortP; rw [mem_insP, mem_sortP, List.mem_cons]
theorem insP_sorted {p : PI} : ∀ {l : List PI}, l.Pairwise PLt → (insP p l).Pairwise PLt
  | [], _ => by simp [insP]
  | q :: l, h => by
    unfold insP
    obtain ⟨h1, h2⟩ := List.pairwise_cons.mp h
    split
    · rename_i hp
      rw [pless_iff] at hp
      refine List.pairwise_cons.mpr ⟨fun r hr => ?_, h⟩
      rcases List.mem_cons.mp hr with rfl | hr
      · exact hp
      · have := h1 r hr
        unfold PLt at *
        omega
    · rename_i hp
      rw [pless_iff] at hp
      split
      · exact h
      · rename_i hne
        refine List.pairwise_cons.mpr ⟨fun r hr => ?_, insP_sorted h2⟩
        rcases mem_insP.mp hr with rfl | hr
        · have : r.1 ≠ q.1 ∨ r.2 ≠ q.2 := by
            by_cases e : r.1 = q.1
            · exact .inr fun e2 => hne (Prod.ext e e2)
            · exact .inl e
          unfold PLt at *
          omega
        · exact h1 r hr
theorem sortP_sorted : ∀ l : List PI, (sortP l).Pairwise PLt
  | [] => List.Pairwise.nil
  | p :: l => insP_sorted (sortP_sorted l)
theorem sorted_uniq : ∀ {l m : List PI}, l.Pairwise PLt → m.Pairwise PLt → (∀ q, q ∈ l ↔ q ∈ m) → l = m
  | [], [], _, _, _ => rfl
  | [], q :: m, _, _, h => absurd ((h q).mpr List.mem_cons_self) (by simp)
  | p :: l, [], _, _, h => absurd ((h p).mp List.mem_cons_self) (by simp)
  | p :: l, q :: m, hl, hm, h => by
    obtain ⟨l1, l2⟩ := List.pairwise_cons.mp hl
    obtain ⟨m1, m2⟩ := List.pairwise_cons.mp hm
    have e : p = q := by
      rcases List.mem_cons.mp ((h p).mp List.mem_cons_self) with e | e
      · exact e
      · rcases List.mem_cons.mp ((h q).mpr List.mem_cons_self) with e2 | e2
        · exact e2.symm
        · have a := m1 p e
          have b := l1 q e2
          unfold PLt at a b
          omega
    subst e
    congr 1
    refine sorted_uniq l2 m2 fun r => ⟨fun hr => ?_, fun hr => ?_⟩
    · rcases List.mem_cons.mp ((h r).mp (List.mem_cons_of_mem _ hr)) with e | e
      · subst e
        have := l1 r hr
        unfold PLt at this
        omega
      · exact e
    · rcases List.mem_cons.mp ((h r).mpr (List.mem_cons_of_mem _ hr)) with e | e
      · subst e
        have := m1 r hr
        unfold PLt at this
        omega
      · exact e
def sortSetD : D → R D
  | .lst xs => match pairsD xs with
    | some ps => if ps.length < 64 then some (.ok (.lst ((sortP ps).map pD))) else none
    | none => none
  | _ => none
theorem pD_inv {K : PySem.W.Frag} {G : Hp} {v : V} {p : PI} (h : Rep K G v (pD p)) : ∃ a, v = .ref a ∧ SqT K G a ((pv p).map V.int) := by
  obtain ⟨a, vs, rfl, h1, h2⟩ := h.tup_inv
  obtain ⟨x, r, rfl, r1, h2⟩ := h2.cons_inv
  obtain ⟨y, r, rfl, r2, h2⟩ := h2.cons_inv
  cases h2.nil_inv
  cases r1.int_inv
  cases r2.int_inv
  exact ⟨a, rfl, h1⟩
theorem pDs_inv {K : PySem.W.Frag} {G : Hp} : ∀ {ps : List PI} {vs : List V}, Reps K G vs (ps.map pD) → ∃ ks : List (Addr × List Int), vs = ks.map (fun p => V.ref p.1) ∧ ks.map (·.2) = ps.map pv ∧ ∀ k ∈ ks, SqT K G k.1 (k.2.map V.int)
  | [], vs, h => by cases h.nil_inv; exact ⟨[], rfl, rfl, fun k hk => nomatch hk⟩
  | p :: ps, vs, h => by
    obtain ⟨v, r, rfl, h1, h2⟩ := h.cons_inv
    obtain ⟨a, rfl, ha⟩ := pD_inv h1
    obtain ⟨ks, rfl, e, hk⟩ := pDs_inv h2
    refine ⟨(a, pv p) :: ks, rfl, by rw [List.map_cons, List.map_cons, e], fun k hk' => ?_⟩
    rcases List.mem_cons.mp hk' with rfl | hk'
    · exact ha
    · exact hk k hk'
theorem pDs_rep {K : PySem.W.Frag} {G : Hp} : ∀ {ps : List PI} {ks : List (Addr × List Int)}, ks.map (·.2) = ps.map pv → (∀ k ∈ ks, SqT K G k.1 (k.2.map V.int)) → Reps K G (ks.map fun p => V.ref p.1) (ps.map pD)
  | [], [], _, _ => Reps.nil
  | [], k :: ks, e, _ => nomatch e
  | p :: ps, [], e, _ => nomatch e
  | p :: ps, k :: ks, e, h => by
    rw [List.map_cons, List.map_cons] at e
    injection e with e1 e2
    have h0 := h k List.mem_cons_self
    rw [e1] at h0
    exact Reps.cons (.tup' h0 (Reps.cons (.int _) (Reps.cons (.int _) Reps.nil))) (pDs_rep e2 fun q hq => h q (List.mem_cons_of_mem _ hq))
theorem pv_inj {p q : PI} (h : pv p = pv q) : p = q := by
  unfold pv at h
  injection h with a b
  injection b with b _
  exact Prod.ext a b
section
variable {X : Cx} {e : Expr} {f : DEnv → R D} {p1 p2 pos1 pos2 : Pos}
theorem dpe_sortSet (he : DPE X e f) (hc : X.calm = true) (hu : X.A.units + 64 < cLine) (hm : X.mg "sorted" = none) (hm2 : X.mg "set" = none) (hg : Gl X "sorted" := by rfl) (hg2 : Gl X "set" := by rfl)
    (h1 : starEach [(.Call (.Name "set" p2) [e] [] pos2)] X.env = (false, eval (.Call (.Name "set" p2) [e] [] pos2) X.env) :: starEach [] X.env := by rfl) (h2 : starEach [e] X.env = (false, eval e X.env) :: starEach [] X.env := by rfl)
    (hpl : (backTo pos1 (starEach [] X.env)).any (·.1) = false := by rfl) (hpl2 : (backTo pos2 (starEach [] X.env)).any (·.1) = false := by rfl) :
    DPE X (.Call (.Name "sorted" p1) [.Call (.Name "set" p2) [e] [] pos2] [] pos1) (eUn sortSetD f) := ⟨fun W tk => by
  obtain ⟨ta, pa, qa⟩ := he.run W tk
  refine ⟨_, pe_callB (cr_sortP hc) hg hm (by decide +kernel) (pa_cons (pe_callTy (cr_setOfT hc hu) hg2 hm2 (by decide +kernel) (pa_cons pa pa_nil h2) (by decide) (by decide) h2 hpl2) pa_nil h1) (by decide) (by decide) h1 hpl, fun G0 H0 G δ σ H Q rr h => ?_⟩
  refine qa G0 H0 G δ σ H _ rr (Ok1.bind h fun d v G' H' ed gr rp h' => ?_)
  unfold sortSetD at h'
  split at h'
  · rename_i xs
    split at h'
    · rename_i ps hps
      split at h'
      · rename_i h64
        obtain ⟨l, vs, rfl, hl, rs⟩ := rp.lst_inv
        rw [pairsD_eq hps] at rs
        obtain ⟨ks, rfl, ek, hk⟩ := pDs_inv rs
        have mk : ∀ k ∈ ks, ∃ q ∈ ps, k.2 = pv q := fun k hk' => by
          have : k.2 ∈ ps.map pv := by rw [← ek]; exact List.mem_map.mpr ⟨k, hk', rfl⟩
          obtain ⟨q, hq, e⟩ := List.mem_map.mp this
          exact ⟨q, hq, e.symm⟩
        have lk : ks.length < 64 := by
          have := congrArg List.length ek
          simp only [List.length_map] at this
          omega
        refine ⟨l, ks, rfl, SqL.of (gr.gh _ _ hl), fun k hk' => same_t gr.gh (hk k hk'), lk, fun a L ha sub all => ?_⟩
        refine ⟨a, L, ps, rfl, upd_same, fun k hk' => ?_, fun k hk' => mk k (sub k hk'), fun L' p mem nd pw hp => ?_⟩
        · have z := same_t gr.gh (hk k (sub k hk'))
          exact same_t (Gr.newH (o := SetTO X.prog X.w a L) gr.gh ha).hh z
        · have ga : Gr G' H' G' (upd H' a (SetTO X.prog X.w a L)) := Gr.newH gr.gh ha
          have gp := Gr.new ga.gh (o := .lst (L'.map fun q => V.ref q.1)) hp
          -- the pairs of L'
          have pr : ∀ M : List (Addr × List Int), (∀ k ∈ M, ∃ q ∈ ps, k.2 = pv q) → ∃ qs : List PI, M.map (·.2) = qs.map pv := fun M => by
            induction M with
            | nil => intro _; exact ⟨[], rfl⟩
            | cons k M ih =>
              intro h
              obtain ⟨q, _, e⟩ := h k List.mem_cons_self
              obtain ⟨qs, e2⟩ := ih fun r hr => h r (List.mem_cons_of_mem _ hr)
              exact ⟨q :: qs, by rw [List.map_cons, List.map_cons, e, e2]⟩
          obtain ⟨qs, eq⟩ := pr L' fun k hk' => mk k (sub k ((mem k).mp hk'))
          have memq : ∀ q, q ∈ qs ↔ q ∈ ps := fun q => by
            constructor
            · intro hq
              have : pv q ∈ L'.map (·.2) := by rw [eq]; exact List.mem_map.mpr ⟨q, hq, rfl⟩
              obtain ⟨k, hk', e⟩ := List.mem_map.mp this
              obtain ⟨q', hq', e'⟩ := mk k (sub k ((mem k).mp hk'))
              have : q = q' := pv_inj (e.symm.trans e')
              rw [this]; exact hq'
            · intro hq
              have : pv q ∈ ks.map (·.2) := by rw [ek]; exact List.mem_map.mpr ⟨q, hq, rfl⟩
              obtain ⟨k, hk', e⟩ := List.mem_map.mp this
              obtain ⟨k2, hk2, e2⟩ := List.mem_map.mp (all k hk')
              have : pv q ∈ qs.map pv := by rw [← eq]; exact List.mem_map.mpr ⟨k2, (mem k2).mpr hk2, e2.trans e⟩
              obtain ⟨q2, hq2, e3⟩ := List.mem_map.mp this
              rw [← pv_inj e3]; exact hq2
          have ndq : qs.Nodup := nodup_of_map (f := pv) (by rw [← eq]; exact nd)
          have pwq : qs.Pairwise PLt := by
            have p1 : (L'.map (·.2)).Pairwise (fun a b => prank (pbig ps) a ≤ prank (pbig ps) b) := List.pairwise_map.mpr pw
            rw [eq] at p1
            refine List.Pairwise.imp_of_mem (fun {a b} ha hb h => ?_) ((List.pairwise_map.mp p1).and ndq)
            have := prank_lt (pbig_mem ps b ((memq b).mp hb)) (pbig_mem ps a ((memq a).mp ha))
            have ne : a.1 ≠ b.1 ∨ a.2 ≠ b.2 := by
              by_cases e : a.1 = b.1
              · exact .inr fun e2 => h.2 (Prod.ext e e2)
              · exact .inl e
            have n2 : ¬ (b.1 < a.1 ∨ (b.1 = a.1 ∧ b.2 < a.2)) := fun z => by
              have := this.mpr z
              have := h.1
              omega
            unfold PLt
            omega
          have e : qs = sortP ps := sorted_uniq pwq (sortP_sorted ps) fun q => by rw [memq, mem_sortP]
          rw [e] at eq
          refine Ok1.retG h' (ga.trans gp) (.lst' upd_same ((pDs_rep eq fun k hk' => ?_).mono gp.gg))
          exact hk k (sub k ((mem k).mp hk'))
      · exact h'.elim
    · exact h'.elim
  · exact h'.elim⟩
end
end DL
namespace DL
open PySem PySem.Spec L2
def uptoC (lo c : Int) (n : Nat) : List D := (List.range n).map fun i => .int (lo + (i : Nat) * c)
theorem uptoC_length (lo c : Int) (n : Nat) : (uptoC lo c n).length = n := by unfold uptoC; simp
theorem uptoC_get (lo c : Int) (n i : Nat) : (uptoC lo c n)[i]? = if i < n then some (.int (lo + (i : Nat) * c)) else none := by
  unfold uptoC
  rw [List.getElem?_map]
  by_cases h : i < n
  · rw [List.getElem?_range h, if_pos h]; rfl
  · rw [if_neg h, List.getElem?_eq_none (by simpa using h)]; rfl
theorem walkD_rangeC {K : PySem.W.Frag} {G : Hp} {lo c : Int} {n : Nat} : WalkD K (Itc lo c n) G (uptoC lo c n) := by
  refine ⟨fun i H hi s => by rw [uptoC_length] at hi; exact hi, fun H s => by rw [uptoC_length]; exact Nat.le_refl n, fun i H x H' d Gx s1 s2 e y => ?_⟩
  rw [uptoC_get] at e
  split at e
  · cases e
    obtain ⟨e1, e2⟩ := y
    subst e1 e2
    exact ⟨Gx, Gr.refl s2, .int _⟩
  · cases e
def range3D : List D → R (List D)
  | [.int i, .int j, .int c] => if c ≠ 0 ∧ c.natAbs < 1073741824 ∧ Builtin.Range.small i j c = true ∧ 0 ≤ Builtin.Range.rangeSize i j c then some (.ok (uptoC i c (Builtin.Range.rangeSize i j c).toNat)) else none
  | _ => none
def iRange3 (f : DEnv → R (List D)) : DEnv → R (List D) := fun δ => R.bind (f δ) range3D
section
variable {X : Cx} {tg a b c : Expr} {fa : DEnv → R (List D)} {p pos : Pos}
theorem dpi_range3 (hm : X.mg "range" = none) (ha : DPA X [a, b, c] fa) (hg : Gl X "range" := by rfl) (hs : starEach [a, b, c] X.env = (false, eval a X.env) :: starEach [b, c] X.env := by rfl) (hpl : (backTo pos (starEach [b, c] X.env)).any (·.1) = false := by rfl) :
    DPI X tg (.Call (.Name "range" p) [a, b, c] [] pos) (iRange3 fa) := ⟨fun W tk => by
  obtain ⟨ta, pa, qa⟩ := ha.run W tk
  refine ⟨_, pi_range3 hg hm pa hs hpl, fun G0 H0 G δ σ H Q rr h => qa G0 H0 G δ σ H _ rr (OkI.bind h fun d v G' H' e gr rp h' => ?_)⟩
  unfold range3D at h'
  split at h'
  · split at h'
    · rename_i hc
      obtain ⟨w1, r, rfl, r1, rp⟩ := rp.cons_inv
      obtain ⟨w2, w3, rfl, r2, r3⟩ := two_inv rp
      cases r1.int_inv
      cases r2.int_inv
      cases r3.int_inv
      exact ⟨_, _, _, _, rfl, ⟨hc.1, hc.2.1, hc.2.2.1, (Int.toNat_of_nonneg hc.2.2.2).symm⟩, h' _ G' H' (Gr.refl gr.gh) walkD_rangeC⟩
    · exact h'.elim
  · exact h'.elim⟩
theorem Room.units65 {k : Nat} {A : Around} (r : Room k A) : A.units + 65 < PySem.cLine := by have := r.un; omega
def notInDD : D → D → R D := fun x y => match y with
  | .lst ys => match py x, pyAll ys with
    | some d, some es => if SeqAt.shaped d && SeqAt.shaped (.list es) then some (.ok (.bl (!es.any fun z => PyData.eqv z d))) else none
    | _, _ => none
  | _ => none
theorem dop_notInDD (hu : X.A.units + 65 < cLine) : OpD X (compareOp .NotIn) notInDD := by
  refine ⟨_, op_notInD hu, fun W G H σ x y a b Q s ra rb h => ?_⟩
  cases b <;> simp only [notInDD] at h <;> try exact h.elim
  rename_i ys
  split at h
  · rename_i d es h1 h2
    split at h
    · rename_i hs
      obtain ⟨s1, s2⟩ := Bool.and_eq_true_iff.mp hs
      have h3 : py (.lst ys) = some (.list es) := by show (pyAll ys).map _ = _; rw [h2]; rfl
      exact ⟨d, es, py_dp h1 ra s, py_dp h3 rb s, s1, s2, h.ret s (.bl _)⟩
    · exact h.elim
  · exact h.elim
end
end DL

namespace DL
open PySem PySem.Spec L2 PyProof.Rows
def Olds (h0 h : Heap) : Prop := ∀ b o, h0.get? b = some o → h.get? b = some o
def CmpJ (prog : Program) (w : World) (A : Around) (h0 : Heap) (P : Nat → Value → Prop) (bt : Nat → Nat → Bool) : Prop :=
  ∀ i j vi vj (s : Shared) (Q : Value → Shared → Prop) (E : Value → Shared → Prop), Olds h0 s.heap → P i vi → P j vj → Q (.bool (bt i j)) s → wpAny (model prog w) A (richCompare .Lt vi vj) Q E s
section
variable {prog : Program} {w : World} {A : Around} {R : Result → Shared → Prop} {I : Addr} {fp wr : List Addr} {n : Nat} {P : Nat → Value → Prop} {St : Nat → Heap → Prop} {h0 : Heap}
theorem minJ_loop (W : Walks prog w A.in1 I fp wr n P St) (bt : Nat → Nat → Bool) (hcmp : CmpJ prog w A.in1 h0 P bt) (S : Addr) (hSf : S ∉ fp) (hw : ∀ b ∈ wr, h0.objs.size ≤ b) (hS0 : h0.objs.size ≤ S) :
    ∀ (k j : Nat) (s : Shared) (vb : Value) (c : Nat), n - (j + 1) = k → j + 1 ≤ n → St (j + 1) s.heap → Olds h0 s.heap → P (argBest bt j) vb →
    s.heap.get? S = some { cls := .type "list", dict := none, data := .seq #[vb, vb] c, slots := #[] } →
    (∀ v h' tk, P (argBest bt (n - 1)) v → (∀ b o, b ∉ wr → b ≠ S → s.heap.get? b = some o → h'.get? b = some o) → R (.ok (.ret v)) { s with heap := h', toks := tk }) →
    codeAny (model prog w) A (.builtin "min.loop" ⟨[.ref I, .none, .ref S], []⟩) R s := by
  have hSw : S ∉ wr := fun h => hSf (W.sub _ h)
  have hname : (toString "min" ++ toString ".loop" : String) = "min.loop" := by decide
  have old : ∀ {h h' : Heap}, Olds h0 h → (∀ b o, b ∉ wr → h.get? b = some o → h'.get? b = some o) → Olds h0 h' := fun ho hk b o e => hk b o (fun m => Nat.lt_irrefl _ (Nat.lt_of_lt_of_le (Heap.lt_size e) (hw b m))) (ho b o e)
  have old2 : ∀ {h : Heap} {g : Obj → Obj}, Olds h0 h → Olds h0 (h.update S g) := fun {h g} ho b o e => (Heap.get?_update_ne _ _ _ _ (fun z => Nat.lt_irrefl _ (Nat.lt_of_lt_of_le (z ▸ Heap.lt_size e) hS0))).trans (ho b o e)
  intro k
  induction k with
  | zero =>
    intro j s vb c hk hj hst _ hPb hS hR
    have hin : j + 1 = n := by omega
    refine codeAny_builtin PySem.F.entry_min_loop ?_
    rw [Around.under_plainId PySem.F.plain_min_loop _]
    show wpAny _ A.in1 (seqItems? (.ref S) >>= _) _ _ s
    refine wpAny_bind (wpAny_seqItems hS rfl ?_)
    show wpAny _ A.in1 (tryCatch (pyNext (.ref I)) _ >>= _) _ _ s
    refine wpAny_bind (wpAny_tryCatch (W.done s _ _ (hin ▸ hst) fun h' tk hk' => ?_))
    have hS' := hk' S _ hSw hS
    show wpAny _ A.in1 (updateSeq S (fun _ => #[]) >>= _) _ _ _
    refine wpAny_bind ?_
    refine wpAny_updateSeq hS' rfl (wpAny_bind (wpAny_letGo (wpAny_pure ?_)))
    refine hR vb _ tk (by rw [← hin]; exact hPb) fun b o hbw hbS e => (Heap.get?_update_other _ _ (Ne.symm hbS)).trans (hk' b o hbw e)
  | succ k ih =>
    intro j s vb c hk hj hst hold hPb hS hR
    have hlt : j + 1 < n := by omega
    refine codeAny_builtin PySem.F.entry_min_loop ?_
    rw [Around.under_plainId PySem.F.plain_min_loop _]
    show wpAny _ A.in1 (seqItems? (.ref S) >>= _) _ _ s
    refine wpAny_bind (wpAny_seqItems hS rfl ?_)
    show wpAny _ A.in1 (tryCatch (pyNext (.ref I)) _ >>= _) _ _ s
    refine wpAny_bind (wpAny_tryCatch (W.item (j + 1) s _ _ hlt hst fun v h' tk hP hst' hk' => ?_))
    have hS' := hk' S _ hSw hS
    have hold' := old hold hk'
    show wpAny _ A.in1 (tryCatch (holding [v, v] (richCompare .Lt v vb >>= _)) _ >>= _) _ _ _
    refine wpAny_bind (wpAny_tryCatch (wpAny_holding (wpAny_bind (hcmp (j + 1) (argBest bt j) v vb _ _ _ hold' hP hPb ?_))))
    refine wpAny_bind (wpAny_holding (wpAny_truthy_bool ?_))
    refine wpAny_bind (wpAny_letGo (wpAny_pure ?_))
    cases hb : bt (j + 1) (argBest bt j) with
    | true =>
      simp only [if_true]
      refine wpAny_bind ?_
      refine wpAny_updateSeq hS' rfl (wpAny_bind (wpAny_letGo ?_))
      rw [hname]
      refine wpAny_pure ⟨plainId_quiet PySem.F.plain_min_loop _, ih (j + 1) _ v _ (by omega) hlt (W.frame _ _ _ hst' fun b hbf o e => ?_) (old2 hold') (by simp only [argBest, hb, if_true]; exact hP) (Heap.get?_update_self _ hS' rfl)
        fun v' h'' tk'' hP' hk'' => ?_⟩
      · exact (Heap.get?_update_other _ _ (fun h : S = b => hSf (by rw [h]; exact hbf))).trans e
      · exact hR v' h'' tk'' hP' fun b o hbw hbS e => hk'' b o hbw hbS ((Heap.get?_update_other _ _ (Ne.symm hbS)).trans (hk' b o hbw e))
    | false =>
      simp only [Bool.false_eq_true, if_false]
      refine wpAny_bind (wpAny_letGo ?_)
      rw [hname]
      refine wpAny_pure ⟨plainId_quiet PySem.F.plain_min_loop _, ih (j + 1) _ vb c (by omega) hlt hst' hold' (by simp only [argBest, hb, Bool.false_eq_true, if_false]; exact hPb) hS' fun v' h'' tk'' hP' hk'' => ?_⟩
      exact hR v' h'' tk'' hP' fun b o hbw hbS e => hk'' b o hbw hbS (hk' b o hbw e)
theorem minJ_first (W : Walks prog w A.in1 I fp wr n P St) (bt : Nat → Nat → Bool) (hcmp : CmpJ prog w A.in1 h0 P bt) (S : Addr) (hSf : S ∉ fp) (hw : ∀ b ∈ wr, h0.objs.size ≤ b) (hS0 : h0.objs.size ≤ S) (hn : 0 < n) {s : Shared} {c : Nat} (hst : St 0 s.heap) (hold : Olds h0 s.heap)
    (hS : s.heap.get? S = some { cls := .type "list", dict := none, data := .seq #[] c, slots := #[] })
    (hR : ∀ v h' tk, P (argBest bt (n - 1)) v → (∀ b o, b ∉ wr → b ≠ S → s.heap.get? b = some o → h'.get? b = some o) → R (.ok (.ret v)) { s with heap := h', toks := tk }) :
    codeAny (model prog w) A (.builtin "min.loop" ⟨[.ref I, .none, .ref S], []⟩) R s := by
  have hSw : S ∉ wr := fun h => hSf (W.sub _ h)
  have hname : (toString "min" ++ toString ".loop" : String) = "min.loop" := by decide
  refine codeAny_builtin PySem.F.entry_min_loop ?_
  rw [Around.under_plainId PySem.F.plain_min_loop _]
  show wpAny _ A.in1 (seqItems? (.ref S) >>= _) _ _ s
  refine wpAny_bind (wpAny_seqItems hS rfl ?_)
  show wpAny _ A.in1 (tryCatch (pyNext (.ref I)) _ >>= _) _ _ s
  refine wpAny_bind (wpAny_tryCatch (W.item 0 s _ _ hn hst fun v h' tk hP hst' hk' => ?_))
  have hS' := hk' S _ hSw hS
  show wpAny _ A.in1 (updateSeq S (fun _ => #[v, v]) >>= _) _ _ _
  refine wpAny_bind ?_
  refine wpAny_updateSeq hS' rfl ?_
  rw [hname]
  refine wpAny_pure ⟨plainId_quiet PySem.F.plain_min_loop _, minJ_loop W bt hcmp S hSf hw hS0 _ 0 _ v _ rfl hn (W.frame _ _ _ hst' fun b hbf o e => ?_) (fun b o e => ?_) hP (Heap.get?_update_self _ hS' rfl) fun v' h'' tk'' hP' hk'' => ?_⟩
  · exact (Heap.get?_update_other _ _ (fun h : S = b => hSf (by rw [h]; exact hbf))).trans e
  · refine (Heap.get?_update_ne _ _ _ _ (fun z => Nat.lt_irrefl _ (Nat.lt_of_lt_of_le (z ▸ Heap.lt_size e) hS0))).trans ?_
    exact hk' b o (fun m => Nat.lt_irrefl _ (Nat.lt_of_lt_of_le (Heap.lt_size e) (hw b m))) (hold b o e)
  · exact hR v' h'' tk'' hP' fun b o hbw hbS e => hk'' b o hbw hbS ((Heap.get?_update_other _ _ (Ne.symm hbS)).trans (hk' b o hbw e))
end
section
variable {prog : Program} {w : World} {A : Around} {E : Value → Shared → Prop} {s : Shared}
theorem minJ_call {l : Addr} {its : Array Value} {Q : Value → Shared → Prop} (bt : Nat → Nat → Bool) (hh : A.handled = none) (hl : s.heap.IsList l its) (hn : 0 < its.size) (hcmp : CmpJ prog w A.in1 s.heap (fun i v => its[i]? = some v) bt)
    (h : ∀ v h' tk, its[argBest bt (its.size - 1)]? = some v → Olds s.heap h' → Q v { s with heap := h', toks := tk }) : wpAny (model prog w) A (call (.builtin "min") [.ref l]) Q E s := by
  have hname : (toString "min" ++ toString ".loop" : String) = "min.loop" := by decide
  refine call_function_tree PySem.F.kind_min PySem.F.plain_min PySem.F.entry_min (PySem.F.args_min1 _) ?_
  show wpAny _ A.in1 (Builtin.Builtins.bindParams "min" ["key", "default"] 0 ⟨[], []⟩ >>= _) _ _ s
  refine wpAny_bind (wpAny_of_eq (show Builtin.Builtins.bindParams "min" ["key", "default"] 0 ⟨[], []⟩ = pure [none, none] from rfl) ?_)
  refine wpAny_bind (wpAny_pure ?_)
  have hlt : l < s.heap.objs.size := by obtain ⟨_, e, _⟩ := hl; exact Heap.lt_size e
  have fpb : ∀ b ∈ [s.heap.objs.size, l], b < (s.heap.push { cls := .type "list_iterator", data := .fields #[.ref l, .int 0 0] }).objs.size := fun b hb => by
    rw [Heap.size_push]
    rcases List.mem_cons.mp hb with rfl | hb
    · exact Nat.lt_succ_self _
    · rcases List.mem_cons.mp hb with rfl | hb
      · exact Nat.lt_succ_of_lt hlt
      · cases hb
  refine wpAny_bind (wpAny_pyIter_list hl ?_)
  refine wpAny_bind (wpAny_newObj_type ?_)
  rw [hname]
  have W := Walks.list (prog := prog) (w := w) (A := A.in1) hh s.heap.objs.size l (Nat.ne_of_lt hlt) its
  have hS : (s.heap.push { cls := .type "list_iterator", data := .fields #[.ref l, .int 0 0] }).objs.size ∉ [s.heap.objs.size, l] := fun hm => Nat.lt_irrefl _ (fpb _ hm)
  refine wpAny_pure ⟨plainId_quiet PySem.F.plain_min_loop _, minJ_first (A := A) (s := { s with heap := (s.heap.push { cls := .type "list_iterator", data := .fields #[.ref l, .int 0 0] }).push { cls := .type "list", data := .seq #[] } }) W bt (fun i j vi vj s' Q' E' a b c d => ?_) _ hS (h0 := s.heap) (fun b hb => ?_) (by rw [Heap.size_push]; omega) hn (W.frame 0 _ _ ⟨⟨_, Heap.get?_push_size _ rfl, rfl, rfl⟩, hl.push _⟩ fun b _ o e => Heap.get?_push_of_some _ e) (fun b o e => Heap.get?_push_of_some _ (Heap.get?_push_of_some _ e)) (Heap.get?_push_size _ rfl) fun v h' tk hP hk => ?_⟩
  · exact hcmp i j vi vj s' Q' E' a b c d
  · have e : b = s.heap.objs.size := by simpa using hb
    exact Nat.le_of_eq e.symm
  · refine h v h' tk hP fun b o e => hk b o (fun m => ?_) (fun m => ?_) (Heap.get?_push_of_some _ (Heap.get?_push_of_some _ e))
    · have e1 : b = s.heap.objs.size := by simpa using m
      exact Nat.lt_irrefl _ (e1 ▸ Heap.lt_size e)
    · have e1 := Heap.lt_size e
      rw [m, Heap.size_push] at e1
      exact Nat.lt_irrefl _ (Nat.lt_trans (Nat.lt_succ_self _) e1)
end
section
variable {X : Cx}
def minP : List PI → PI → PI
  | [], m => m
  | q :: qs, m => minP qs (if pless q m then q else m)
def minPD : List D → R D
  | [.lst xs] => match pairsD xs with
    | some (p :: ps) => some (.ok (pD (minP ps p)))
    | _ => none
  | _ => none
theorem argBest_minP (ps : List PI) (p : PI) : ∀ k, k ≤ ps.length → (p :: ps)[argBest (fun i j => pless ((p :: ps).getD i (0, 0)) ((p :: ps).getD j (0, 0))) k]? = some (minP (ps.take k) p) ∧ argBest (fun i j => pless ((p :: ps).getD i (0, 0)) ((p :: ps).getD j (0, 0))) k ≤ k
  | 0, _ => ⟨by simp [argBest, minP], Nat.le_refl _⟩
  | k + 1, h => by
    obtain ⟨ih, ih2⟩ := argBest_minP ps p k (by omega)
    have e1 : (p :: ps).getD (argBest (fun i j => pless ((p :: ps).getD i (0, 0)) ((p :: ps).getD j (0, 0))) k) (0, 0) = minP (ps.take k) p := by
      rw [List.getD_eq_getElem?_getD, ih]; rfl
    have hk : k < ps.length := by omega
    have e2 : (p :: ps).getD (k + 1) (0, 0) = ps[k] := by
      rw [List.getD_eq_getElem?_getD, List.getElem?_cons_succ, List.getElem?_eq_getElem hk]; rfl
    have e3 : ps.take (k + 1) = ps.take k ++ [ps[k]] := by rw [List.take_succ_eq_append_getElem hk]
    have e4 : ∀ (l : List PI) (m x : PI), minP (l ++ [x]) m = if pless x (minP l m) then x else minP l m := by
      intro l
      induction l with
      | nil => intro m x; rfl
      | cons y l ih => intro m x; exact ih _ _
    show (p :: ps)[if pless _ _ then k + 1 else _]? = _ ∧ (if pless _ _ then k + 1 else _) ≤ k + 1
    rw [e1, e2, e3, e4]
    split
    · exact ⟨by rw [List.getElem?_cons_succ, List.getElem?_eq_getElem hk], Nat.le_refl _⟩
    · exact ⟨ih, by omega⟩
def rMinP (K : PySem.W.Frag) : List V → Hp → VK → Prop := fun xs H Q => ∃ (l : Addr) (ks : List (Addr × List Int)) (p : PI) (ps : List PI), xs = [V.ref l] ∧ SqL K H l (ks.map fun k => V.ref k.1) ∧ ks.map (·.2) = (p :: ps).map pv ∧ (∀ k ∈ ks, SqT K H k.1 (k.2.map V.int)) ∧
  ∀ k ∈ ks, k.2 = pv (minP ps p) → Q (.ref k.1) H
theorem cr_minP (hc : X.calm = true) (hu : X.A.units + 1 < cLine) : CallR X (.builtin "min") (rMinP X.K) := by
  intro pins s σ H xs us Q I r h
  obtain ⟨l, ks, p, ps, rfl, hl, ek, hk, q⟩ := h
  rw [Vals.ref1 r]
  obtain ⟨its, rv, pl, hz⟩ := I.list hl
  have ei : its = ks.map fun k => Value.ref k.1 := refs_of_vals rv
  have lk : ks.length = ps.length + 1 := by have := congrArg List.length ek; simpa using this
  have li : its.toArray.size = ps.length + 1 := by rw [List.size_toArray, ei, List.length_map, lk]
  have at_ : ∀ (i : Nat) (v : Value), its.toArray[i]? = some v → ∃ k, ks[i]? = some k ∧ v = .ref k.1 ∧ k ∈ ks ∧ k.2 = pv ((p :: ps).getD i (0, 0)) := fun i v e => by
    rw [ei, List.getElem?_toArray, List.getElem?_map] at e
    cases ek2 : ks[i]? with
    | none => rw [ek2] at e; cases e
    | some k =>
      rw [ek2] at e
      cases e
      refine ⟨k, rfl, rfl, List.mem_of_getElem? ek2, ?_⟩
      have e2 : (ks.map (·.2))[i]? = some k.2 := by rw [List.getElem?_map, ek2]; rfl
      rw [ek, List.getElem?_map] at e2
      cases e3 : (p :: ps)[i]? with
      | none => rw [e3] at e2; cases e2
      | some r =>
        rw [e3] at e2
        rw [List.getD_eq_getElem?_getD, e3]
        exact (Option.some.inj e2).symm
  refine minJ_call (fun i j => pless ((p :: ps).getD i (0, 0)) ((p :: ps).getD j (0, 0))) (I.ok.hd hc) pl.isList (by omega) (fun i j vi vj s' Q' E' hold hi hj hQ => ?_) fun v h' tk hv hold => ?_
  · obtain ⟨ki, _, rfl, mi, pi⟩ := at_ i vi hi
    obtain ⟨kj, _, rfl, mj, pj⟩ := at_ j vj hj
    obtain ⟨t1, x1, e1, ⟨o1, ho1, hc1, hd1⟩, i1⟩ := tupI_raw I (hk ki mi)
    obtain ⟨t2, x2, e2, ⟨o2, ho2, hc2, hd2⟩, i2⟩ := tupI_raw I (hk kj mj)
    cases e1
    cases e2
    refine HT.lt_tupInts (s := s') ⟨o1, hold _ _ ho1, hc1, hd1⟩ ⟨o2, hold _ _ ho2, hc2, hd2⟩ i1 i2 (by show X.A.units + 1 < _; exact hu) ?_
    rw [pi, pj, lexLt_pv]
    exact hQ
  · rw [li] at hv
    have e5 := (argBest_minP ps p ps.length (Nat.le_refl _)).1
    obtain ⟨k, hk1, rfl, mk, e⟩ := at_ _ v hv
    rw [List.getD_eq_getElem?_getD, show ps.length + 1 - 1 = ps.length from rfl, e5, List.take_length] at e
    exact ⟨.ref k.1, H, I.kept hold, rfl, q k mk e⟩
theorem cd_minP (hc : X.calm = true) (hu : X.A.units + 64 < cLine) : CallD X (.builtin "min") minPD := by
  refine ⟨_, cr_minP hc (by omega), fun W G H σ xs ds Q s rp h => ?_⟩
  unfold minPD at h
  split at h
  · split at h
    · rename_i xs' p ps h2
      obtain ⟨v, rfl, r1⟩ := one_inv rp
      obtain ⟨l, vs, rfl, h3, r3⟩ := r1.lst_inv
      rw [pairsD_eq h2] at r3
      obtain ⟨ks, rfl, ek, hk⟩ := pDs_inv r3
      refine ⟨l, ks, p, ps, rfl, SqL.of (s _ _ h3), ek, fun k m => same_t s (hk k m), fun k m e => h.ret s ?_⟩
      have := hk k m
      rw [e] at this
      exact .tup' this (Reps.cons (.int _) (Reps.cons (.int _) Reps.nil))
    · exact h.elim
  · exact h.elim
end
end DL
namespace DL
open PySem PySem.Spec L2
theorem dpss_never {X : Cx} {sts : List Stmt} : DPSs X sts (fun _ => none) := ⟨fun W tk => ⟨fun _ _ _ => False, ⟨fun pins s σ H D I h => h.elim⟩, fun G0 H0 G δ σ H Dn rr h => h⟩⟩
end DL

namespace DL
open PySem PySem.Spec L2 PyProof.Rows
abbrev ga := He.ga
def exc8 (K : PySem.W.Frag) (x : Str) : Bool :=
  decide (PySem.W.findIn K (.ref (ga K x)) "__getattribute__" = some (some (.builtin "BaseException.__getattribute__"))) && (decide (PySem.W.findIn K (.ref (ga K x)) "__getattr__" = some none) &&
  (decide (PySem.W.subIn K (.ref (ga K x)) (.type "BaseException") = some true) && (PySem.W.hasDictIn K (ga K x) && (decide (PySem.W.findIn K (.ref (ga K x)) "__class__" = some (some (.builtin "object.__class__"))) &&
  (decide (PySem.W.specialIn K (.builtin "object.__class__") "__get__" = some (some (.builtin "getset_descriptor.__get__"))) && (decide (PySem.W.takesIn K (.builtin "object.__class__") = some true) && decide (PySem.W.mroIn K (ga K x) (.type "object") = some true)))))))
theorem exc8_ok {K : PySem.W.Frag} {x : Str} (h : exc8 K x = true) : ExcC K (ga K x) := by
  obtain ⟨h1, h⟩ := He.ba h
  obtain ⟨h2, h⟩ := He.ba h
  obtain ⟨h3, h⟩ := He.ba h
  obtain ⟨h4, h⟩ := He.ba h
  obtain ⟨h5, h⟩ := He.ba h
  obtain ⟨h6, h⟩ := He.ba h
  obtain ⟨h7, h8⟩ := He.ba h
  exact ⟨of_decide_eq_true h1, of_decide_eq_true h2, of_decide_eq_true h3, h4, of_decide_eq_true h5, of_decide_eq_true h6, of_decide_eq_true h7, of_decide_eq_true h8⟩
def isx (K : PySem.W.Frag) (x y : Str) (b : Bool) : Bool := decide (PySem.W.kitOne K (.ref (ga K x)) (.ref (ga K y)) = some b)
def isxs (K : PySem.W.Frag) (y : Str) (rows : List (Str × Bool)) : Bool := rows.all fun r => exc8 K r.1 && isx K r.1 y r.2
def tabL (rows : List (Str × Bool)) : Str → Option Bool := fun c => rows.lookup c
def bnd (K : PySem.W.Frag) (x : Str) (id : String) : Bool := decide (PySem.W.nsIn K mainGlobals x = some (some (.builtin id)))
section
variable {K : PySem.W.Frag} {h : Heap} {mg : Str → Option Value} {fa : List He.Fa} {fn : List He.DefD}
theorem bnd_ok (X : K.In h) (G : h.Ns mainGlobals mg) {x : Str} {id : String} (c : bnd K x id = true) : mg x = some (.builtin id) := PySem.W.mg_of X G (of_decide_eq_true c)
theorem lookup_memS {l : List (Str × Bool)} {c : Str} {b : Bool} (h : l.lookup c = some b) : (c, b) ∈ l := by
  induction l with
  | nil => cases h
  | cons p r ih =>
    obtain ⟨x, y⟩ := p
    have h2 : (match c == x with | true => some y | false => r.lookup c) = some b := h
    cases q : (c == x) with
    | true =>
      rw [q] at h2
      cases h2
      rw [beq_iff_eq.mp q]
      exact List.mem_cons_self
    | false =>
      rw [q] at h2
      exact List.mem_cons_of_mem _ (ih h2)
theorem glo_of (X : K.In h) (G : h.Ns mainGlobals mg) (c : He.SaysD fa fn K) {x : Str} (m : He.Fa.glo x ∈ fa) : mg x = some (.ref (ga K x)) := He.glo_ok X G (c.facts m)
theorem free_of (X : K.In h) (G : h.Ns mainGlobals mg) (c : He.SaysD fa fn K) {x : Str} (m : He.Fa.free x ∈ fa) : mg x = none := He.free_ok X G (c.facts m)
theorem int_of (X : K.In h) (G : h.Ns mainGlobals mg) (c : He.SaysD fa fn K) {x : Str} {i : Int} (m : He.Fa.int x i ∈ fa) : ∃ t, mg x = some (.int i t) := He.int_ok X G (c.facts m)
theorem err_of (X : K.In h) (G : h.Ns mainGlobals mg) (c : He.SaysD fa fn K) {x : Str} (m : He.Fa.glo x ∈ fa) (m2 : He.Fa.exc x ∈ fa) : ErrC K mg x := by
  obtain ⟨h1, h2, h3, h4⟩ := He.exc_ok (c.facts m2)
  exact ⟨_, glo_of X G c m, h1, h2, h3, h4⟩
theorem catch_of (X : K.In h) (G : h.Ns mainGlobals mg) (c : He.SaysD fa fn K) {y : Str} (rows : List (Str × Bool)) (m : He.Fa.glo y ∈ fa) (m2 : ∀ r ∈ rows, He.Fa.glo r.1 ∈ fa ∧ He.Fa.exm r.1 y r.2 ∈ fa) : CatchC K mg y (tabL rows) :=
  ⟨_, glo_of X G c m, fun d b e => by
    obtain ⟨h1, h2⟩ := m2 (d, b) (lookup_memS e)
    exact ⟨_, glo_of X G c h1, He.exm_ok (c.facts h2)⟩⟩
theorem is_of (X : K.In h) (G : h.Ns mainGlobals mg) (c : He.SaysD fa fn K) {y : Str} (rows : List (Str × Bool)) (m : He.Fa.glo y ∈ fa) (m2 : ∀ r ∈ rows, He.Fa.glo r.1 ∈ fa) (e : isxs K y rows = true) : IsC K mg y (tabL rows) :=
  ⟨_, glo_of X G c m, fun d b q => by
    obtain ⟨h1, h2⟩ := He.ba (List.all_eq_true.mp e (d, b) (lookup_memS q))
    exact ⟨_, glo_of X G c (m2 (d, b) (lookup_memS q)), exc8_ok h1, of_decide_eq_true h2⟩⟩
abbrev dd (x : Str) (s : Stmt) : He.DefD := ⟨(x, none), x, x, defArgs s, defBody s, defScope s, [], []⟩
theorem def_of (X : K.In h) (G : h.Ns mainGlobals mg) (c : He.SaysD fa fn K) {x : Str} {s : Stmt} (m : dd x s ∈ fn) (m2 : He.Fa.glo x ∈ fa) : HasDef K mg x s := by
  obtain ⟨fd, F⟩ := c.defs m
  exact ⟨_, fd, F, glo_of X G c m2⟩
theorem law_sp {F : List D → R D} (hF : ∀ ns : List Int, ns.length ≤ 63 → F [.frz (ns.map D.int)] = some (.ok (.bl true))) (H : Hp) (a : Addr) (ns : List Int) (hl : ns.length ≤ 63) (hS : SqL K H a (ns.map V.int)) :
    spD K mg 1 F [.ref a] H (fun v _ => v = .bl true) fun _ _ _ => False := by
  have rs : ∀ (l : List Int), Reps K H (l.map V.int) (l.map D.int) := fun l => by
    induction l with
    | nil => exact Reps.nil
    | cons n l ih => exact Reps.cons (.int n) ih
  refine ⟨H, [.frz (ns.map D.int)], Same.refl _, Reps.cons (.frz' hS (rs ns)) Reps.nil, rfl, ?_⟩
  rw [hF ns hl]
  exact fun v G' H' _ r => r.bl_inv
end

theorem cx_none {P : Program} (w : World) (H : Hp) (s : Shared) (e : Value) (s' : Shared) (z : L2.CX P w [] H s (fun _ _ _ => False) e s') : False := by
  obtain ⟨a, B, H', cls, d, _, _, _, _, _, _, _, q⟩ := z
  exact q
theorem walk_ofW {l : PySem.W.OpenLaw} {n k : Nat} {q : Program} {loose : List Str} {XP : (Str → Option Value) → Heap → Prop} {YP : World → Heap → Prop} {d : DefRec} {x : Str}
    (hn : l.most = some n) (hn2 : n ≤ sizeLine) (hdf : d.params.defaults = []) (hr : Room k callerA)
    (F : ∀ (w : World) (mg : Str → Option Value) (fa : Addr) (h : Heap), YP w h → h.Ns mainGlobals mg → mg d.name = some (.ref fa) →
      ∃ (K : PySem.W.Frag) (fd : FuncData) (sp : Sp), K.In h ∧ (∀ (s : Shared) (u : Value), BindsTo s fd ⟨[u], []⟩ [(x, u)]) ∧
        (∀ (H : Hp) (a : Addr) (ns : List Int), ns.length ≤ n → Only H → SqL K H a (ns.map V.int) → sp [.ref a] H (fun v _ => v = .bl true) fun _ _ _ => False) ∧
        ∀ base : Heap, K.In base → base.Ns mainGlobals mg → FnOk l.prog w K mg base (L2.CX l.prog w) k fa fd [x] sp) :
    PySem.W.WalkO q loose XP YP l.row.toRowW d [] (fun f vs => PySem.call f vs) := by
  refine Att.attach_call hn hdf fun w s₀ s₁ mg mb fa o pm cd doc a vs ns G Y ho hd hcd hmg hobj hints hlen hg => ?_
  obtain ⟨K, fd, sp, KX, hb, hsp, hF⟩ := F w mg fa _ Y G.T.g hmg
  exact law_call KX G.T.g G.T.b G.T.builtins G.T.nolimit hg hobj hints (Nat.le_trans hlen hn2) hr hF hb (fun H hO hS => hsp H a ns hlen hO hS) fun H e s' => cx_none w H s₁ e s'
end DL

namespace DL
open PySem
theorem forD_nil {g : D → DEnv → Option DEnv} {b : DEnv → Option SR} (δ : DEnv) : forD g b [] δ = some (.nx δ) := rfl
theorem forD_cons {g : D → DEnv → Option DEnv} {b : DEnv → Option SR} {d : D} {ds : List D} {δ δ1 δ2 : DEnv} (hg : g d δ = some δ1) (hb : b δ1 = some (.nx δ2)) : forD g b (d :: ds) δ = forD g b ds δ2 := by
  show (match g d δ with | none => none | some δ1 => match b δ1 with | some (.nx δ2) => forD g b ds δ2 | some (.ct δ2) => forD g b ds δ2 | some (.brk δ2) => some (.nx δ2) | r => r) = _
  rw [hg]
  simp only [hb]
theorem forD_ret {g : D → DEnv → Option DEnv} {b : DEnv → Option SR} {d v : D} {ds : List D} {δ δ1 : DEnv} (hg : g d δ = some δ1) (hb : b δ1 = some (.ret v)) : forD g b (d :: ds) δ = some (.ret v) := by
  show (match g d δ with | none => none | some δ1 => match b δ1 with | some (.nx δ2) => forD g b ds δ2 | some (.ct δ2) => forD g b ds δ2 | some (.brk δ2) => some (.nx δ2) | r => r) = _
  rw [hg]
  simp only [hb]
theorem forD_inv {g : D → DEnv → Option DEnv} {b : DEnv → Option SR} (I : DEnv → Prop) : ∀ (ds : List D) (δ : DEnv), I δ → (∀ d ∈ ds, ∀ δ, I δ → ∃ δ1 δ2, g d δ = some δ1 ∧ b δ1 = some (.nx δ2) ∧ I δ2) → ∃ δ', forD g b ds δ = some (.nx δ') ∧ I δ'
  | [], δ, h, _ => ⟨δ, rfl, h⟩
  | d :: ds, δ, h, hs => by
    obtain ⟨δ1, δ2, h1, h2, h3⟩ := hs d List.mem_cons_self δ h
    obtain ⟨δ', h4, h5⟩ := forD_inv I ds δ2 h3 fun e he => hs e (List.mem_cons_of_mem _ he)
    exact ⟨δ', (forD_cons h1 h2).trans h4, h5⟩
theorem forD_fold {g : D → DEnv → Option DEnv} {b : DEnv → Option SR} {α σ : Type} (dec : α → D) (I : σ → DEnv → Prop) (step : σ → α → σ) : ∀ (xs : List α) (s : σ) (δ : DEnv), I s δ → (∀ x ∈ xs, ∀ s δ, I s δ → ∃ δ1 δ2, g (dec x) δ = some δ1 ∧ b δ1 = some (.nx δ2) ∧ I (step s x) δ2) →
    ∃ δ', forD g b (xs.map dec) δ = some (.nx δ') ∧ I (xs.foldl step s) δ'
  | [], s, δ, h, _ => ⟨δ, rfl, h⟩
  | x :: xs, s, δ, h, hs => by
    obtain ⟨δ1, δ2, h1, h2, h3⟩ := hs x List.mem_cons_self s δ h
    obtain ⟨δ', h4, h5⟩ := forD_fold dec I step xs (step s x) δ2 h3 fun e he => hs e (List.mem_cons_of_mem _ he)
    exact ⟨δ', (forD_cons h1 h2).trans h4, h5⟩
theorem lcD_map {g : D → DEnv → Option DEnv} {e : DEnv → R D} {δ : DEnv} {α : Type} (dec : α → D) (f : α → D) : ∀ (xs : List α), (∀ x ∈ xs, ∃ δ1, g (dec x) δ = some δ1 ∧ e δ1 = some (.ok (f x))) → lcD g tYesD e δ (xs.map dec) = some (xs.map f)
  | [], _ => rfl
  | x :: xs, h => by
    obtain ⟨δ1, h1, h2⟩ := h x List.mem_cons_self
    have ih := lcD_map dec f xs fun y hy => h y (List.mem_cons_of_mem _ hy)
    show (match g (dec x) δ with | none => none | some δ1 => match tYesD δ1 with | some (.ok true) => (match e δ1 with | some (.ok y) => (match lcD g tYesD e δ (xs.map dec) with | some ys => some (y :: ys) | none => none) | _ => none) | some (.ok false) => lcD g tYesD e δ (xs.map dec) | _ => none) = _
    rw [h1]
    simp only [tYesD, h2, ih, List.map_cons]
theorem small_le {n : Nat} (h : n ≤ 1000000) : small n = true := decide_eq_true h
theorem bits_le {i : Int} {n : Nat} (h : i.natAbs < 2 ^ n) : bitsOf i ≤ n := by
  show (if i == 0 then 0 else i.natAbs.log2 + 1) ≤ n
  by_cases h0 : i = 0
  · subst h0; simp
  · rw [if_neg (by simpa using h0)]
    have : i.natAbs ≠ 0 := by omega
    exact (Nat.log2_lt this).mpr h
theorem mulD_ok {i j : Int} {m n : Nat} (hi : i.natAbs < 2 ^ m) (hj : j.natAbs < 2 ^ n) (h : m + n ≤ 134217728) : mulD (.int i) (.int j) = some (.ok (.int (i * j))) := by
  have h1 := bits_le hi
  have h2 := bits_le hj
  show (if bitsOf i + bitsOf j ≤ 134217728 then some (Except.ok (D.int (i * j))) else none : R D) = _
  rw [if_pos (by omega)]
def qD (p : PI) : PyData := .tuple [.int p.1, .int p.2]
theorem pyAll_pD : ∀ ps : List PI, pyAll (ps.map pD) = some (ps.map qD)
  | [] => rfl
  | p :: ps => by
    show (match py (pD p), pyAll (ps.map pD) with | some d, some ds => some (d :: ds) | _, _ => none) = _
    rw [pyAll_pD ps]
    rfl
theorem py_pDs (ps : List PI) : py (.lst (ps.map pD)) = some (.list (ps.map qD)) := by
  show (pyAll (ps.map pD)).map PyData.list = _
  rw [pyAll_pD]; rfl
theorem eqv_qD (p q : PI) : PyData.eqv (qD p) (qD q) = decide (p = q) := by
  show PyData.eqvAll [.int p.1, .int p.2] [.int q.1, .int q.2] = _
  show (p.1 == q.1 && (p.2 == q.2 && true)) = _
  rw [Bool.and_true]
  by_cases h : p = q
  · subst h; simp
  · rw [decide_eq_false h]
    apply Bool.eq_false_iff.mpr
    intro z
    obtain ⟨a, b⟩ := Bool.and_eq_true_iff.mp z
    exact h (Prod.ext (by simpa using a) (by simpa using b))
theorem eqvAll_refl : ∀ ps : List PI, PyData.eqvAll (ps.map qD) (ps.map qD) = true
  | [] => rfl
  | p :: ps => by
    show (PyData.eqv (qD p) (qD p) && PyData.eqvAll (ps.map qD) (ps.map qD)) = true
    rw [eqv_qD, eqvAll_refl ps]; simp
theorem lay_qD : ∀ ps : List PI, PyData.canLayAll0 (ps.map qD) = true
  | [] => rfl
  | p :: ps => by
    show (PyData.canLay0 (qD p) && PyData.canLayAll0 (ps.map qD)) = true
    rw [lay_qD ps]; rfl
theorem depth_qD : ∀ ps : List PI, PyData.depthAll (ps.map qD) ≤ 1
  | [] => Nat.zero_le _
  | p :: ps => by
    show max (PyData.depth (qD p)) (PyData.depthAll (ps.map qD)) ≤ 1
    have := depth_qD ps
    have : PyData.depth (qD p) = 1 := rfl
    omega
theorem shaped_pts (ps : List PI) : SeqAt.shaped (.list (ps.map qD)) = true := by
  show (PyData.canLayAll0 (ps.map qD) && decide (PyData.depthAll (ps.map qD) + 1 ≤ 64)) = true
  have := depth_qD ps
  rw [lay_qD, Bool.true_and]
  exact decide_eq_true (by omega)
theorem shaped_pts2 (ps : List PI) : SeqAt.shaped (.list [.list (ps.map qD)]) = true := by
  show ((PyData.canLayAll0 (ps.map qD) && true) && decide (max (PyData.depthAll (ps.map qD) + 1) 0 + 1 ≤ 64)) = true
  have := depth_qD ps
  rw [lay_qD, Bool.true_and, Bool.true_and]
  exact decide_eq_true (by omega)
theorem shaped_q (p : PI) : SeqAt.shaped (qD p) = true := rfl
theorem eqD_refl2 (ps : List PI) : eqD (.lst [.lst (ps.map pD)]) (.lst [.lst (ps.map pD)]) = some (.ok (.bl true)) := by
  have h : py (.lst [.lst (ps.map pD)]) = some (.list [.list (ps.map qD)]) := by
    show (match py (.lst (ps.map pD)), pyAll [] with | some d, some ds => some (d :: ds) | _, _ => none : Option (List PyData)).map PyData.list = _
    rw [py_pDs]; rfl
  unfold eqD
  rw [h]
  show (if (SeqAt.shaped (.list [.list (ps.map qD)]) && SeqAt.shaped (.list [.list (ps.map qD)])) = true then some (Except.ok (D.bl ((PyData.eqvAll (ps.map qD) (ps.map qD)) && true))) else none : R D) = _
  rw [shaped_pts2, eqvAll_refl]
  rfl
theorem notIn_pts (p : PI) (ps : List PI) : notInDD (pD p) (.lst (ps.map pD)) = some (.ok (.bl (!decide (p ∈ ps)))) := by
  have h : py (pD p) = some (qD p) := rfl
  unfold notInDD
  simp only
  rw [h, pyAll_pD]
  show (if (SeqAt.shaped (qD p) && SeqAt.shaped (.list (ps.map qD))) = true then some (Except.ok (D.bl (!(ps.map qD).any fun z => PyData.eqv z (qD p)))) else none : R D) = _
  rw [shaped_q, shaped_pts, if_pos (show (true && true) = true from rfl)]
  congr 4
  rw [List.any_map]
  apply Bool.eq_iff_iff.mpr
  rw [List.any_eq_true, decide_eq_true_iff]
  constructor
  · rintro ⟨q, hq, e⟩
    have e2 : PyData.eqv (qD q) (qD p) = true := e
    rw [eqv_qD] at e2
    rw [← of_decide_eq_true e2]
    exact hq
  · intro hp
    refine ⟨p, hp, ?_⟩
    show PyData.eqv (qD p) (qD p) = true
    rw [eqv_qD]
    exact decide_eq_true rfl
theorem atI_nat {α : Type} (xs : List α) (k : Nat) : L2.atI xs (k : Int) = xs[k]? := by
  unfold L2.atI L2.ixN
  rw [if_pos (by omega)]
  by_cases h : k < xs.length
  · rw [if_pos (by omega)]
    simp
  · rw [if_neg (by omega)]
    simp at h
    simp [h]
theorem atI_neg {α : Type} (xs : List α) (k : Nat) (h0 : 0 < k) (h : k ≤ xs.length) : L2.atI xs (-(k : Int)) = xs[xs.length - k]? := by
  unfold L2.atI L2.ixN
  rw [if_neg (by omega), if_pos (by omega)]
  have : (-(k : Int) + (xs.length : Int)).toNat = xs.length - k := by omega
  simp [this]
section
variable {a b : DEnv → Option SR} {δ δ' : DEnv} {d : D} {c : Str} {e : DEnv → R D} {t : DEnv → R Bool} {i n : Nat}
theorem bSeq_nx (h : a δ = some (.nx δ')) : bSeq a b δ = b δ' := by unfold bSeq; rw [h]
theorem bSeq_ret (h : a δ = some (.ret d)) : bSeq a b δ = some (.ret d) := by unfold bSeq; rw [h]
theorem bSeq_exc (h : a δ = some (.exc c δ')) : bSeq a b δ = some (.exc c δ') := by unfold bSeq; rw [h]
theorem bSet_ok (h : e δ = some (.ok d)) : bSet (gN i) e δ = some (.nx (δ.set i (some (.val d)))) := by unfold bSet; rw [h]; rfl
theorem bSet_err {g : D → DEnv → Option DEnv} (h : e δ = some (.error c)) : bSet g e δ = some (.exc c δ) := by unfold bSet; rw [h]; rfl
theorem bRet_ok (h : e δ = some (.ok d)) : bRet e δ = some (.ret d) := by unfold bRet; rw [h]; rfl
theorem bIf_t (h : t δ = some (.ok true)) : bIf t a b δ = a δ := by unfold bIf; rw [h]; rfl
theorem bIf_f (h : t δ = some (.ok false)) : bIf t a b δ = b δ := by unfold bIf; rw [h]; rfl
theorem runF_ret {ds : List D} (h : a (ds.map (fun d => some (.val d)) ++ List.replicate (n - ds.length) none) = some (.ret d)) : runF n a ds = some (.ok d) := by unfold runF; rw [h]
theorem runF_exc {ds : List D} (h : a (ds.map (fun d => some (.val d)) ++ List.replicate (n - ds.length) none) = some (.exc c δ')) : runF n a ds = some (.error c) := by unfold runF; rw [h]
theorem bFor_ok {src : DEnv → R (List D)} {g : D → DEnv → Option DEnv} {ds : List D} (h : src δ = some (.ok ds)) : bFor src g b δ = forD g b ds δ := by unfold bFor; rw [h]; rfl
end
section
variable {a b : DEnv → R D} {δ : DEnv} {x y : D} {c k : Bool} {t u : DEnv → R Bool} {xs : List D} {r : DEnv → R (List D)} {z : R D}
theorem eOp_ok {g : D → D → R D} (ha : a δ = some (.ok x)) (hb : b δ = some (.ok y)) (hg : g x y = z) : eOp g a b δ = z := by unfold eOp; rw [ha, R.bind_ok, hb, R.bind_ok, hg]
theorem eUn_ok {g : D → R D} (ha : a δ = some (.ok x)) (hg : g x = z) : eUn g a δ = z := by unfold eUn; rw [ha, R.bind_ok, hg]
theorem aCons_ok (ha : a δ = some (.ok x)) (hr : r δ = some (.ok xs)) : aCons a r δ = some (.ok (x :: xs)) := by unfold aCons; rw [ha, R.bind_ok, hr, R.bind_ok]
theorem eCB_ok {g : List D → R D} (hr : r δ = some (.ok xs)) (hg : g xs = z) : eCB g r δ = z := by unfold eCB; rw [hr, R.bind_ok, hg]
theorem eCall_ok {F : List D → R D} {m : Nat} (hr : r δ = some (.ok xs)) (hl : xs.length = m) (hg : F xs = z) : eCall F m r δ = z := by unfold eCall; rw [hr, R.bind_ok, if_pos hl, hg]
theorem eAnd_t (ha : a δ = some (.ok (.bl true))) : eAnd a b δ = b δ := by unfold eAnd; rw [ha]; rfl
theorem eAnd_f (ha : a δ = some (.ok (.bl false))) : eAnd a b δ = some (.ok (.bl false)) := by unfold eAnd; rw [ha]; rfl
theorem eAnd_bl (ha : a δ = some (.ok (.bl c))) (hb : b δ = some (.ok (.bl k))) : eAnd a b δ = some (.ok (.bl (c && k))) := by cases c <;> (unfold eAnd; rw [ha]; simp [hb])
theorem eIf_ok (ht : t δ = some (.ok c)) : eIf t a b δ = if c then a δ else b δ := by unfold eIf; rw [ht]; rfl
theorem tVal_ok (ha : a δ = some (.ok (.bl c))) : tVal a δ = some (.ok c) := by unfold tVal; rw [ha]; rfl
theorem tNot_ok (h : t δ = some (.ok c)) : tNotD t δ = some (.ok (!c)) := by unfold tNotD; rw [h]; rfl
theorem tAnd_ok (h : t δ = some (.ok c)) (h2 : c = true → u δ = some (.ok k)) : tAndD t u δ = some (.ok (c && k)) := by
  unfold tAndD
  rw [h]
  cases c with
  | true => simpa using h2 rfl
  | false => rfl
theorem tOr_ok (h : t δ = some (.ok c)) (h2 : c = false → u δ = some (.ok k)) : tOrD t u δ = some (.ok (c || k)) := by
  unfold tOrD
  rw [h]
  cases c with
  | false => simpa using h2 rfl
  | true => rfl
theorem eLC_ok {src : DEnv → R (List D)} {vs : List Nat} {g : D → DEnv → Option DEnv} {ys : List D} (hs : src δ = some (.ok xs)) (hl : xs.length ≤ 1000000) (h : lcD g t a (wipeD (strip δ) vs) xs = some ys) : eLC src vs g t a δ = some (.ok (.lst ys)) := by
  unfold eLC
  rw [hs, R.bind_ok, small_le hl, if_pos rfl, h]
end
theorem eqD_int (i j : Int) : eqD (.int i) (.int j) = some (.ok (.bl (i == j))) := rfl
theorem neD_int (i j : Int) : neD (.int i) (.int j) = some (.ok (.bl (!(i == j)))) := rfl
theorem range1_ok (n : Nat) (h : n < 2 ^ 62) : range1D [.int (n : Int)] = some (.ok (upto 0 n)) := by
  unfold range1D
  simp only
  rw [if_pos ⟨by omega, by omega⟩, Int.toNat_natCast]
theorem range2_ok (i j : Int) (h1 : -(2 ^ 62) ≤ i) (h2 : i < 2 ^ 62) (h3 : -(2 ^ 62) ≤ j) (h4 : j < 2 ^ 62) : range2D [.int i, .int j] = some (.ok (upto i (j - i).toNat)) := by
  unfold range2D
  simp only
  rw [if_pos ⟨h1, h2, h3, h4⟩]
theorem iRange1_ok {f : DEnv → R (List D)} {δ : DEnv} (n : Nat) (hf : f δ = some (.ok [.int (n : Int)])) (h : n < 2 ^ 62) : iRange1 f δ = some (.ok (upto 0 n)) := by unfold iRange1; rw [hf, R.bind_ok, range1_ok n h]
theorem iRange2_ok {f : DEnv → R (List D)} {δ : DEnv} (i j : Int) (hf : f δ = some (.ok [.int i, .int j])) (h1 : -(2 ^ 62) ≤ i) (h2 : i < 2 ^ 62) (h3 : -(2 ^ 62) ≤ j) (h4 : j < 2 ^ 62) : iRange2 f δ = some (.ok (upto i (j - i).toNat)) := by unfold iRange2; rw [hf, R.bind_ok, range2_ok i j h1 h2 h3 h4]
theorem bApp_ok {δ : DEnv} {i : Nat} {e : DEnv → R D} {ds : List D} {x : D} (h : δ[i]? = some (some (.own ds))) (he : e δ = some (.ok x)) (hl : ds.length ≤ 1000000) : bApp i e δ = some (.nx (δ.set i (some (.own (ds ++ [x]))))) := by
  unfold bApp
  rw [h]
  simp only
  rw [he, eS_ok, small_le hl, if_pos rfl]
theorem modD_ok {i j : Int} (h : j ≠ 0) : modD (.int i) (.int j) = some (.ok (.int (i.fmod j))) := by unfold modD; simp only; rw [if_pos h]
theorem fdivD_ok {i j : Int} (h : j ≠ 0) (h2 : j.natAbs.log2 < 9000) : fdivD (.int i) (.int j) = some (.ok (.int (i.fdiv j))) := by unfold fdivD; simp only; rw [if_pos ⟨h, h2⟩]
theorem fmod_bd (i : Int) {j : Int} (h : 0 < j) : 0 ≤ i.fmod j ∧ i.fmod j < j := ⟨Int.fmod_nonneg_of_pos _ h, Int.fmod_lt_of_pos _ h⟩
theorem absD_ok (i : Int) : absD [.int i] = some (.ok (.int (if i < 0 then -i else i))) := rfl
theorem ixD_frz {xs : List D} {k : Nat} {x : D} (h : xs[k]? = some x) : ixD (.frz xs) (.int (k : Int)) = some (.ok x) := by
  unfold ixD
  simp only
  rw [atI_nat, h]
theorem ixD_lst {xs : List D} {k : Nat} {x : D} (h : xs[k]? = some x) : ixD (.lst xs) (.int (k : Int)) = some (.ok x) := by
  unfold ixD
  simp only
  rw [atI_nat, h]
theorem ixD_tup {xs : List D} {k : Nat} {x : D} (h : xs[k]? = some x) : ixD (.tup xs) (.int (k : Int)) = some (.ok x) := by
  unfold ixD
  simp only
  rw [atI_nat, h]
theorem mem_upto {lo : Int} {n : Nat} {d : D} (h : d ∈ upto lo n) : ∃ i : Nat, i < n ∧ d = .int (lo + (i : Nat)) := by
  unfold upto at h
  obtain ⟨i, hi, e⟩ := List.mem_map.mp h
  exact ⟨i, List.mem_range.mp hi, e.symm⟩
end DL

namespace DL
namespace K67
open PySem PySem.Spec L2
def fuel : Nat := 1000000
def rows_NoHalves : List (Str × Bool) := [("PortolanError", false), ("NoHalves", true)]
def tab_NoHalves : Str → Option Bool := tabL rows_NoHalves
def rows_PortolanError : List (Str × Bool) := [("PortolanError", true), ("NoHalves", true)]
def tab_PortolanError : Str → Option Bool := tabL rows_PortolanError
def B__law_numbers : DEnv → Option SR := (bSeq (bOwn 3 aNil) (bSeq (bFor (iRange2 (aCons (eVar 1) (aCons (eCB lenD (aCons (eVar 0) aNil)) aNil))) (gN 4) (bSeq (bSet (gN 5) (eCB absD (aCons (eOp ixD (eVar 0) (eVar 4)) aNil))) (bIf (tVal (eOp geD (eVar 5) (eC (.int 1000000000000000000)))) (bFor (iRange1 (aCons (eC (.int 60)) aNil)) (gN 6) (bIf (tAndD (tVal (eOp gtD (eVar 5) (eC (.int 0)))) (tVal (eOp ltD (eLenO 3) (eVar 2)))) (bSeq (bApp 3 (eOp modD (eCB intD (aCons (eVar 5) aNil)) (eC (.int 4096)))) (bSet (gN 5) (eOp fdivD (eVar 5) (eC (.int 4096))))) bNil)) (bIf (tVal (eOp ltD (eLenO 3) (eVar 2))) (bSeq (bSet (gN 7) (eOp modD (eCB intD (aCons (eOp addD (eOp addD (eOp mulD (eVar 5) (eC (.int 48271))) (eOp mulD (eVar 4) (eC (.int 69621)))) (eC (.int 12345))) aNil)) (eC (.int 2147483647)))) (bSeq (bSet (gN 7) (eOp modD (eCB intD (aCons (eOp addD (eOp mulD (eVar 7) (eC (.int 69621))) (eOp fdivD (eVar 7) (eC (.int 1009)))) aNil)) (eC (.int 1000003)))) (bApp 3 (eOp modD (eCB intD (aCons (eVar 7) aNil)) (eC (.int 4096)))))) bNil)))) (bFreezeM 3 (bRet (eVar 3)))))
def F__law_numbers : List D → R D := runF 8 B__law_numbers
def B__law_corners : DEnv → Option SR := (bSeq (bSet (gN 3) (eCall F__law_numbers 3 (aCons (eVar 0) (aCons (eVar 1) (aCons (eOp addD (eOp mulD (eC (.int 2)) (eVar 2)) (eC (.int 4))) aNil))))) (bSeq (bSet (gN 4) (eC (.int 1))) (bSeq (bIf (tVal (eOp neD (eVar 3) (eLst aNil))) (bSet (gN 4) (eOp ixD (eLst (aCons (eC (.int 1)) (aCons (eC (.int 1)) (aCons (eC (.int 40000000)) (aCons (eC (.int 5)) aNil))))) (eOp modD (eCB intD (aCons (eOp ixD (eVar 3) (eC (.int 0))) aNil)) (eC (.int 4))))) bNil) (bSeq (bOwn 5 aNil) (bSeq (bFor (iRange3 (aCons (eC (.int 1)) (aCons (eOp subD (eCB lenD (aCons (eVar 3) aNil)) (eC (.int 1))) (aCons (eC (.int 2)) aNil)))) (gN 6) (bIf (tVal (eOp ltD (eLenO 5) (eVar 2))) (bApp 5 (eTup (aCons (eOp mulD (eOp subD (eOp modD (eCB intD (aCons (eOp ixD (eVar 3) (eVar 6)) aNil)) (eC (.int 9))) (eC (.int 4))) (eVar 4)) (aCons (eOp mulD (eOp subD (eOp modD (eCB intD (aCons (eOp ixD (eVar 3) (eOp addD (eVar 6) (eC (.int 1)))) aNil)) (eC (.int 9))) (eC (.int 4))) (eVar 4)) aNil)))) bNil)) (bFreezeM 5 (bRet (eVar 5))))))))
def F__law_corners : List D → R D := runF 7 B__law_corners
def B__law_copied (Fr : List D → R D) : DEnv → Option SR := (bSeq (bIf (tVal (eCB isiD (aCons (eVar 0) (aCons (eC (.ty "list")) aNil)))) (bRet (eLC (iD (eVar 0)) [1] (gN 1) tYesD (eCall Fr 1 (aCons (eVar 1) aNil)))) bNil) (bSeq (bIf (tVal (eCB isiD (aCons (eVar 0) (aCons (eC (.ty "tuple")) aNil)))) (bRet (eCB tupleD (aCons (eLC (iD (eVar 0)) [1] (gN 1) tYesD (eCall Fr 1 (aCons (eVar 1) aNil))) aNil))) bNil) (bSeq (bIf (tVal (eCB isiD (aCons (eVar 0) (aCons (eC (.ty "dict")) aNil)))) (bRet (eLC (iD (eVar 0)) [2] (gN 2) tYesD (eTup (aCons (eVar 2) (aCons (eCall Fr 1 (aCons (eOp ixD (eVar 0) (eVar 2)) aNil)) aNil))))) bNil) (bRet (eVar 0)))))
def F__law_copied : Nat → List D → R D
  | 0 => runF 3 (fun _ => none)
  | n + 1 => runF 3 (B__law_copied (F__law_copied n))
def B_cross : DEnv → Option SR := (bRet (eOp subD (eOp mulD (eOp subD (eOp ixD (eVar 1) (eC (.int 1))) (eOp ixD (eVar 0) (eC (.int 1)))) (eOp subD (eOp ixD (eVar 2) (eC (.int 0))) (eOp ixD (eVar 0) (eC (.int 0))))) (eOp mulD (eOp subD (eOp ixD (eVar 1) (eC (.int 0))) (eOp ixD (eVar 0) (eC (.int 0)))) (eOp subD (eOp ixD (eVar 2) (eC (.int 1))) (eOp ixD (eVar 0) (eC (.int 1)))))))
def F_cross : List D → R D := runF 3 B_cross
def B_chain : DEnv → Option SR := (bSeq (bOwn 1 aNil) (bSeq (bFor (iD (eVar 0)) (gN 2) (bSeq (bWhile fuel (tAndD (tVal (eOp gtD (eLenO 1) (eC (.int 1)))) (tVal (eOp leD (eCall F_cross 3 (aCons (eIxO 1 (eUn negD (eC (.int 2)))) (aCons (eIxO 1 (eUn negD (eC (.int 1)))) (aCons (eVar 2) aNil)))) (eC (.int 0))))) (bPop 1)) (bApp 1 (eVar 2)))) (bFreezeM 1 (bRet (eVar 1)))))
def F_chain : List D → R D := runF 3 B_chain
def B_hull_of : DEnv → Option SR := (bSeq (bSet (gN 1) (eLC (iD (eUn sortSetD (eLC (iD (eVar 0)) [3, 2] (gT (gsCons (gN 3) (gsCons (gN 2) gsNil))) tYesD (eTup (aCons (eVar 2) (aCons (eVar 3) aNil)))))) [2, 3] (gT (gsCons (gN 2) (gsCons (gN 3) gsNil))) tYesD (eTup (aCons (eVar 3) (aCons (eVar 2) aNil))))) (bSeq (bSet (gN 4) (eOp addD (eSl (eCall F_chain 1 (aCons (eVar 1) aNil)) oNone (oSome (eUn negD (eC (.int 1))))) (eSl (eCall F_chain 1 (aCons (eUn revD (eVar 1)) aNil)) oNone (oSome (eUn negD (eC (.int 1))))))) (bSeq (bIf (tVal (eOp ltD (eCB lenD (aCons (eVar 4) aNil)) (eC (.int 3)))) (bRaise "NoHalves") bNil) (bRet (eVar 4)))))
def F_hull_of : List D → R D := runF 5 B_hull_of
def B__law_kept_hull_of : DEnv → Option SR := (bSeq (bSet (gN 1) (eCall (F__law_copied 6) 1 (aCons (eLst (aCons (eVar 0) aNil)) aNil))) (bSeq (bSet (gN 2) (eCall F_hull_of 1 (aCons (eVar 0) aNil))) (bRet (eIf (tVal (eOp eqD (eCall (F__law_copied 6) 1 (aCons (eLst (aCons (eVar 0) aNil)) aNil)) (eVar 1))) (eVar 2) (eC (.str "changed"))))))
def F__law_kept_hull_of : List D → R D := runF 3 B__law_kept_hull_of
def B__law_alike (Fr : List D → R D) : DEnv → Option SR := (bSeq (bIf (tOrD (tVal (eCB isiD (aCons (eVar 1) (aCons (eC (.ty "list")) aNil)))) (tVal (eCB isiD (aCons (eVar 1) (aCons (eC (.ty "tuple")) aNil))))) (bSeq (bIf (tOrD (tVal (eOp neD (eCB isiD (aCons (eVar 0) (aCons (eC (.ty "list")) aNil))) (eCB isiD (aCons (eVar 1) (aCons (eC (.ty "list")) aNil))))) (tVal (eOp neD (eCB isiD (aCons (eVar 0) (aCons (eC (.ty "tuple")) aNil))) (eCB isiD (aCons (eVar 1) (aCons (eC (.ty "tuple")) aNil)))))) (bRet (eC (.bl false))) bNil) (bRet (eAnd (eOp eqD (eCB lenD (aCons (eVar 0) aNil)) (eCB lenD (aCons (eVar 1) aNil))) (eOp eqD (eCB lenD (aCons (eLC (iRange1 (aCons (eCB lenD (aCons (eVar 1) aNil)) aNil)) [2] (gN 2) (tNotD (tVal (eCall Fr 2 (aCons (eOp ixD (eVar 0) (eVar 2)) (aCons (eOp ixD (eVar 1) (eVar 2)) aNil))))) (eVar 2)) aNil)) (eC (.int 0)))))) bNil) (bSeq (bIf (tOrD (tVal (eOp neD (eCB isiD (aCons (eVar 0) (aCons (eC (.ty "bool")) aNil))) (eCB isiD (aCons (eVar 1) (aCons (eC (.ty "bool")) aNil))))) (tVal (eOp neD (eCB isiD (aCons (eVar 0) (aCons (eC (.ty "int")) aNil))) (eCB isiD (aCons (eVar 1) (aCons (eC (.ty "int")) aNil)))))) (bRet (eC (.bl false))) bNil) (bSeq (bIf (tOrD (tVal (eOp neD (eCB isiD (aCons (eVar 0) (aCons (eC (.ty "str")) aNil))) (eCB isiD (aCons (eVar 1) (aCons (eC (.ty "str")) aNil))))) (tVal (eOp neD (eOp isND (eVar 0) (eC .non)) (eOp isND (eVar 1) (eC .non))))) (bRet (eC (.bl false))) bNil) (bRet (eOp eqD (eVar 0) (eVar 1))))))
def F__law_alike : Nat → List D → R D
  | 0 => runF 3 (fun _ => none)
  | n + 1 => runF 3 (B__law_alike (F__law_alike n))
def B__law_cell : DEnv → Option SR := (bSeq (bIf (tVal (eOp ltD (eVar 1) (eCB lenD (aCons (eVar 0) aNil)))) (bRet (eOp ixD (eVar 0) (eVar 1))) bNil) (bRet (eC (.int 0))))
def F__law_cell : List D → R D := runF 2 B__law_cell
def B__law_side : DEnv → Option SR := (bRet (eOp subD (eOp mulD (eOp subD (eOp ixD (eVar 1) (eC (.int 1))) (eOp ixD (eVar 0) (eC (.int 1)))) (eOp subD (eOp ixD (eVar 2) (eC (.int 0))) (eOp ixD (eVar 0) (eC (.int 0))))) (eOp mulD (eOp subD (eOp ixD (eVar 1) (eC (.int 0))) (eOp ixD (eVar 0) (eC (.int 0)))) (eOp subD (eOp ixD (eVar 2) (eC (.int 1))) (eOp ixD (eVar 0) (eC (.int 1)))))))
def F__law_side : List D → R D := runF 3 B__law_side
def B_law : DEnv → Option SR := (bSeq (bSet (gN 1) (eCall F__law_corners 3 (aCons (eVar 0) (aCons (eC (.int 1)) (aCons (eC (.int 14)) aNil))))) (bSeq (bIf (tVal (eOp eqD (eOp modD (eCB intD (aCons (eCall F__law_cell 2 (aCons (eVar 0) (aCons (eC (.int 0)) aNil))) aNil)) (eC (.int 5))) (eC (.int 0)))) (bSet (gN 1) (eLC (iD (eVar 1)) [2] (gN 2) tYesD (eTup (aCons (eOp ixD (eVar 2) (eC (.int 0))) (aCons (eOp ixD (eVar 2) (eC (.int 0))) aNil))))) bNil) (bSeq (bIf (tVal (eOp eqD (eOp modD (eCB intD (aCons (eCall F__law_cell 2 (aCons (eVar 0) (aCons (eC (.int 0)) aNil))) aNil)) (eC (.int 5))) (eC (.int 1)))) (bSet (gN 1) (eSl (eVar 1) oNone (oSome (eOp modD (eCB intD (aCons (eOp fdivD (eCall F__law_cell 2 (aCons (eVar 0) (aCons (eC (.int 0)) aNil))) (eC (.int 8))) aNil)) (eC (.int 4)))))) bNil) (bSeq (bSet (gN 3) (eC (.bl true))) (bSeq (bFor (iD (eVar 1)) (gN 2) (bFor (iD (eSl (eVar 1) oNone (oSome (eC (.int 4))))) (gN 4) (bFor (iD (eVar 1)) (gN 5) (bSet (gN 3) (eAnd (eVar 3) (eOp eqD (eCall F__law_side 3 (aCons (eVar 2) (aCons (eVar 4) (aCons (eVar 5) aNil)))) (eC (.int 0)))))))) (bSeq (bTryAs 7 tab_PortolanError (bSet (gN 6) (eCall F__law_kept_hull_of 1 (aCons (eCB listD (aCons (eVar 1) aNil)) aNil))) (fun _ => (bRet (eAnd (eIsE 7 tab_NoHalves) (eVar 3))))) (bSeq (bIf (tOrD (tVal (eVar 3)) (tOrD (tNotD (tVal (eCB isiD (aCons (eVar 6) (aCons (eC (.ty "list")) aNil))))) (tVal (eOp ltD (eCB lenD (aCons (eVar 6) aNil)) (eC (.int 3)))))) (bRet (eC (.bl false))) bNil) (bSeq (bSet (gN 8) (eCB minPD (aCons (eLC (iD (eVar 1)) [2] (gN 2) tYesD (eTup (aCons (eOp ixD (eVar 2) (eC (.int 1))) (aCons (eOp ixD (eVar 2) (eC (.int 0))) aNil)))) aNil))) (bSeq (bIf (tNotD (tVal (eCall (F__law_alike 6) 2 (aCons (eOp ixD (eVar 6) (eC (.int 0))) (aCons (eTup (aCons (eOp ixD (eVar 8) (eC (.int 1))) (aCons (eOp ixD (eVar 8) (eC (.int 0))) aNil))) aNil))))) (bRet (eC (.bl false))) bNil) (bSeq (bSet (gN 9) (eC (.int 0))) (bSeq (bFor (iRange1 (aCons (eCB lenD (aCons (eVar 6) aNil)) aNil)) (gN 10) (bSeq (bSet (gN 2) (eOp ixD (eVar 6) (eOp subD (eVar 10) (eC (.int 2))))) (bSeq (bSet (gN 4) (eOp ixD (eVar 6) (eOp subD (eVar 10) (eC (.int 1))))) (bSeq (bIf (tOrD (tVal (eOp notInDD (eVar 4) (eVar 1))) (tVal (eOp leD (eCall F__law_side 3 (aCons (eVar 2) (aCons (eVar 4) (aCons (eOp ixD (eVar 6) (eVar 10)) aNil)))) (eC (.int 0))))) (bRet (eC (.bl false))) bNil) (bSeq (bIf (tAndD (tVal (eOp gtD (eOp ixD (eVar 4) (eC (.int 0))) (eOp ixD (eVar 2) (eC (.int 0))))) (tVal (eOp leD (eOp ixD (eOp ixD (eVar 6) (eVar 10)) (eC (.int 0))) (eOp ixD (eVar 4) (eC (.int 0)))))) (bSet (gN 9) (eOp addD (eVar 9) (eC (.int 1)))) bNil) (bFor (iD (eVar 1)) (gN 5) (bIf (tVal (eOp ltD (eCall F__law_side 3 (aCons (eVar 2) (aCons (eVar 4) (aCons (eVar 5) aNil)))) (eC (.int 0)))) (bRet (eC (.bl false))) bNil))))))) (bRet (eOp eqD (eVar 9) (eC (.int 1)))))))))))))))
def F_law : List D → R D := runF 11 B_law
end K67
end DL

namespace DL
namespace K67
open PySem PySem.Spec L2
def topS (i : Nat) : Stmt := PySem.Challenge.pw_portolan_k67_hulls_of_points.main.body.getD i (.Pass ⟨0, 0, 0, 0⟩)
structure Txt (K : PySem.W.Frag) (mg : Str → Option Value) : Prop where
  f_abs : mg "abs" = none
  f_bool : mg "bool" = none
  f_dict : mg "dict" = none
  f_int : mg "int" = none
  f_isinstance : mg "isinstance" = none
  f_len : mg "len" = none
  f_list : mg "list" = none
  f_min : mg "min" = none
  f_range : mg "range" = none
  f_set : mg "set" = none
  f_sorted : mg "sorted" = none
  f_str : mg "str" = none
  f_tuple : mg "tuple" = none
  e_NoHalves : ErrC K mg "NoHalves"
  k_PortolanError : CatchC K mg "PortolanError" tab_PortolanError
  i_NoHalves : IsC K mg "NoHalves" tab_NoHalves
section
variable {P : Program} {w : World} {K : PySem.W.Frag} {mg : Str → Option Value} {base : Heap}
abbrev s__law_numbers : Stmt := topS 13
abbrev N__law_numbers : List Str := ["script", "first", "most", "found", "at", "cell", "k", "mixed"]
theorem sc__law_numbers : FnScope N__law_numbers ["script", "first", "most"] (defScope s__law_numbers) := ⟨rfl, rfl, rfl, by decide +kernel, rfl, by decide +kernel, by decide +kernel⟩
theorem ok__law_numbers (T : Txt K mg) (Hd : HasDef K mg "_law_numbers" s__law_numbers) : DFun P w K mg base "_law_numbers" 3 1 F__law_numbers := by
  have nd := sc__law_numbers.nd
  obtain ⟨f, fd, F, hg⟩ := Hd
  have bb : Binds K fd ["script", "first", "most"] [] := F.bindsN fun _ _ _ _ _ _ us hl => match us, hl with | [_, _, _], _ => rfl
  have main : FnOk P w K mg base (L2.CX P w) 1 f fd ["script", "first", "most"] (spD K mg 3 (runF N__law_numbers.length B__law_numbers)) := by
    refine dfn (k := 0) (b := B__law_numbers) F sc__law_numbers rfl (fun cdv A outer s H E hr => ?_)
    have hp := passes_of (X := cxOf (L2.CX P w) P w K mg base N__law_numbers "_law_numbers" (defScope s__law_numbers) f cdv A outer s H E) rfl
    exact (dpss_cons (dps_own 3 nd dpa_nil) (dpss_cons (dps_for hp rfl (dpi_range2 T.f_range (dpa_cons (dpv 1) (dpa_cons (dpe_callB cd_len T.f_len (dpa_cons (dpv 0) dpa_nil)) dpa_nil))) (dpg_name nd) (dpss_cons (dps_set 5 nd (dpe_callB cd_abs T.f_abs (dpa_cons (dpe_ix (dpv 0) (dpv 4)) dpa_nil))) (dpss_one (dps_if (dpt_cmp dop_ge (dpv 5) dpe_int) (dpss_one (dps_for hp rfl (dpi_range1 T.f_range (dpa_cons dpe_int dpa_nil)) (dpg_name nd) (dpss_one (dps_if (DPW.pt (dpw_and (dpt_cmp dop_gt (dpv 5) dpe_int) (dpw_and1 (dpt_cmp dop_lt (dpe_lenO 3 T.f_len) (dpv 2))))) (dpss_cons (dps_app 3 (dpe_op dop_mod (dpe_callTy cd_int T.f_int (dpa_cons (dpv 5) dpa_nil)) dpe_int)) (dpss_one (dps_set 5 nd (dpe_op dop_fdiv (dpv 5) dpe_int)))) dpss_nil)))) (dpss_one (dps_if (dpt_cmp dop_lt (dpe_lenO 3 T.f_len) (dpv 2)) (dpss_cons (dps_set 7 nd (dpe_op dop_mod (dpe_callTy cd_int T.f_int (dpa_cons (dpe_op dop_add (dpe_op dop_add (dpe_op dop_mul (dpv 5) dpe_int) (dpe_op dop_mul (dpv 4) dpe_int)) dpe_int) dpa_nil)) dpe_int)) (dpss_cons (dps_set 7 nd (dpe_op dop_mod (dpe_callTy cd_int T.f_int (dpa_cons (dpe_op dop_add (dpe_op dop_mul (dpv 7) dpe_int) (dpe_op dop_fdiv (dpv 7) dpe_int)) dpa_nil)) dpe_int)) (dpss_one (dps_app 3 (dpe_op dop_mod (dpe_callTy cd_int T.f_int (dpa_cons (dpv 7) dpa_nil)) dpe_int))))) dpss_nil)))))) (dpss_one (dps_freezeM 3 (dps_ret (dpv 3))))))
  exact ⟨f, fd, ["script", "first", "most"], main, hg, F.kp, bb⟩
abbrev s__law_corners : Stmt := topS 14
abbrev N__law_corners : List Str := ["script", "first", "most", "numbers", "way", "corners", "k"]
theorem sc__law_corners : FnScope N__law_corners ["script", "first", "most"] (defScope s__law_corners) := ⟨rfl, rfl, rfl, by decide +kernel, rfl, by decide +kernel, by decide +kernel⟩
theorem ok__law_corners (T : Txt K mg) (Hd : HasDef K mg "_law_corners" s__law_corners) (h__law_numbers : DFun P w K mg base "_law_numbers" 3 1 F__law_numbers) : DFun P w K mg base "_law_corners" 3 2 F__law_corners := by
  have c__law_numbers := h__law_numbers.mono (k' := 1) (by decide)
  have nd := sc__law_corners.nd
  obtain ⟨f, fd, F, hg⟩ := Hd
  have bb : Binds K fd ["script", "first", "most"] [] := F.bindsN fun _ _ _ _ _ _ us hl => match us, hl with | [_, _, _], _ => rfl
  have main : FnOk P w K mg base (L2.CX P w) 2 f fd ["script", "first", "most"] (spD K mg 3 (runF N__law_corners.length B__law_corners)) := by
    refine dfn (k := 1) (b := B__law_corners) F sc__law_corners rfl (fun cdv A outer s H E hr => ?_)
    have hp := passes_of (X := cxOf (L2.CX P w) P w K mg base N__law_corners "_law_corners" (defScope s__law_corners) f cdv A outer s H E) rfl
    exact (dpss_cons (dps_set 3 nd (dpe_call c__law_numbers hr (dpa_cons (dpv 0) (dpa_cons (dpv 1) (dpa_cons (dpe_op dop_add (dpe_op dop_mul dpe_int (dpv 2)) dpe_int) dpa_nil))))) (dpss_cons (dps_set 4 nd dpe_int) (dpss_cons (dps_if (dpt_cmp (dop_ne hr.units) (dpv 3) (dpe_lst dpa_nil)) (dpss_one (dps_set 4 nd (dpe_ix (dpe_lst (dpa_cons dpe_int (dpa_cons dpe_int (dpa_cons dpe_int (dpa_cons dpe_int dpa_nil))))) (dpe_op dop_mod (dpe_callTy cd_int T.f_int (dpa_cons (dpe_ix (dpv 3) dpe_int) dpa_nil)) dpe_int)))) dpss_nil) (dpss_cons (dps_own 5 nd dpa_nil) (dpss_cons (dps_for hp rfl (dpi_range3 T.f_range (dpa_cons dpe_int (dpa_cons (dpe_op dop_sub (dpe_callB cd_len T.f_len (dpa_cons (dpv 3) dpa_nil)) dpe_int) (dpa_cons dpe_int dpa_nil)))) (dpg_name nd) (dpss_one (dps_if (dpt_cmp dop_lt (dpe_lenO 5 T.f_len) (dpv 2)) (dpss_one (dps_app 5 (dpe_tup (dpa_cons (dpe_op dop_mul (dpe_op dop_sub (dpe_op dop_mod (dpe_callTy cd_int T.f_int (dpa_cons (dpe_ix (dpv 3) (dpv 6)) dpa_nil)) dpe_int) dpe_int) (dpv 4)) (dpa_cons (dpe_op dop_mul (dpe_op dop_sub (dpe_op dop_mod (dpe_callTy cd_int T.f_int (dpa_cons (dpe_ix (dpv 3) (dpe_op dop_add (dpv 6) dpe_int)) dpa_nil)) dpe_int) dpe_int) (dpv 4)) dpa_nil))))) dpss_nil))) (dpss_one (dps_freezeM 5 (dps_ret (dpv 5)))))))))
  exact ⟨f, fd, ["script", "first", "most"], main, hg, F.kp, bb⟩
abbrev s__law_copied : Stmt := topS 8
abbrev N__law_copied : List Str := ["value", "one", "key"]
theorem sc__law_copied : FnScope N__law_copied ["value"] (defScope s__law_copied) := ⟨rfl, rfl, rfl, by decide +kernel, rfl, by decide +kernel, by decide +kernel⟩
theorem ok__law_copied (T : Txt K mg) (Hd : HasDef K mg "_law_copied" s__law_copied) (n : Nat) : DFun P w K mg base "_law_copied" 1 (n + 1) (F__law_copied n) := by
  have nd := sc__law_copied.nd
  obtain ⟨f, fd, F, hg⟩ := Hd
  have bb : Binds K fd ["value"] [] := F.bindsN fun _ _ _ _ _ _ us hl => match us, hl with | [_], _ => rfl
  induction n with
  | zero =>
    have main : FnOk P w K mg base (L2.CX P w) (0 + 1) f fd ["value"] (spD K mg 1 (runF N__law_copied.length (fun _ => none))) := (dfn (k := 0) (b := fun _ => none) F sc__law_copied rfl (fun cdv A outer s H E hr => dpss_never)).mono (by decide)
    exact ⟨f, fd, ["value"], main, hg, F.kp, bb⟩
  | succ n c__law_copied =>
    have main : FnOk P w K mg base (L2.CX P w) (n + 1 + 1) f fd ["value"] (spD K mg 1 (runF N__law_copied.length (B__law_copied (F__law_copied n)))) := by
      refine dfn (k := n + 1) (b := B__law_copied (F__law_copied n)) F sc__law_copied rfl (fun cdv A outer s H E hr => ?_)
      have hp := passes_of (X := cxOf (L2.CX P w) P w K mg base N__law_copied "_law_copied" (defScope s__law_copied) f cdv A outer s H E) rfl
      exact (dpss_cons (dps_if (dpt_val (dpe_callB cd_isi T.f_isinstance (dpa_cons (dpv 0) (dpa_cons (dpe_bty T.f_list) dpa_nil)))) (dpss_one (dps_ret (dpe_lc (own := [("one", 1)]) rfl nd (dpi_seq (dpv 0)) (blkOk_by (own := [("one", 1)]) (N := N__law_copied) (sc := defScope s__law_copied) (by decide +kernel)) (fun _ _ _ _ _ => (dpg_name nd)) (fun _ _ _ _ _ => dpts_nil) (fun _ _ _ _ _ => (dpe_call c__law_copied hr (dpa_cons (dpv 1) dpa_nil))) (by decide)))) dpss_nil) (dpss_cons (dps_if (dpt_val (dpe_callB cd_isi T.f_isinstance (dpa_cons (dpv 0) (dpa_cons (dpe_bty T.f_tuple) dpa_nil)))) (dpss_one (dps_ret (dpe_callTy cd_tuple T.f_tuple (dpa_cons (dpe_lc (own := [("one", 1)]) rfl nd (dpi_seq (dpv 0)) (blkOk_by (own := [("one", 1)]) (N := N__law_copied) (sc := defScope s__law_copied) (by decide +kernel)) (fun _ _ _ _ _ => (dpg_name nd)) (fun _ _ _ _ _ => dpts_nil) (fun _ _ _ _ _ => (dpe_call c__law_copied hr (dpa_cons (dpv 1) dpa_nil))) (by decide)) dpa_nil)))) dpss_nil) (dpss_cons (dps_if (dpt_val (dpe_callB cd_isi T.f_isinstance (dpa_cons (dpv 0) (dpa_cons (dpe_bty T.f_dict) dpa_nil)))) (dpss_one (dps_ret (dpe_lc (own := [("key", 2)]) rfl nd (dpi_seq (dpv 0)) (blkOk_by (own := [("key", 2)]) (N := N__law_copied) (sc := defScope s__law_copied) (by decide +kernel)) (fun _ _ _ _ _ => (dpg_name nd)) (fun _ _ _ _ _ => dpts_nil) (fun _ _ _ _ _ => (dpe_tup (dpa_cons (dpv 2) (dpa_cons (dpe_call c__law_copied hr (dpa_cons (dpe_ix (dpv 0) (dpv 2)) dpa_nil)) dpa_nil)))) (by decide)))) dpss_nil) (dpss_one (dps_ret (dpv 0))))))
    rw [show n + 1 + 1 = n + 1 + 1 by omega]
    exact ⟨f, fd, ["value"], main, hg, F.kp, bb⟩
abbrev s_cross : Stmt := topS 4
abbrev N_cross : List Str := ["p", "q", "r"]
theorem sc_cross : FnScope N_cross ["p", "q", "r"] (defScope s_cross) := ⟨rfl, rfl, rfl, by decide +kernel, rfl, by decide +kernel, by decide +kernel⟩
theorem ok_cross (T : Txt K mg) (Hd : HasDef K mg "cross" s_cross) : DFun P w K mg base "cross" 3 1 F_cross := by
  have nd := sc_cross.nd
  obtain ⟨f, fd, F, hg⟩ := Hd
  have bb : Binds K fd ["p", "q", "r"] [] := F.bindsN fun _ _ _ _ _ _ us hl => match us, hl with | [_, _, _], _ => rfl
  have main : FnOk P w K mg base (L2.CX P w) 1 f fd ["p", "q", "r"] (spD K mg 3 (runF N_cross.length B_cross)) := by
    refine dfn (k := 0) (b := B_cross) F sc_cross rfl (fun cdv A outer s H E hr => ?_)
    have hp := passes_of (X := cxOf (L2.CX P w) P w K mg base N_cross "cross" (defScope s_cross) f cdv A outer s H E) rfl
    exact (dpss_one (dps_ret (dpe_op dop_sub (dpe_op dop_mul (dpe_op dop_sub (dpe_ix (dpv 1) dpe_int) (dpe_ix (dpv 0) dpe_int)) (dpe_op dop_sub (dpe_ix (dpv 2) dpe_int) (dpe_ix (dpv 0) dpe_int))) (dpe_op dop_mul (dpe_op dop_sub (dpe_ix (dpv 1) dpe_int) (dpe_ix (dpv 0) dpe_int)) (dpe_op dop_sub (dpe_ix (dpv 2) dpe_int) (dpe_ix (dpv 0) dpe_int))))))
  exact ⟨f, fd, ["p", "q", "r"], main, hg, F.kp, bb⟩
abbrev s_chain : Stmt := topS 5
abbrev N_chain : List Str := ["points", "found", "point"]
theorem sc_chain : FnScope N_chain ["points"] (defScope s_chain) := ⟨rfl, rfl, rfl, by decide +kernel, rfl, by decide +kernel, by decide +kernel⟩
theorem ok_chain (T : Txt K mg) (Hd : HasDef K mg "chain" s_chain) (h_cross : DFun P w K mg base "cross" 3 1 F_cross) : DFun P w K mg base "chain" 1 2 F_chain := by
  have c_cross := h_cross.mono (k' := 1) (by decide)
  have nd := sc_chain.nd
  obtain ⟨f, fd, F, hg⟩ := Hd
  have bb : Binds K fd ["points"] [] := F.bindsN fun _ _ _ _ _ _ us hl => match us, hl with | [_], _ => rfl
  have main : FnOk P w K mg base (L2.CX P w) 2 f fd ["points"] (spD K mg 1 (runF N_chain.length B_chain)) := by
    refine dfn (k := 1) (b := B_chain) F sc_chain rfl (fun cdv A outer s H E hr => ?_)
    have hp := passes_of (X := cxOf (L2.CX P w) P w K mg base N_chain "chain" (defScope s_chain) f cdv A outer s H E) rfl
    exact (dpss_cons (dps_own 1 nd dpa_nil) (dpss_cons (dps_for hp rfl (dpi_seq (dpv 0)) (dpg_name nd) (dpss_cons (dps_while fuel hp (DPW.pt (dpw_and (dpt_cmp dop_gt (dpe_lenO 1 T.f_len) dpe_int) (dpw_and1 (dpt_cmp dop_le (dpe_call c_cross hr (dpa_cons (dpe_ixO 1 (dpe_un dun_neg dpe_int)) (dpa_cons (dpe_ixO 1 (dpe_un dun_neg dpe_int)) (dpa_cons (dpv 2) dpa_nil)))) dpe_int)))) (dpss_one (dps_pop 1))) (dpss_one (dps_app 1 (dpv 2))))) (dpss_one (dps_freezeM 1 (dps_ret (dpv 1))))))
  exact ⟨f, fd, ["points"], main, hg, F.kp, bb⟩
abbrev s_hull_of : Stmt := topS 6
abbrev N_hull_of : List Str := ["points", "ordered", "lon", "lat", "found"]
theorem sc_hull_of : FnScope N_hull_of ["points"] (defScope s_hull_of) := ⟨rfl, rfl, rfl, by decide +kernel, rfl, by decide +kernel, by decide +kernel⟩
theorem ok_hull_of (T : Txt K mg) (Hd : HasDef K mg "hull_of" s_hull_of) (h_chain : DFun P w K mg base "chain" 1 2 F_chain) : DFun P w K mg base "hull_of" 1 3 F_hull_of := by
  have c_chain := h_chain.mono (k' := 2) (by decide)
  have nd := sc_hull_of.nd
  obtain ⟨f, fd, F, hg⟩ := Hd
  have bb : Binds K fd ["points"] [] := F.bindsN fun _ _ _ _ _ _ us hl => match us, hl with | [_], _ => rfl
  have main : FnOk P w K mg base (L2.CX P w) 3 f fd ["points"] (spD K mg 1 (runF N_hull_of.length B_hull_of)) := by
    refine dfn (k := 2) (b := B_hull_of) F sc_hull_of rfl (fun cdv A outer s H E hr => ?_)
    have hp := passes_of (X := cxOf (L2.CX P w) P w K mg base N_hull_of "hull_of" (defScope s_hull_of) f cdv A outer s H E) rfl
    exact (dpss_cons (dps_setLc (own := [("lon", 2), ("lat", 3)]) 1 nd (dpi_seq (dpe_sortSet (dpe_lc (own := [("lat", 3), ("lon", 2)]) rfl nd (dpi_seq (dpv 0)) (blkOk_by (own := [("lat", 3), ("lon", 2)]) (N := N_hull_of) (sc := defScope s_hull_of) (by decide +kernel)) (fun _ _ _ _ _ => (dpg_tup rfl (dpgs_cons (dpg_name nd) (dpgs_cons (dpg_name nd) dpgs_nil)) 2 (gs_lenS (gs_lenS gs_len0)))) (fun _ _ _ _ _ => dpts_nil) (fun _ _ _ _ _ => (dpe_tup (dpa_cons (dpv 2) (dpa_cons (dpv 3) dpa_nil)))) (by decide)) rfl hr.units T.f_sorted T.f_set)) (blkOk_by (own := [("lon", 2), ("lat", 3)]) (N := N_hull_of) (sc := defScope s_hull_of) (by decide +kernel)) (fun _ _ _ _ _ => (dpg_tup rfl (dpgs_cons (dpg_name nd) (dpgs_cons (dpg_name nd) dpgs_nil)) 2 (gs_lenS (gs_lenS gs_len0)))) (fun _ _ _ _ _ => dpts_nil) (fun _ _ _ _ _ => (dpe_tup (dpa_cons (dpv 3) (dpa_cons (dpv 2) dpa_nil)))) (by decide)) (dpss_cons (dps_set 4 nd (dpe_op dop_add (dpe_sl (dpe_call c_chain hr (dpa_cons (dpv 1) dpa_nil)) dpo_none (dpo_some (dpe_un dun_neg dpe_int))) (dpe_sl (dpe_call c_chain hr (dpa_cons (dpe_rev (dpv 1)) dpa_nil)) dpo_none (dpo_some (dpe_un dun_neg dpe_int))))) (dpss_cons (dps_if (dpt_cmp dop_lt (dpe_callB cd_len T.f_len (dpa_cons (dpv 4) dpa_nil)) dpe_int) (dpss_one (dps_raise T.e_NoHalves rfl)) dpss_nil) (dpss_one (dps_ret (dpv 4))))))
  exact ⟨f, fd, ["points"], main, hg, F.kp, bb⟩
abbrev s__law_kept_hull_of : Stmt := topS 9
abbrev N__law_kept_hull_of : List Str := ["value0", "before", "found"]
theorem sc__law_kept_hull_of : FnScope N__law_kept_hull_of ["value0"] (defScope s__law_kept_hull_of) := ⟨rfl, rfl, rfl, by decide +kernel, rfl, by decide +kernel, by decide +kernel⟩
theorem ok__law_kept_hull_of (T : Txt K mg) (Hd : HasDef K mg "_law_kept_hull_of" s__law_kept_hull_of) (h__law_copied : DFun P w K mg base "_law_copied" 1 7 (F__law_copied 6)) (h_hull_of : DFun P w K mg base "hull_of" 1 3 F_hull_of) : DFun P w K mg base "_law_kept_hull_of" 1 8 F__law_kept_hull_of := by
  have c__law_copied := h__law_copied.mono (k' := 7) (by decide)
  have c_hull_of := h_hull_of.mono (k' := 7) (by decide)
  have nd := sc__law_kept_hull_of.nd
  obtain ⟨f, fd, F, hg⟩ := Hd
  have bb : Binds K fd ["value0"] [] := F.bindsN fun _ _ _ _ _ _ us hl => match us, hl with | [_], _ => rfl
  have main : FnOk P w K mg base (L2.CX P w) 8 f fd ["value0"] (spD K mg 1 (runF N__law_kept_hull_of.length B__law_kept_hull_of)) := by
    refine dfn (k := 7) (b := B__law_kept_hull_of) F sc__law_kept_hull_of rfl (fun cdv A outer s H E hr => ?_)
    have hp := passes_of (X := cxOf (L2.CX P w) P w K mg base N__law_kept_hull_of "_law_kept_hull_of" (defScope s__law_kept_hull_of) f cdv A outer s H E) rfl
    exact (dpss_cons (dps_set 1 nd (dpe_call c__law_copied hr (dpa_cons (dpe_lst (dpa_cons (dpv 0) dpa_nil)) dpa_nil))) (dpss_cons (dps_set 2 nd (dpe_call c_hull_of hr (dpa_cons (dpv 0) dpa_nil))) (dpss_one (dps_ret (dpe_if (dpt_cmp (dop_eq hr.units) (dpe_call c__law_copied hr (dpa_cons (dpe_lst (dpa_cons (dpv 0) dpa_nil)) dpa_nil)) (dpv 1)) (dpv 2) dpe_str)))))
  exact ⟨f, fd, ["value0"], main, hg, F.kp, bb⟩
abbrev s__law_alike : Stmt := topS 10
abbrev N__law_alike : List Str := ["actual", "due", "k"]
theorem sc__law_alike : FnScope N__law_alike ["actual", "due"] (defScope s__law_alike) := ⟨rfl, rfl, rfl, by decide +kernel, rfl, by decide +kernel, by decide +kernel⟩
theorem ok__law_alike (T : Txt K mg) (Hd : HasDef K mg "_law_alike" s__law_alike) (n : Nat) : DFun P w K mg base "_law_alike" 2 (n + 1) (F__law_alike n) := by
  have nd := sc__law_alike.nd
  obtain ⟨f, fd, F, hg⟩ := Hd
  have bb : Binds K fd ["actual", "due"] [] := F.bindsN fun _ _ _ _ _ _ us hl => match us, hl with | [_, _], _ => rfl
  induction n with
  | zero =>
    have main : FnOk P w K mg base (L2.CX P w) (0 + 1) f fd ["actual", "due"] (spD K mg 2 (runF N__law_alike.length (fun _ => none))) := (dfn (k := 0) (b := fun _ => none) F sc__law_alike rfl (fun cdv A outer s H E hr => dpss_never)).mono (by decide)
    exact ⟨f, fd, ["actual", "due"], main, hg, F.kp, bb⟩
  | succ n c__law_alike =>
    have main : FnOk P w K mg base (L2.CX P w) (n + 1 + 1) f fd ["actual", "due"] (spD K mg 2 (runF N__law_alike.length (B__law_alike (F__law_alike n)))) := by
      refine dfn (k := n + 1) (b := B__law_alike (F__law_alike n)) F sc__law_alike rfl (fun cdv A outer s H E hr => ?_)
      have hp := passes_of (X := cxOf (L2.CX P w) P w K mg base N__law_alike "_law_alike" (defScope s__law_alike) f cdv A outer s H E) rfl
      exact (dpss_cons (dps_if (DPW.pt (dpw_or (dpt_val (dpe_callB cd_isi T.f_isinstance (dpa_cons (dpv 1) (dpa_cons (dpe_bty T.f_list) dpa_nil)))) (dpw_or1 (dpt_val (dpe_callB cd_isi T.f_isinstance (dpa_cons (dpv 1) (dpa_cons (dpe_bty T.f_tuple) dpa_nil))))))) (dpss_cons (dps_if (DPW.pt (dpw_or (dpt_cmp (dop_ne hr.units) (dpe_callB cd_isi T.f_isinstance (dpa_cons (dpv 0) (dpa_cons (dpe_bty T.f_list) dpa_nil))) (dpe_callB cd_isi T.f_isinstance (dpa_cons (dpv 1) (dpa_cons (dpe_bty T.f_list) dpa_nil)))) (dpw_or1 (dpt_cmp (dop_ne hr.units) (dpe_callB cd_isi T.f_isinstance (dpa_cons (dpv 0) (dpa_cons (dpe_bty T.f_tuple) dpa_nil))) (dpe_callB cd_isi T.f_isinstance (dpa_cons (dpv 1) (dpa_cons (dpe_bty T.f_tuple) dpa_nil))))))) (dpss_one (dps_ret dpe_bl)) dpss_nil) (dpss_one (dps_ret (dpe_and (dpe_cmp (dop_eq hr.units) (dpe_callB cd_len T.f_len (dpa_cons (dpv 0) dpa_nil)) (dpe_callB cd_len T.f_len (dpa_cons (dpv 1) dpa_nil))) (dpe_one (dpe_cmp (dop_eq hr.units) (dpe_callB cd_len T.f_len (dpa_cons (dpe_lc (own := [("k", 2)]) rfl nd (dpi_range1 T.f_range (dpa_cons (dpe_callB cd_len T.f_len (dpa_cons (dpv 1) dpa_nil)) dpa_nil)) (blkOk_by (own := [("k", 2)]) (N := N__law_alike) (sc := defScope s__law_alike) (by decide +kernel)) (fun _ _ _ _ _ => (dpg_name nd)) (fun _ _ _ _ _ => (dpts_one (dpt_not (dpt_val (dpe_call c__law_alike hr (dpa_cons (dpe_ix (dpv 0) (dpv 2)) (dpa_cons (dpe_ix (dpv 1) (dpv 2)) dpa_nil))))))) (fun _ _ _ _ _ => (dpv 2)) (by decide)) dpa_nil)) dpe_int)))))) dpss_nil) (dpss_cons (dps_if (DPW.pt (dpw_or (dpt_cmp (dop_ne hr.units) (dpe_callB cd_isi T.f_isinstance (dpa_cons (dpv 0) (dpa_cons (dpe_bty T.f_bool) dpa_nil))) (dpe_callB cd_isi T.f_isinstance (dpa_cons (dpv 1) (dpa_cons (dpe_bty T.f_bool) dpa_nil)))) (dpw_or1 (dpt_cmp (dop_ne hr.units) (dpe_callB cd_isi T.f_isinstance (dpa_cons (dpv 0) (dpa_cons (dpe_bty T.f_int) dpa_nil))) (dpe_callB cd_isi T.f_isinstance (dpa_cons (dpv 1) (dpa_cons (dpe_bty T.f_int) dpa_nil))))))) (dpss_one (dps_ret dpe_bl)) dpss_nil) (dpss_cons (dps_if (DPW.pt (dpw_or (dpt_cmp (dop_ne hr.units) (dpe_callB cd_isi T.f_isinstance (dpa_cons (dpv 0) (dpa_cons (dpe_bty T.f_str) dpa_nil))) (dpe_callB cd_isi T.f_isinstance (dpa_cons (dpv 1) (dpa_cons (dpe_bty T.f_str) dpa_nil)))) (dpw_or1 (dpt_cmp (dop_ne hr.units) (dpe_cmp dop_isN (dpv 0) dpe_non) (dpe_cmp dop_isN (dpv 1) dpe_non))))) (dpss_one (dps_ret dpe_bl)) dpss_nil) (dpss_one (dps_ret (dpe_cmp (dop_eq hr.units) (dpv 0) (dpv 1)))))))
    rw [show n + 1 + 1 = n + 1 + 1 by omega]
    exact ⟨f, fd, ["actual", "due"], main, hg, F.kp, bb⟩
abbrev s__law_cell : Stmt := topS 12
abbrev N__law_cell : List Str := ["script", "k"]
theorem sc__law_cell : FnScope N__law_cell ["script", "k"] (defScope s__law_cell) := ⟨rfl, rfl, rfl, by decide +kernel, rfl, by decide +kernel, by decide +kernel⟩
theorem ok__law_cell (T : Txt K mg) (Hd : HasDef K mg "_law_cell" s__law_cell) : DFun P w K mg base "_law_cell" 2 1 F__law_cell := by
  have nd := sc__law_cell.nd
  obtain ⟨f, fd, F, hg⟩ := Hd
  have bb : Binds K fd ["script", "k"] [] := F.bindsN fun _ _ _ _ _ _ us hl => match us, hl with | [_, _], _ => rfl
  have main : FnOk P w K mg base (L2.CX P w) 1 f fd ["script", "k"] (spD K mg 2 (runF N__law_cell.length B__law_cell)) := by
    refine dfn (k := 0) (b := B__law_cell) F sc__law_cell rfl (fun cdv A outer s H E hr => ?_)
    have hp := passes_of (X := cxOf (L2.CX P w) P w K mg base N__law_cell "_law_cell" (defScope s__law_cell) f cdv A outer s H E) rfl
    exact (dpss_cons (dps_if (dpt_cmp dop_lt (dpv 1) (dpe_callB cd_len T.f_len (dpa_cons (dpv 0) dpa_nil))) (dpss_one (dps_ret (dpe_ix (dpv 0) (dpv 1)))) dpss_nil) (dpss_one (dps_ret dpe_int)))
  exact ⟨f, fd, ["script", "k"], main, hg, F.kp, bb⟩
abbrev s__law_side : Stmt := topS 16
abbrev N__law_side : List Str := ["p", "q", "r"]
theorem sc__law_side : FnScope N__law_side ["p", "q", "r"] (defScope s__law_side) := ⟨rfl, rfl, rfl, by decide +kernel, rfl, by decide +kernel, by decide +kernel⟩
theorem ok__law_side (T : Txt K mg) (Hd : HasDef K mg "_law_side" s__law_side) : DFun P w K mg base "_law_side" 3 1 F__law_side := by
  have nd := sc__law_side.nd
  obtain ⟨f, fd, F, hg⟩ := Hd
  have bb : Binds K fd ["p", "q", "r"] [] := F.bindsN fun _ _ _ _ _ _ us hl => match us, hl with | [_, _, _], _ => rfl
  have main : FnOk P w K mg base (L2.CX P w) 1 f fd ["p", "q", "r"] (spD K mg 3 (runF N__law_side.length B__law_side)) := by
    refine dfn (k := 0) (b := B__law_side) F sc__law_side rfl (fun cdv A outer s H E hr => ?_)
    have hp := passes_of (X := cxOf (L2.CX P w) P w K mg base N__law_side "_law_side" (defScope s__law_side) f cdv A outer s H E) rfl
    exact (dpss_one (dps_ret (dpe_op dop_sub (dpe_op dop_mul (dpe_op dop_sub (dpe_ix (dpv 1) dpe_int) (dpe_ix (dpv 0) dpe_int)) (dpe_op dop_sub (dpe_ix (dpv 2) dpe_int) (dpe_ix (dpv 0) dpe_int))) (dpe_op dop_mul (dpe_op dop_sub (dpe_ix (dpv 1) dpe_int) (dpe_ix (dpv 0) dpe_int)) (dpe_op dop_sub (dpe_ix (dpv 2) dpe_int) (dpe_ix (dpv 0) dpe_int))))))
  exact ⟨f, fd, ["p", "q", "r"], main, hg, F.kp, bb⟩
abbrev s_law : Stmt := topS 20
abbrev N_law : List Str := ["script", "points", "p", "flat", "q", "r", "found", "e", "least", "turns", "k"]
theorem sc_law : FnScope N_law ["script"] (defScope s_law) := ⟨rfl, rfl, rfl, by decide +kernel, rfl, by decide +kernel, by decide +kernel⟩
theorem fn_law (T : Txt K mg) {f : Addr} {fd : FuncData} (F : FunD K "law" "law" (defArgs s_law) (defBody s_law) (defScope s_law) [] [] f fd) (h__law_alike : DFun P w K mg base "_law_alike" 2 7 (F__law_alike 6)) (h__law_cell : DFun P w K mg base "_law_cell" 2 1 F__law_cell) (h__law_corners : DFun P w K mg base "_law_corners" 3 2 F__law_corners) (h__law_kept_hull_of : DFun P w K mg base "_law_kept_hull_of" 1 8 F__law_kept_hull_of) (h__law_side : DFun P w K mg base "_law_side" 3 1 F__law_side) : FnOk P w K mg base (L2.CX P w) 9 f fd ["script"] (spD K mg 1 F_law) := by
  have c__law_alike := h__law_alike.mono (k' := 8) (by decide)
  have c__law_cell := h__law_cell.mono (k' := 8) (by decide)
  have c__law_corners := h__law_corners.mono (k' := 8) (by decide)
  have c__law_kept_hull_of := h__law_kept_hull_of.mono (k' := 8) (by decide)
  have c__law_side := h__law_side.mono (k' := 8) (by decide)
  have nd := sc_law.nd
  have main : FnOk P w K mg base (L2.CX P w) 9 f fd ["script"] (spD K mg 1 (runF N_law.length B_law)) := by
    refine dfn (k := 8) (b := B_law) F sc_law rfl (fun cdv A outer s H E hr => ?_)
    have hp := passes_of (X := cxOf (L2.CX P w) P w K mg base N_law "law" (defScope s_law) f cdv A outer s H E) rfl
    exact (dpss_cons (dps_set 1 nd (dpe_call c__law_corners hr (dpa_cons (dpv 0) (dpa_cons dpe_int (dpa_cons dpe_int dpa_nil))))) (dpss_cons (dps_if (dpt_cmp (dop_eq hr.units) (dpe_op dop_mod (dpe_callTy cd_int T.f_int (dpa_cons (dpe_call c__law_cell hr (dpa_cons (dpv 0) (dpa_cons dpe_int dpa_nil))) dpa_nil)) dpe_int) dpe_int) (dpss_one (dps_setLc (own := [("p", 2)]) 1 nd (dpi_seq (dpv 1)) (blkOk_by (own := [("p", 2)]) (N := N_law) (sc := defScope s_law) (by decide +kernel)) (fun _ _ _ _ _ => (dpg_name nd)) (fun _ _ _ _ _ => dpts_nil) (fun _ _ _ _ _ => (dpe_tup (dpa_cons (dpe_ix (dpv 2) dpe_int) (dpa_cons (dpe_ix (dpv 2) dpe_int) dpa_nil)))) (by decide))) dpss_nil) (dpss_cons (dps_if (dpt_cmp (dop_eq hr.units) (dpe_op dop_mod (dpe_callTy cd_int T.f_int (dpa_cons (dpe_call c__law_cell hr (dpa_cons (dpv 0) (dpa_cons dpe_int dpa_nil))) dpa_nil)) dpe_int) dpe_int) (dpss_one (dps_set 1 nd (dpe_sl (dpv 1) dpo_none (dpo_some (dpe_op dop_mod (dpe_callTy cd_int T.f_int (dpa_cons (dpe_op dop_fdiv (dpe_call c__law_cell hr (dpa_cons (dpv 0) (dpa_cons dpe_int dpa_nil))) dpe_int) dpa_nil)) dpe_int))))) dpss_nil) (dpss_cons (dps_set 3 nd dpe_bl) (dpss_cons (dps_for hp rfl (dpi_seq (dpv 1)) (dpg_name nd) (dpss_one (dps_for hp rfl (dpi_seq (dpe_sl (dpv 1) dpo_none (dpo_some dpe_int))) (dpg_name nd) (dpss_one (dps_for hp rfl (dpi_seq (dpv 1)) (dpg_name nd) (dpss_one (dps_set 3 nd (dpe_and (dpv 3) (dpe_one (dpe_cmp (dop_eq hr.units) (dpe_call c__law_side hr (dpa_cons (dpv 2) (dpa_cons (dpv 4) (dpa_cons (dpv 5) dpa_nil)))) dpe_int)))))))))) (dpss_cons (dps_tryAs 7 nd T.k_PortolanError (fun pn xe hp => (dpss_one (dps_set 6 nd (dpe_call c__law_kept_hull_of hr (dpa_cons (dpe_callTy cd_list T.f_list (dpa_cons (dpv 1) dpa_nil)) dpa_nil))))) (fun _ _ _ _ => (dpss_one (dps_ret (dpe_and (dpe_isE 7 T.i_NoHalves T.f_isinstance) (dpe_one (dpv 3))))))) (dpss_cons (dps_if (DPW.pt (dpw_or (dpt_val (dpv 3)) (dpw_or (dpt_not (dpt_val (dpe_callB cd_isi T.f_isinstance (dpa_cons (dpv 6) (dpa_cons (dpe_bty T.f_list) dpa_nil))))) (dpw_or1 (dpt_cmp dop_lt (dpe_callB cd_len T.f_len (dpa_cons (dpv 6) dpa_nil)) dpe_int))))) (dpss_one (dps_ret dpe_bl)) dpss_nil) (dpss_cons (dps_set 8 nd (dpe_callB (cd_minP rfl hr.units) T.f_min (dpa_cons (dpe_lc (own := [("p", 2)]) rfl nd (dpi_seq (dpv 1)) (blkOk_by (own := [("p", 2)]) (N := N_law) (sc := defScope s_law) (by decide +kernel)) (fun _ _ _ _ _ => (dpg_name nd)) (fun _ _ _ _ _ => dpts_nil) (fun _ _ _ _ _ => (dpe_tup (dpa_cons (dpe_ix (dpv 2) dpe_int) (dpa_cons (dpe_ix (dpv 2) dpe_int) dpa_nil)))) (by decide)) dpa_nil))) (dpss_cons (dps_if (dpt_not (dpt_val (dpe_call c__law_alike hr (dpa_cons (dpe_ix (dpv 6) dpe_int) (dpa_cons (dpe_tup (dpa_cons (dpe_ix (dpv 8) dpe_int) (dpa_cons (dpe_ix (dpv 8) dpe_int) dpa_nil))) dpa_nil))))) (dpss_one (dps_ret dpe_bl)) dpss_nil) (dpss_cons (dps_set 9 nd dpe_int) (dpss_cons (dps_for hp rfl (dpi_range1 T.f_range (dpa_cons (dpe_callB cd_len T.f_len (dpa_cons (dpv 6) dpa_nil)) dpa_nil)) (dpg_name nd) (dpss_cons (dps_set 2 nd (dpe_ix (dpv 6) (dpe_op dop_sub (dpv 10) dpe_int))) (dpss_cons (dps_set 4 nd (dpe_ix (dpv 6) (dpe_op dop_sub (dpv 10) dpe_int))) (dpss_cons (dps_if (DPW.pt (dpw_or (dpt_cmp (dop_notInDD (Room.units65 hr)) (dpv 4) (dpv 1)) (dpw_or1 (dpt_cmp dop_le (dpe_call c__law_side hr (dpa_cons (dpv 2) (dpa_cons (dpv 4) (dpa_cons (dpe_ix (dpv 6) (dpv 10)) dpa_nil)))) dpe_int)))) (dpss_one (dps_ret dpe_bl)) dpss_nil) (dpss_cons (dps_if (DPW.pt (dpw_and (dpt_cmp dop_gt (dpe_ix (dpv 4) dpe_int) (dpe_ix (dpv 2) dpe_int)) (dpw_and1 (dpt_cmp dop_le (dpe_ix (dpe_ix (dpv 6) (dpv 10)) dpe_int) (dpe_ix (dpv 4) dpe_int))))) (dpss_one (dps_set 9 nd (dpe_op dop_add (dpv 9) dpe_int))) dpss_nil) (dpss_one (dps_for hp rfl (dpi_seq (dpv 1)) (dpg_name nd) (dpss_one (dps_if (dpt_cmp dop_lt (dpe_call c__law_side hr (dpa_cons (dpv 2) (dpa_cons (dpv 4) (dpa_cons (dpv 5) dpa_nil)))) dpe_int) (dpss_one (dps_ret dpe_bl)) dpss_nil))))))))) (dpss_one (dps_ret (dpe_cmp (dop_eq hr.units) (dpv 9) dpe_int))))))))))))))
  exact main
end
end K67
end DL

namespace Hull
abbrev PI := Int × Int
def cr (p q r : PI) : Int := (q.2 - p.2) * (r.1 - p.1) - (q.1 - p.1) * (r.2 - p.2)
def Lx (p q : PI) : Prop := p.2 < q.2 ∨ (p.2 = q.2 ∧ p.1 < q.1)
theorem Lx.irr {p : PI} (h : Lx p p) : False := by unfold Lx at h; omega
theorem Lx.tr {p q r : PI} (h : Lx p q) (k : Lx q r) : Lx p r := by unfold Lx at *; omega
theorem Lx.tot (p q : PI) : Lx p q ∨ p = q ∨ Lx q p := by
  by_cases h : p = q
  · exact .inr (.inl h)
  · have : p.1 ≠ q.1 ∨ p.2 ≠ q.2 := by
      by_cases e : p.1 = q.1
      · exact .inr fun e2 => h (Prod.ext e e2)
      · exact .inl e
    unfold Lx
    omega
theorem nonneg_of {b x : Int} (hb : 0 < b) (h : 0 ≤ b * x) : 0 ≤ x := by
  refine Int.not_lt.mp fun k => ?_
  have := Int.mul_lt_mul_of_pos_left k hb
  rw [Int.mul_zero] at this
  omega
theorem tri {ax ay bx by' cx cy : Int} (ha : 0 < ax ∨ (ax = 0 ∧ 0 < ay)) (hb : 0 < bx ∨ (bx = 0 ∧ 0 < by')) (hc : 0 < cx ∨ (cx = 0 ∧ 0 < cy)) (h1 : 0 ≤ ax * by' - ay * bx) (h2 : 0 ≤ bx * cy - by' * cx) : 0 ≤ ax * cy - ay * cx := by
  have a0 : 0 ≤ ax := by omega
  have c0 : 0 ≤ cx := by omega
  rcases hb with hb | ⟨rfl, hb⟩
  · refine nonneg_of hb ?_
    have id : bx * (ax * cy - ay * cx) = ax * (bx * cy - by' * cx) + cx * (ax * by' - ay * bx) := by grind
    rw [id]
    exact Int.add_nonneg (Int.mul_nonneg a0 h2) (Int.mul_nonneg c0 h1)
  · have z : cx = 0 := by
      rcases Int.lt_or_eq_of_le c0 with k | k
      · have := Int.mul_pos hb k
        omega
      · exact k.symm
    subst z
    have : 0 ≤ ax * cy := Int.mul_nonneg a0 (by omega)
    omega
theorem tri_pos {o a b c : PI} (ha : Lx o a) (hb : Lx o b) (hc : Lx o c) (h1 : 0 ≤ cr o a b) (h2 : 0 ≤ cr o b c) : 0 ≤ cr o a c := by
  unfold Lx at *
  exact tri (ax := a.2 - o.2) (ay := a.1 - o.1) (bx := b.2 - o.2) (by' := b.1 - o.1) (cx := c.2 - o.2) (cy := c.1 - o.1) (by omega) (by omega) (by omega) h1 h2
theorem tri_mid {a s v r : PI} (ha : Lx a v) (hs : Lx s v) (hr : Lx v r) (h1 : 0 ≤ cr a v s) (h2 : 0 ≤ cr a v r) : 0 ≤ cr v r s := by
  unfold Lx at *
  have z := tri (ax := v.2 - s.2) (ay := v.1 - s.1) (bx := v.2 - a.2) (by' := v.1 - a.1) (cx := r.2 - v.2) (cy := r.1 - v.1) (by omega) (by omega) (by omega)
    (by unfold cr at h1; grind) (by unfold cr at h2; grind)
  unfold cr
  grind
theorem tri_up {e a b r : PI} (he : Lx e a) (hb : Lx a b) (hr : Lx a r) (h1 : 0 ≤ cr e a b) (h2 : 0 ≤ cr a b r) : 0 ≤ cr e a r := by
  unfold Lx at *
  have z := tri (ax := a.2 - e.2) (ay := a.1 - e.1) (bx := b.2 - a.2) (by' := b.1 - a.1) (cx := r.2 - a.2) (cy := r.1 - a.1) (by omega) (by omega) (by omega)
    (by unfold cr at h1; grind) (by unfold cr at h2; grind)
  unfold cr
  grind
theorem cr_self (p q : PI) : cr p q p = 0 := by unfold cr; grind
theorem cr_self2 (p q : PI) : cr p q q = 0 := by unfold cr; grind
theorem cr_swap (p q r : PI) : cr p r q = - cr p q r := by unfold cr; grind
theorem cr_swap2 (p q r : PI) : cr q p r = - cr p q r := by unfold cr; grind
theorem coll {a b p q r : PI} (hab : a ≠ b) (h1 : cr a b p = 0) (h2 : cr a b q = 0) (h3 : cr a b r = 0) : cr p q r = 0 := by
  have e1 : (b.2 - a.2) * cr p q r = 0 := by unfold cr at *; grind
  have e2 : (b.1 - a.1) * cr p q r = 0 := by unfold cr at *; grind
  rcases Int.mul_eq_zero.mp e1 with k | k
  · rcases Int.mul_eq_zero.mp e2 with k2 | k2
    · exact absurd (Prod.ext (by omega) (by omega)) hab
    · exact k2
  · exact k

def popR : List PI → PI → List PI
  | b :: a :: st, r => if cr a b r ≤ 0 then popR (a :: st) r else b :: a :: st
  | st, _ => st
def chainR (pts : List PI) : List PI := pts.foldl (fun st r => r :: popR st r) []
def Edg (S : List PI) : List PI → Prop
  | b :: a :: st => (∀ s ∈ S, 0 ≤ cr a b s) ∧ Edg S (a :: st)
  | _ => True
def Trn : List PI → Prop
  | c :: b :: a :: st => 0 < cr a b c ∧ Trn (b :: a :: st)
  | _ => True
theorem Edg.tail {S : List PI} {b : PI} {st : List PI} (h : Edg S (b :: st)) : Edg S st := by
  cases st with
  | nil => exact trivial
  | cons a st => exact h.2
theorem Trn.tail {b : PI} {st : List PI} (h : Trn (b :: st)) : Trn st := by
  match st with
  | [] => exact trivial
  | [_] => exact trivial
  | _ :: _ :: _ => exact h.2
structure Ok (S st : List PI) : Prop where
  edg : Edg S st
  trn : Trn st
  ord : st.Pairwise (fun a b => Lx b a)
  sub : ∀ p ∈ st, p ∈ S
  top : ∀ s ∈ S, ∀ t ∈ st.head?, s = t ∨ Lx s t
  bot : ∀ s ∈ S, ∀ t ∈ st.getLast?, s = t ∨ Lx t s
  ne : S ≠ [] → st ≠ []
theorem popR_spec (S : List PI) (r : PI) : ∀ (st : List PI), Edg S st → Trn st → st.Pairwise (fun a b => Lx b a) → (∀ p ∈ st, Lx p r) → st ≠ [] → (∀ s ∈ S, ∀ t ∈ st.head?, s = t ∨ Lx s t ∨ 0 ≤ cr t r s) →
    popR st r ≠ [] ∧ Edg S (popR st r) ∧ Trn (popR st r) ∧ (popR st r).Pairwise (fun a b => Lx b a) ∧ (∀ p ∈ popR st r, p ∈ st) ∧ (popR st r).getLast? = st.getLast? ∧
    (∀ s ∈ S, ∀ t ∈ (popR st r).head?, s = t ∨ Lx s t ∨ 0 ≤ cr t r s) ∧ (∀ (b a : PI) (q : List PI), popR st r = b :: a :: q → 0 < cr a b r)
  | [], _, _, _, _, h, _ => absurd rfl h
  | [b], h1, h2, h3, h4, h5, h6 => ⟨h5, h1, h2, h3, fun p hp => hp, rfl, h6, fun b' a q e => by unfold popR at e; cases e⟩
  | b :: a :: st, h1, h2, h3, h4, h5, h6 => by
    unfold popR
    by_cases hc : cr a b r ≤ 0
    · rw [if_pos hc]
      have ho := List.pairwise_cons.mp h3
      have ih := popR_spec S r (a :: st) h1.tail h2.tail ho.2 (fun p hp => h4 p (List.mem_cons_of_mem _ hp)) (by simp) (fun s hs t ht => by
        have e : a = t := by simpa using ht
        subst e
        rcases Lx.tot s a with k | k | k
        · exact .inr (.inl k)
        · exact .inl k
        · refine .inr (.inr ?_)
          have hab := ho.1 a List.mem_cons_self
          refine tri_pos (h4 a (by simp)) hab k ?_ (h1.1 s hs)
          rw [cr_swap]
          omega)
      obtain ⟨i1, i2, i3, i4, i5, i6, i7, i8⟩ := ih
      exact ⟨i1, i2, i3, i4, fun p hp => List.mem_cons_of_mem _ (i5 p hp), i6.trans (by rw [List.getLast?_cons_cons]), i7, i8⟩
    · rw [if_neg hc]
      exact ⟨h5, h1, h2, h3, fun p hp => hp, rfl, h6, fun b' a' q e => by
        injection e with e1 e2
        injection e2 with e2 e3
        subst e1 e2
        omega⟩
theorem edges_left {r : PI} : ∀ (st : List PI), Trn st → st.Pairwise (fun a b => Lx b a) → (∀ p ∈ st, Lx p r) → (∀ (b a : PI) (q : List PI), st = b :: a :: q → 0 ≤ cr a b r) → Edg [r] st
  | [], _, _, _, _ => trivial
  | [_], _, _, _, _ => trivial
  | [b, a], _, _, _, h => ⟨fun s hs => by
      have e : s = r := by simpa using hs
      subst e
      exact h b a [] rfl, trivial⟩
  | b :: a :: e :: st, h1, h2, h3, h4 => by
    have ho := List.pairwise_cons.mp h2
    have ho2 := List.pairwise_cons.mp ho.2
    refine ⟨fun s hs => ?_, edges_left (a :: e :: st) h1.tail ho.2 (fun p hp => h3 p (List.mem_cons_of_mem _ hp)) fun b' a' q z => ?_⟩
    · have e2 : s = r := by simpa using hs
      subst e2
      exact h4 b a _ rfl
    · injection z with z1 z2
      injection z2 with z2 z3
      subst z1 z2
      have k1 : 0 < cr e a b := h1.1
      exact tri_up (ho2.1 e List.mem_cons_self) (ho.1 a List.mem_cons_self) (h3 a (by simp)) (by omega) (h4 b a _ rfl)
theorem Edg.both {S : List PI} {r : PI} : ∀ {st : List PI}, Edg S st → Edg [r] st → Edg (r :: S) st
  | [], _, _ => trivial
  | [_], _, _ => trivial
  | b :: a :: st, h, k => ⟨fun s hs => by
      rcases List.mem_cons.mp hs with rfl | hs
      · exact k.1 s (by simp)
      · exact h.1 s hs, Edg.both h.2 k.2⟩
theorem Ok.push {S st : List PI} {r : PI} (h : Ok S st) (hr : ∀ s ∈ S, Lx s r) : Ok (r :: S) (r :: popR st r) := by
  by_cases hne : st = []
  · subst hne
    have : S = [] := by
      cases S with
      | nil => rfl
      | cons a S => exact absurd rfl (h.ne (by simp))
    subst this
    show Ok [r] [r]
    exact ⟨trivial, trivial, by simp, by simp, by simp, by simp, by simp⟩
  · have hs4 : ∀ p ∈ st, Lx p r := fun p hp => hr p (h.sub p hp)
    obtain ⟨i1, i2, i3, i4, i5, i6, i7, i8⟩ := popR_spec S r st h.edg h.trn h.ord hs4 hne (fun s hs t ht => by
      rcases h.top s hs t ht with k | k
      · exact .inl k
      · exact .inr (.inl k))
    have hp4 : ∀ p ∈ popR st r, Lx p r := fun p hp => hs4 p (i5 p hp)
    have el : Edg [r] (popR st r) := edges_left _ i3 i4 hp4 fun b a q e => by have := i8 b a q e; omega
    generalize popR st r = w at *
    match w, i1 with
    | v :: w, _ =>
      have left : ∀ s ∈ S, 0 ≤ cr v r s := fun s hs => by
        rcases i7 s hs v rfl with k | k | k
        · subst k; rw [cr_self]; exact Int.le_refl _
        · -- s before v: there is an older edge
          match w with
          | [] =>
            have : st.getLast? = some v := by rw [← i6]; rfl
            rcases h.bot s hs v this with z | z
            · subst z; exact absurd k Lx.irr
            · exact absurd (z.tr k) Lx.irr
          | a :: w =>
            have ho := List.pairwise_cons.mp i4
            have k8 := i8 v a w rfl
            exact tri_mid (ho.1 a List.mem_cons_self) k (hp4 v (by simp)) (i2.1 s hs) (by omega)
        · exact k
      refine ⟨⟨fun s hs => ?_, i2.both el⟩, ?_, List.pairwise_cons.mpr ⟨hp4, i4⟩, fun p hp => ?_, fun s hs t ht => ?_, fun s hs t ht => ?_, by simp⟩
      · rcases List.mem_cons.mp hs with rfl | hs
        · rw [cr_self2]; exact Int.le_refl _
        · exact left s hs
      · match w with
        | [] => exact trivial
        | a :: w => exact ⟨i8 v a w rfl, i3⟩
      · rcases List.mem_cons.mp hp with rfl | hp
        · exact List.mem_cons_self
        · exact List.mem_cons_of_mem _ (h.sub p (i5 p hp))
      · have e : r = t := by simpa using ht
        subst e
        rcases List.mem_cons.mp hs with rfl | hs
        · exact .inl rfl
        · exact .inr (hr s hs)
      · rw [List.getLast?_cons_cons, i6] at ht
        rcases List.mem_cons.mp hs with rfl | hs
        · obtain ⟨q, hq⟩ : ∃ q, q ∈ st := by
            cases st with
            | nil => exact absurd rfl hne
            | cons q st => exact ⟨q, List.mem_cons_self⟩
          exact .inr (hs4 t (List.mem_of_getLast? ht))
        · exact h.bot s hs t ht
theorem chain_ok : ∀ (pts S st : List PI), Ok S st → pts.Pairwise Lx → (∀ s ∈ S, ∀ p ∈ pts, Lx s p) → ∃ S', (∀ s, s ∈ S' ↔ s ∈ S ∨ s ∈ pts) ∧ Ok S' (pts.foldl (fun st r => r :: popR st r) st)
  | [], S, st, h, _, _ => ⟨S, by simp, h⟩
  | r :: pts, S, st, h, hp, hs => by
    obtain ⟨p1, p2⟩ := List.pairwise_cons.mp hp
    obtain ⟨S', m, k⟩ := chain_ok pts (r :: S) (r :: popR st r) (h.push fun s hs' => hs s hs' r List.mem_cons_self) p2 (fun s hs' p hp' => by
      rcases List.mem_cons.mp hs' with rfl | hs'
      · exact p1 p hp'
      · exact hs s hs' p (List.mem_cons_of_mem _ hp'))
    refine ⟨S', fun s => ?_, k⟩
    rw [m, List.mem_cons, List.mem_cons]
    constructor
    · rintro ((h | h) | h)
      · exact .inr (.inl h)
      · exact .inl h
      · exact .inr (.inr h)
    · rintro (h | h | h)
      · exact .inl (.inr h)
      · exact .inl (.inl h)
      · exact .inr h
theorem Edg.congr {S S' : List PI} (m : ∀ s, s ∈ S' → s ∈ S) : ∀ {st : List PI}, Edg S st → Edg S' st
  | [], _ => trivial
  | [_], _ => trivial
  | _ :: _ :: _, h => ⟨fun s hs => h.1 s (m s hs), h.2.congr m⟩
theorem chainR_ok {pts : List PI} (hp : pts.Pairwise Lx) : Ok pts (chainR pts) := by
  obtain ⟨S', m, h⟩ := chain_ok pts [] [] ⟨trivial, trivial, List.Pairwise.nil, by simp, by simp, by simp, by simp⟩ hp (by simp)
  have m1 : ∀ s, s ∈ S' ↔ s ∈ pts := fun s => by rw [m]; simp
  exact ⟨h.edg.congr fun s hs => (m1 s).mpr hs, h.trn, h.ord, fun p hp => (m1 p).mp (h.sub p hp), fun s hs => h.top s ((m1 s).mpr hs), fun s hs => h.bot s ((m1 s).mpr hs), fun hne => h.ne (by
    intro z
    cases pts with
    | nil => exact hne rfl
    | cons a pts => have := (m1 a).mpr List.mem_cons_self; rw [z] at this; simp at this)⟩

def neg (p : PI) : PI := (-p.1, -p.2)
theorem cr_neg (p q r : PI) : cr (neg p) (neg q) (neg r) = cr p q r := by unfold cr neg; grind
theorem Lx_neg {p q : PI} : Lx (neg p) (neg q) ↔ Lx q p := by unfold Lx neg; omega
theorem popR_neg (r : PI) : ∀ st : List PI, popR (st.map neg) (neg r) = (popR st r).map neg
  | [] => rfl
  | [_] => rfl
  | b :: a :: st => by
    show (if cr (neg a) (neg b) (neg r) ≤ 0 then popR ((a :: st).map neg) (neg r) else (b :: a :: st).map neg) = (if cr a b r ≤ 0 then popR (a :: st) r else b :: a :: st).map neg
    rw [cr_neg]
    split
    · exact popR_neg r (a :: st)
    · rfl
theorem foldR_neg : ∀ (pts st : List PI), (pts.map neg).foldl (fun st r => r :: popR st r) (st.map neg) = (pts.foldl (fun st r => r :: popR st r) st).map neg
  | [], _ => rfl
  | r :: pts, st => by
    show (pts.map neg).foldl _ (neg r :: popR (st.map neg) (neg r)) = _
    rw [popR_neg]
    exact foldR_neg pts (r :: popR st r)
theorem chainR_neg (pts : List PI) : chainR (pts.map neg) = (chainR pts).map neg := foldR_neg pts []
theorem Edg.neg {S : List PI} : ∀ {st : List PI}, Edg (S.map neg) (st.map neg) → Edg S st
  | [], _ => trivial
  | [_], _ => trivial
  | b :: a :: st, h => ⟨fun s hs => by
      have := h.1 (Hull.neg s) (List.mem_map_of_mem hs)
      rwa [cr_neg] at this, Edg.neg h.2⟩
theorem Trn.neg : ∀ {st : List PI}, Trn (st.map Hull.neg) → Trn st
  | [], _ => trivial
  | [_], _ => trivial
  | [_, _], _ => trivial
  | c :: b :: a :: st, h => ⟨by have := h.1; rwa [cr_neg] at this, Trn.neg (st := b :: a :: st) h.2⟩
theorem neg_neg (p : PI) : neg (neg p) = p := Prod.ext (by unfold neg; simp) (by unfold neg; simp)
theorem neg_inj {p q : PI} (h : neg p = neg q) : p = q := by rw [← neg_neg p, h, neg_neg]
structure Up (S st : List PI) : Prop where
  edg : Edg S st
  trn : Trn st
  ord : st.Pairwise Lx
  sub : ∀ p ∈ st, p ∈ S
  top : ∀ s ∈ S, ∀ t ∈ st.head?, s = t ∨ Lx t s
  bot : ∀ s ∈ S, ∀ t ∈ st.getLast?, s = t ∨ Lx s t
  ne : S ≠ [] → st ≠ []
theorem chainU_ok {pts : List PI} (hp : pts.Pairwise Lx) : Up pts (chainR pts.reverse) := by
  have h := chainR_ok (pts := pts.reverse.map neg) (List.pairwise_map.mpr ((List.pairwise_reverse.mpr hp).imp fun h => Lx_neg.mpr h))
  rw [chainR_neg] at h
  have mS : ∀ s, s ∈ pts → neg s ∈ pts.reverse.map neg := fun s hs => List.mem_map_of_mem (List.mem_reverse.mpr hs)
  refine ⟨(Edg.neg h.edg).congr fun s hs => List.mem_reverse.mpr hs, Trn.neg h.trn, (List.pairwise_map.mp h.ord).imp fun z => Lx_neg.mp z, fun p hp => ?_, fun s hs t ht => ?_, fun s hs t ht => ?_, fun hne => ?_⟩
  · obtain ⟨q, hq, e⟩ := List.mem_map.mp (h.sub (neg p) (List.mem_map_of_mem hp))
    rw [← neg_inj e]
    exact List.mem_reverse.mp hq
  · have := h.top (neg s) (mS s hs) (neg t) (by rw [List.head?_map]; exact Option.mem_map_of_mem neg ht)
    rcases this with z | z
    · exact .inl (neg_inj z)
    · exact .inr (Lx_neg.mp z)
  · have := h.bot (neg s) (mS s hs) (neg t) (by rw [List.getLast?_map]; exact Option.mem_map_of_mem neg ht)
    rcases this with z | z
    · exact .inl (neg_inj z)
    · exact .inr (Lx_neg.mp z)
  · have := h.ne (by simpa using hne)
    intro z
    rw [z] at this
    exact this rfl

theorem Edg.app {S : List PI} {v : PI} {B : List PI} : ∀ {A : List PI}, Edg S (A ++ [v]) → Edg S (v :: B) → Edg S (A ++ v :: B)
  | [], _, h => h
  | [a], h, k => ⟨h.1, k⟩
  | a :: b :: A, h, k => ⟨h.1, Edg.app (A := b :: A) h.2 k⟩
theorem Trn.app {v : PI} {B : List PI} : ∀ {A : List PI}, Trn (A ++ [v]) → Trn (v :: B) → (∀ u ∈ A.getLast?, ∀ b ∈ B.head?, 0 < cr b v u) → Trn (A ++ v :: B)
  | [], _, h, _ => h
  | [a], _, h, k => by
    match B with
    | [] => exact trivial
    | b :: B => exact ⟨k a rfl b rfl, h⟩
  | [a, c], h, k, z => ⟨h.1, Trn.app (A := [c]) h.2 k z⟩
  | a :: c :: d :: A, h, k, z => ⟨h.1, Trn.app (A := c :: d :: A) h.2 k fun u hu => z u (by rw [List.getLast?_cons_cons]; exact hu)⟩
theorem Edg.drop {S : List PI} : ∀ {A B : List PI}, Edg S (A ++ B) → Edg S B
  | [], _, h => h
  | _ :: A, _, h => Edg.drop (A := A) h.tail
theorem Trn.drop : ∀ {A B : List PI}, Trn (A ++ B) → Trn B
  | [], _, h => h
  | _ :: A, _, h => Trn.drop (A := A) h.tail
theorem junction {b v u s : PI} (hb : Lx b v) (hu : Lx u v) (hs : s = v ∨ Lx s v) (e1 : 0 ≤ cr b v s) (e2 : 0 ≤ cr v u s) (z : cr b v u = 0) : cr b v s = 0 := by
  rcases hs with rfl | hs
  · exact cr_self2 _ _
  · unfold Lx at *
    have t := tri (ax := v.2 - b.2) (ay := v.1 - b.1) (bx := v.2 - u.2) (by' := v.1 - u.1) (cx := v.2 - s.2) (cy := v.1 - s.1) (by omega) (by omega) (by omega)
      (by unfold cr at z; grind) (by unfold cr at e2; grind)
    have : cr b v s = -((v.2 - b.2) * (v.1 - s.1) - (v.1 - b.1) * (v.2 - s.2)) := by unfold cr; grind
    omega
theorem apart {a b c x : PI} (ha : Lx a x) (hb : Lx x b) (hc : Lx x c) (h1 : 0 < cr a x b) (h2 : 0 ≤ cr a x c) (h3 : 0 ≤ cr c x a) (h4 : 0 ≤ cr x b c) : False := by
  unfold Lx at *
  have t := tri (ax := b.2 - x.2) (ay := b.1 - x.1) (bx := c.2 - x.2) (by' := c.1 - x.1) (cx := x.2 - a.2) (cy := x.1 - a.1) (by omega) (by omega) (by omega)
    (by unfold cr at h4; grind) (by unfold cr at h3; grind)
  have : cr a x b = -((b.2 - x.2) * (x.1 - a.1) - (b.1 - x.1) * (x.2 - a.2)) := by unfold cr; grind
  omega
def hullP (o : List PI) : List PI := (chainR o).reverse.dropLast ++ (chainR o.reverse).reverse.dropLast
def Coll (o : List PI) : Prop := ∀ p ∈ o, ∀ q ∈ o, ∀ r ∈ o, cr p q r = 0
theorem Trn.short {o st : List PI} (h : Trn st) (sub : ∀ p ∈ st, p ∈ o) (c : Coll o) : st.length ≤ 2 := by
  match st with
  | [] => simp
  | [_] => simp
  | [_, _] => simp
  | e :: b :: a :: st =>
    have := h.1
    rw [c a (sub a (by simp)) b (sub b (by simp)) e (sub e (by simp))] at this
    omega
theorem hull_len (o : List PI) : (hullP o).length = ((chainR o).length - 1) + ((chainR o.reverse).length - 1) := by unfold hullP; simp
theorem hull_short {o : List PI} (ho : o.Pairwise Lx) (c : Coll o) : (hullP o).length < 3 := by
  have h1 := (chainR_ok ho).trn.short (chainR_ok ho).sub c
  have h2 := (chainU_ok ho).trn.short (chainU_ok ho).sub c
  rw [hull_len]
  omega
theorem ends {o : List PI} (ho : o.Pairwise Lx) {p q : PI} (hp : p ∈ o) (hq : q ∈ o) (hpq : p ≠ q) :
    ∃ (v0 vm : PI) (A B : List PI), chainR o = vm :: B ++ [v0] ∧ chainR o.reverse = v0 :: A ++ [vm] ∧ v0 ∈ o ∧ vm ∈ o ∧ Lx v0 vm ∧ (∀ s ∈ o, s = v0 ∨ Lx v0 s) ∧ (∀ s ∈ o, s = vm ∨ Lx s vm) := by
  have hL := chainR_ok ho
  have hU := chainU_ok ho
  have ne : o ≠ [] := by intro z; rw [z] at hp; simp at hp
  obtain ⟨vm, L, eL⟩ : ∃ v l, chainR o = v :: l := by
    cases e : chainR o with
    | nil => exact absurd e (hL.ne ne)
    | cons v l => exact ⟨v, l, rfl⟩
  obtain ⟨v0, U, eU⟩ : ∃ v l, chainR o.reverse = v :: l := by
    cases e : chainR o.reverse with
    | nil => exact absurd e (hU.ne ne)
    | cons v l => exact ⟨v, l, rfl⟩
  rw [eL] at hL
  rw [eU] at hU
  have mx : ∀ s ∈ o, s = vm ∨ Lx s vm := fun s hs => hL.top s hs vm rfl
  have mn : ∀ s ∈ o, s = v0 ∨ Lx v0 s := fun s hs => hU.top s hs v0 rfl
  have i0 : v0 ∈ o := hU.sub v0 (by simp)
  have im : vm ∈ o := hL.sub vm (by simp)
  have lt : Lx v0 vm := by
    rcases mn p hp with e | e
    · rcases mx q hq with k | k
      · rcases mx v0 i0 with z | z
        · exact absurd (e.trans (z.trans k.symm)) hpq
        · exact z
      · rcases mn q hq with z | z
        · exact absurd (e.trans z.symm) hpq
        · exact z.tr k
    · rcases mx p hp with k | k
      · rw [← k]; exact e
      · exact e.tr k
  -- the last of L is v0, of U is vm
  have lastL : (vm :: L).getLast? = some v0 := by
    have := List.getLast?_eq_some_getLast (l := vm :: L) (by simp)
    rw [this]
    rcases hL.bot v0 i0 _ this with z | z
    · rw [← z]
    · rcases mn _ (hL.sub _ (List.getLast_mem (by simp : vm :: L ≠ []))) with k | k
      · rw [← k]
      · exact absurd (z.tr k) Lx.irr
  have lastU : (v0 :: U).getLast? = some vm := by
    have := List.getLast?_eq_some_getLast (l := v0 :: U) (by simp)
    rw [this]
    rcases hU.bot vm im _ this with z | z
    · rw [← z]
    · rcases mx _ (hU.sub _ (List.getLast_mem (by simp : v0 :: U ≠ []))) with k | k
      · rw [← k]
      · exact absurd (z.tr k) Lx.irr
  have split : ∀ {x y : PI} {l : List PI}, (x :: l).getLast? = some y → x ≠ y → ∃ m, x :: l = x :: m ++ [y] := fun {x y l} e h => by
    cases l with
    | nil => exact absurd (by simpa using e) h
    | cons z l =>
      rw [List.getLast?_cons_cons] at e
      refine ⟨(z :: l).dropLast, ?_⟩
      have e2 := List.getLast?_eq_some_iff.mp e
      obtain ⟨ys, e2⟩ := e2
      rw [e2]
      simp
  have hne : vm ≠ v0 := fun z => by rw [z] at lt; exact lt.irr
  obtain ⟨B, eB⟩ := split lastL hne
  obtain ⟨A, eA⟩ := split lastU hne.symm
  exact ⟨v0, vm, A, B, by rw [eL, eB], by rw [eU, eA], i0, im, lt, mn, mx⟩

theorem Edg.at_ {S : List PI} : ∀ {Z : List PI} {j : Nat} {x y : PI}, Edg S Z → Z[j]? = some x → Z[j + 1]? = some y → ∀ s ∈ S, 0 ≤ cr y x s
  | [], _, _, _, _, e, _ => by simp at e
  | [_], 0, _, _, _, _, e => by simp at e
  | [_], j + 1, _, _, _, e, _ => by simp at e
  | b :: a :: Z, 0, x, y, h, e1, e2 => by
    simp at e1 e2
    subst e1 e2
    exact h.1
  | b :: a :: Z, j + 1, x, y, h, e1, e2 => Edg.at_ (Z := a :: Z) (j := j) h.2 (by simpa using e1) (by simpa using e2)
theorem Trn.at_ : ∀ {Z : List PI} {j : Nat} {x y z : PI}, Trn Z → Z[j]? = some x → Z[j + 1]? = some y → Z[j + 2]? = some z → 0 < cr z y x
  | [], _, _, _, _, _, e, _, _ => by simp at e
  | [_], 0, _, _, _, _, _, e, _ => by simp at e
  | [_], j + 1, _, _, _, _, e, _, _ => by simp at e
  | [_, _], 0, _, _, _, _, _, _, e => by simp at e
  | [_, _], j + 1, _, _, _, _, _, e, _ => by simp at e
  | c :: b :: a :: Z, 0, x, y, z, h, e1, e2, e3 => by
    simp at e1 e2 e3
    subst e1 e2 e3
    exact h.1
  | c :: b :: a :: Z, j + 1, x, y, z, h, e1, e2, e3 => Trn.at_ (Z := b :: a :: Z) (j := j) h.2 (by simpa using e1) (by simpa using e2) (by simpa using e3)
theorem coll_of {o : List PI} {a b : PI} (hab : a ≠ b) (h : ∀ s ∈ o, cr a b s = 0) : Coll o := fun p hp q hq r hr => coll hab (h p hp) (h q hq) (h r hr)
theorem Lx.ne {p q : PI} (h : Lx p q) : p ≠ q := fun e => by rw [e] at h; exact h.irr
theorem hull_flat {o : List PI} (ho : o.Pairwise Lx) : (hullP o).length < 3 ↔ Coll o := by
  refine ⟨fun h => ?_, hull_short ho⟩
  by_cases hd : ∃ p ∈ o, ∃ q ∈ o, p ≠ q
  · obtain ⟨p, hp, q, hq, hpq⟩ := hd
    obtain ⟨v0, vm, A, B, eL, eU, i0, im, lt, mn, mx⟩ := ends ho hp hq hpq
    rw [hull_len, eL, eU] at h
    simp only [List.length_append, List.length_cons, List.length_nil] at h
    have hA : A = [] := List.eq_nil_of_length_eq_zero (by omega)
    have hB : B = [] := List.eq_nil_of_length_eq_zero (by omega)
    subst hA hB
    have e1 := (chainR_ok ho).edg
    have e2 := (chainU_ok ho).edg
    rw [eL] at e1
    rw [eU] at e2
    refine coll_of lt.ne fun s hs => ?_
    have k1 := e1.1 s hs
    have k2 := e2.1 s hs
    rw [cr_swap2] at k2
    omega
  · intro p hp q hq r hr
    have : p = q := Decidable.byContradiction fun z => hd ⟨p, hp, q, hq, z⟩
    rw [this]
    unfold cr
    grind
structure Poly (o f : List PI) : Prop where
  sub : ∀ p ∈ f, p ∈ o
  nd : f.Nodup
  least : ∀ p ∈ f.head?, p ∈ o ∧ ∀ s ∈ o, s = p ∨ Lx p s
  edge : ∀ i, i < f.length → ∀ s ∈ o, 0 ≤ cr (f.getD i (0, 0)) (f.getD ((i + 1) % f.length) (0, 0)) s
  turn : ∀ i, i < f.length → 0 < cr (f.getD i (0, 0)) (f.getD ((i + 1) % f.length) (0, 0)) (f.getD ((i + 2) % f.length) (0, 0))
theorem mem_split2 {α : Type} {l : List α} {x y v : α} (h : x ∈ l) (hl : l.getLast? = some y) (hne : x ≠ y) : ∃ P Q a, l = P ++ x :: a :: Q := by
  obtain ⟨P, Q, e⟩ := List.append_of_mem h
  cases Q with
  | nil => rw [e] at hl; simp at hl; exact absurd hl hne
  | cons a Q => exact ⟨P, Q, a, e⟩
theorem pw_drop {α : Type} {R : α → α → Prop} {P Q : List α} (h : (P ++ Q).Pairwise R) : Q.Pairwise R := (List.pairwise_append.mp h).2.1
theorem hull_poly {o : List PI} (ho : o.Pairwise Lx) (h3 : 3 ≤ (hullP o).length) : Poly o (hullP o) := by
  have nc : ¬ Coll o := fun c => by have := hull_short ho c; omega
  have hd : ∃ p ∈ o, ∃ q ∈ o, p ≠ q := by
    apply Decidable.byContradiction
    intro hd
    refine nc fun p hp q hq r hr => ?_
    have : p = q := Decidable.byContradiction fun z => hd ⟨p, hp, q, hq, z⟩
    rw [this]
    unfold cr
    grind
  obtain ⟨p, hp, q, hq, hpq⟩ := hd
  obtain ⟨v0, vm, A, B, eL, eU, i0, im, lt, mn, mx⟩ := ends ho hp hq hpq
  have L := chainR_ok ho
  have U := chainU_ok ho
  rw [eL] at L
  rw [eU] at U
  have lenAB : (hullP o).length = A.length + B.length + 2 := by
    rw [hull_len, eL, eU]
    simp only [List.length_append, List.length_cons, List.length_nil]
    omega
  have ef : hullP o = v0 :: B.reverse ++ vm :: A.reverse := by
    unfold hullP
    rw [eL, eU]
    simp [List.dropLast_append_of_ne_nil, List.dropLast_cons_of_ne_nil]
  -- order facts
  have oL := L.ord
  have oU := U.ord
  have inB : ∀ x ∈ B, Lx x vm ∧ Lx v0 x := fun x hx => by
    have e1 := List.pairwise_append.mp oL
    exact ⟨(List.pairwise_cons.mp (show (vm :: B).Pairwise _ from e1.1)).1 x hx, e1.2.2 x (List.mem_cons_of_mem _ hx) v0 (by simp)⟩
  have inA : ∀ x ∈ A, Lx x vm ∧ Lx v0 x := fun x hx => by
    have e1 := List.pairwise_append.mp oU
    exact ⟨e1.2.2 x (List.mem_cons_of_mem _ hx) vm (by simp), (List.pairwise_cons.mp (show (v0 :: A).Pairwise _ from e1.1)).1 x hx⟩
  -- the closed walk, backwards
  have edgL : Edg o (vm :: (B ++ [v0])) := L.edg
  have edgU : Edg o ((v0 :: A) ++ [vm]) := U.edg
  have edg : Edg o ((v0 :: A) ++ vm :: (B ++ [v0])) := Edg.app edgU edgL
  have hZlen : ((v0 :: A) ++ vm :: (B ++ [v0])).length = (hullP o).length + 1 := by rw [lenAB]; simp; omega
  have zrev : ((v0 :: A) ++ vm :: (B ++ [v0])).reverse = hullP o ++ [v0] := by rw [ef]; simp
  have trn : Trn ((v0 :: A) ++ vm :: (B ++ [v0])) := by
    refine Trn.app U.trn L.trn fun u hu b hb => ?_
    have eu : ∃ P, v0 :: A = P ++ [u] := List.getLast?_eq_some_iff.mp hu
    have eb : ∃ Q, B ++ [v0] = b :: Q := by
      cases e : B ++ [v0] with
      | nil => simp at e
      | cons c Q => rw [e] at hb; simp at hb; exact ⟨Q, by rw [hb]⟩
    obtain ⟨P, eP⟩ := eu
    obtain ⟨Q, eQ⟩ := eb
    have kb : Lx b vm := by
      have : b ∈ B ++ [v0] := by rw [eQ]; simp
      rcases List.mem_append.mp this with m | m
      · exact (inB b m).1
      · have : b = v0 := by simpa using m
        rw [this]; exact lt
    have ku : Lx u vm := by
      have : u ∈ v0 :: A := by rw [eP]; simp
      rcases List.mem_cons.mp this with m | m
      · rw [m]; exact lt
      · exact (inA u m).1
    have E1 : ∀ s ∈ o, 0 ≤ cr b vm s := by
      rw [eQ] at edgL
      exact edgL.1
    have E2 : ∀ s ∈ o, 0 ≤ cr vm u s := by
      rw [eP, List.append_assoc] at edgU
      exact edgU.drop.1
    have pos := E1 u (U.sub u (by have : u ∈ v0 :: A := by rw [eP]; simp
                                  exact List.mem_append_left _ this))
    rcases Int.lt_or_eq_of_le pos with k | k
    · exact k
    · exact absurd (coll_of kb.ne fun s hs => junction kb ku (mx s hs) (E1 s hs) (E2 s hs) k.symm) nc
  -- by places
  have zAt : ∀ i, i ≤ (hullP o).length → ((v0 :: A) ++ vm :: (B ++ [v0]))[(hullP o).length - i]? = (hullP o ++ [v0])[i]? := fun i hi => by
    rw [← zrev, List.getElem?_reverse (by rw [hZlen]; omega), hZlen]
    congr 1
  have fAt : ∀ i, i < (hullP o).length → (hullP o ++ [v0])[i]? = some ((hullP o).getD i (0, 0)) := fun i hi => by
    rw [List.getElem?_append_left hi, List.getD_eq_getElem?_getD, List.getElem?_eq_getElem hi]; rfl
  have f0 : (hullP o).getD 0 (0, 0) = v0 := by rw [ef]; rfl
  have fN : (hullP o ++ [v0])[(hullP o).length]? = some ((hullP o).getD 0 (0, 0)) := by rw [f0]; simp
  have fAt1 : ∀ i, i < (hullP o).length → (hullP o ++ [v0])[i + 1]? = some ((hullP o).getD ((i + 1) % (hullP o).length) (0, 0)) := fun i hi => by
    by_cases h : i + 1 = (hullP o).length
    · rw [h, Nat.mod_self]; exact fN
    · rw [Nat.mod_eq_of_lt (by omega)]; exact fAt _ (by omega)
  have edge : ∀ i, i < (hullP o).length → ∀ s ∈ o, 0 ≤ cr ((hullP o).getD i (0, 0)) ((hullP o).getD ((i + 1) % (hullP o).length) (0, 0)) s := fun i hi =>
    Edg.at_ (j := (hullP o).length - (i + 1)) edg ((zAt (i + 1) (by omega)).trans (fAt1 i hi)) (by
      have := (zAt i (by omega)).trans (fAt i hi)
      rwa [show (hullP o).length - i = (hullP o).length - (i + 1) + 1 by omega] at this)
  have subf : ∀ p ∈ hullP o, p ∈ o := fun p hp => by
    rw [ef] at hp
    rcases List.mem_append.mp hp with m | m
    · refine L.sub p ?_
      rcases List.mem_cons.mp m with e | m
      · rw [e]; simp
      · simp at m; simp [m]
    · refine U.sub p ?_
      rcases List.mem_cons.mp m with e | m
      · rw [e]; simp
      · simp at m; simp [m]
  have memf : ∀ i, i < (hullP o).length → (hullP o).getD i (0, 0) ∈ hullP o := fun i hi => by
    rw [List.getD_eq_getElem?_getD, List.getElem?_eq_getElem hi]; exact List.getElem_mem hi
  -- no place twice
  have nd : (hullP o).Nodup := by
    rw [ef]
    have nB : (vm :: B).Nodup := ((List.pairwise_append.mp (show (vm :: B ++ [v0]).Pairwise _ from oL)).1).imp fun h => h.ne.symm
    have nA : (v0 :: A).Nodup := ((List.pairwise_append.mp (show (v0 :: A ++ [vm]).Pairwise _ from oU)).1).imp fun h => h.ne
    refine List.nodup_append.mpr ⟨?_, ?_, fun x hx y hy e => ?_⟩
    · refine List.nodup_cons.mpr ⟨fun m => ?_, (List.pairwise_reverse.mpr ((List.nodup_cons.mp nB).2.imp fun h => Ne.symm h))⟩
      exact (inB v0 (List.mem_reverse.mp m)).2.irr
    · refine List.nodup_cons.mpr ⟨fun m => ?_, (List.pairwise_reverse.mpr ((List.nodup_cons.mp nA).2.imp fun h => Ne.symm h))⟩
      exact (inA vm (List.mem_reverse.mp m)).1.irr
    · subst e
      rcases List.mem_cons.mp hx with rfl | hx
      · rcases List.mem_cons.mp hy with e | hy
        · rw [e] at lt; exact lt.irr
        · exact (inA _ (List.mem_reverse.mp hy)).2.irr
      · have hx := List.mem_reverse.mp hx
        rcases List.mem_cons.mp hy with e | hy
        · rw [e] at hx; exact (inB _ hx).1.irr
        · have hy := List.mem_reverse.mp hy
          -- neighbours in both
          obtain ⟨P, Q, e1⟩ := List.append_of_mem hx
          obtain ⟨P', Q', e2⟩ := List.append_of_mem hy
          have tL := L.trn
          have tE := L.edg
          -- b above x, a below x in L
          have sL : ∃ (W : List PI) (b a : PI) (R : List PI), vm :: B ++ [v0] = W ++ b :: x :: a :: R := by
            rw [e1]
            cases Q with
            | nil =>
              cases hP : P.reverse with
              | nil => have : P = [] := by simpa using hP
                       subst this
                       exact ⟨[], vm, v0, [], by simp⟩
              | cons b P2 =>
                have : P = P2.reverse ++ [b] := by have := congrArg List.reverse hP; simpa using this
                subst this
                exact ⟨vm :: P2.reverse, b, v0, [], by simp⟩
            | cons a Q =>
              cases hP : P.reverse with
              | nil => have : P = [] := by simpa using hP
                       subst this
                       exact ⟨[], vm, a, Q ++ [v0], by simp⟩
              | cons b P2 =>
                have : P = P2.reverse ++ [b] := by have := congrArg List.reverse hP; simpa using this
                subst this
                exact ⟨vm :: P2.reverse, b, a, Q ++ [v0], by simp⟩
          have sU : ∃ (W : List PI) (c : PI) (R : List PI), v0 :: A ++ [vm] = W ++ x :: c :: R := by
            rw [e2]
            cases Q' with
            | nil => exact ⟨v0 :: P', vm, [], by simp⟩
            | cons c Q' => exact ⟨v0 :: P', c, Q' ++ [vm], by simp⟩
          obtain ⟨W, b, a, R, eW⟩ := sL
          obtain ⟨W', c, R', eW'⟩ := sU
          have tL := L.trn
          have eLd := L.edg
          have eUd := U.edg
          have pL := L.ord
          have pU := U.ord
          have ca : a ∈ o := L.sub a (by rw [eW]; simp)
          have cc : c ∈ o := U.sub c (by rw [eW']; simp)
          rw [eW] at tL eLd pL
          rw [eW'] at eUd pU
          have t1 := tL.drop
          have d1 := eLd.drop
          have d2 := eUd.drop
          have p1 := pw_drop pL
          have p2 := pw_drop pU
          have q1 := List.pairwise_cons.mp p1
          have q2 := List.pairwise_cons.mp q1.2
          have q3 := List.pairwise_cons.mp p2
          exact apart (q2.1 a (by simp)) (q1.1 x (by simp)) (q3.1 c (by simp)) t1.1 (d1.2.1 c cc) (d2.1 a ca) (d1.1 c cc)
  refine ⟨subf, nd, fun p hp => ?_, edge, fun i hi => ?_⟩
  · rw [ef] at hp
    have e : v0 = p := by simpa using hp
    subst e
    exact ⟨i0, mn⟩
  · by_cases hi2 : i + 1 < (hullP o).length
    · have r2 : (hullP o ++ [v0])[i + 2]? = some ((hullP o).getD ((i + 2) % (hullP o).length) (0, 0)) := fAt1 (i + 1) hi2
      exact Trn.at_ (j := (hullP o).length - (i + 2)) trn ((zAt (i + 2) (by omega)).trans r2) (by
        have := (zAt (i + 1) (by omega)).trans (fAt1 i hi)
        rwa [show (hullP o).length - (i + 1) = (hullP o).length - (i + 2) + 1 by omega] at this) (by
        have := (zAt i (by omega)).trans (fAt i hi)
        rwa [show (hullP o).length - i = (hullP o).length - (i + 2) + 2 by omega] at this)
    · have en : i + 1 = (hullP o).length := by omega
      have e1 : (i + 1) % (hullP o).length = 0 := by rw [en, Nat.mod_self]
      have e2 : (i + 2) % (hullP o).length = 1 := by
        rw [show i + 2 = (hullP o).length + 1 by omega, Nat.add_mod_left]; exact Nat.mod_eq_of_lt (by omega)
      have E := edge i hi
      rw [e1, f0] at E
      rw [e1, e2, f0]
      have E0 := edge 0 (by omega)
      rw [f0, show (0 + 1) % (hullP o).length = 1 from Nat.mod_eq_of_lt (by omega)] at E0
      have m1 := memf 1 (by omega)
      have mi := memf i hi
      have g0 : (hullP o)[0]? = some v0 := by rw [ef]; rfl
      have lt1 : Lx v0 ((hullP o).getD 1 (0, 0)) := by
        rcases mn _ (subf _ m1) with z | z
        · exfalso
          have h1 : (hullP o)[1]? = some v0 := by
            rw [← z, List.getD_eq_getElem?_getD, List.getElem?_eq_getElem (by omega)]; rfl
          have := (List.getElem?_inj (by omega : 0 < (hullP o).length) nd).mp (g0.trans h1.symm)
          omega
        · exact z
      have lti : Lx v0 ((hullP o).getD i (0, 0)) := by
        rcases mn _ (subf _ mi) with z | z
        · exfalso
          have h1 : (hullP o)[i]? = some v0 := by
            rw [← z, List.getD_eq_getElem?_getD, List.getElem?_eq_getElem hi]; rfl
          have := (List.getElem?_inj (by omega : 0 < (hullP o).length) nd).mp (g0.trans h1.symm)
          omega
        · exact z
      have pos := E _ (subf _ m1)
      rcases Int.lt_or_eq_of_le pos with k | k
      · exact k
      · refine absurd (coll_of (a := (hullP o).getD i (0, 0)) (b := v0) lti.ne.symm fun s hs => ?_) nc
        have j := junction (b := neg ((hullP o).getD i (0, 0))) (v := neg v0) (u := neg ((hullP o).getD 1 (0, 0))) (s := neg s) (Lx_neg.mpr lti) (Lx_neg.mpr lt1) (by
          rcases mn s hs with z | z
          · exact .inl (by rw [z])
          · exact .inr (Lx_neg.mpr z)) (by rw [cr_neg]; exact E s hs) (by rw [cr_neg]; exact E0 s hs) (by rw [cr_neg]; exact k.symm)
        rwa [cr_neg] at j

def Yx (p q : PI) : Prop := p.1 < q.1 ∨ (p.1 = q.1 ∧ p.2 ≤ q.2)
theorem exists_max : ∀ {f : List PI}, f ≠ [] → ∃ m, m < f.length ∧ ∀ q ∈ f, Yx q (f.getD m (0, 0))
  | [], h => absurd rfl h
  | [a], _ => ⟨0, by simp, fun q hq => by have e : q = a := by simpa using hq
                                          subst e
                                          exact .inr ⟨rfl, Int.le_refl _⟩⟩
  | a :: b :: f, _ => by
    obtain ⟨m, hm, h⟩ := exists_max (f := b :: f) (by simp)
    by_cases k : Yx ((b :: f).getD m (0, 0)) a
    · refine ⟨0, by simp, fun q hq => ?_⟩
      rcases List.mem_cons.mp hq with e | hq
      · subst e; exact .inr ⟨rfl, Int.le_refl _⟩
      · have := h q hq
        show Yx q a
        unfold Yx at *
        omega
    · refine ⟨m + 1, by simpa using hm, fun q hq => ?_⟩
      show Yx q ((b :: f).getD m (0, 0))
      rcases List.mem_cons.mp hq with e | hq
      · subst e; unfold Yx at *; omega
      · exact h q hq
theorem Yx.anti {p q : PI} (h : Yx p q) (k : Yx q p) : p = q := by
  unfold Yx at *
  exact Prod.ext (by omega) (by omega)
theorem top_of {p q r s : PI} (h1 : p.1 < q.1) (h2 : r.1 ≤ q.1) (t : 0 < cr p q r) (e1 : 0 ≤ cr p q s) (e2 : 0 ≤ cr q r s) : Yx s q := by
  have id : cr p q r * (s.1 - q.1) = (r.1 - q.1) * cr p q s - (q.1 - p.1) * cr q r s := by unfold cr; grind
  have a1 : (r.1 - q.1) * cr p q s ≤ 0 := by
    have := Int.mul_nonneg (show 0 ≤ q.1 - r.1 by omega) e1
    have e : (q.1 - r.1) * cr p q s = -((r.1 - q.1) * cr p q s) := by grind
    omega
  have a2 : 0 ≤ (q.1 - p.1) * cr q r s := Int.mul_nonneg (by omega) e2
  have le : s.1 ≤ q.1 := by
    have : 0 ≤ cr p q r * (q.1 - s.1) := by
      have e : cr p q r * (q.1 - s.1) = -(cr p q r * (s.1 - q.1)) := by grind
      omega
    have := nonneg_of t this
    omega
  rcases Int.lt_or_eq_of_le le with k | k
  · exact .inl k
  · refine .inr ⟨k, ?_⟩
    have e : cr p q s = (q.1 - p.1) * (q.2 - s.2) := by unfold cr; grind
    rw [e] at e1
    have := nonneg_of (show 0 < q.1 - p.1 by omega) e1
    omega
theorem turn_iff {o f : List PI} (P : Poly o f) (h3 : 3 ≤ f.length) : ∃ m, m < f.length ∧ ∀ i, i < f.length →
    ((f.getD i (0, 0)).1 < (f.getD ((i + 1) % f.length) (0, 0)).1 ∧ (f.getD ((i + 2) % f.length) (0, 0)).1 ≤ (f.getD ((i + 1) % f.length) (0, 0)).1 ↔ (i + 1) % f.length = m) := by
  obtain ⟨m, hm, hmax⟩ := exists_max (f := f) (by intro z; rw [z] at h3; simp at h3)
  have at_ : ∀ i, i < f.length → f[i]? = some (f.getD i (0, 0)) := fun i hi => by rw [List.getD_eq_getElem?_getD, List.getElem?_eq_getElem hi]; rfl
  have mem : ∀ i, i < f.length → f.getD i (0, 0) ∈ f := fun i hi => List.mem_of_getElem? (at_ i hi)
  have inj : ∀ i j, i < f.length → j < f.length → f.getD i (0, 0) = f.getD j (0, 0) → i = j := fun i j hi hj e => by
    have := (List.getElem?_inj hi P.nd).mp ((at_ i hi).trans (e ▸ (at_ j hj).symm))
    exact this
  refine ⟨m, hm, fun i hi => ?_⟩
  have h1 : (i + 1) % f.length < f.length := Nat.mod_lt _ (by omega)
  have h2 : (i + 2) % f.length < f.length := Nat.mod_lt _ (by omega)
  have t := P.turn i hi
  have E1 := P.edge i hi
  have E2 := P.edge _ h1
  rw [show ((i + 1) % f.length + 1) % f.length = (i + 2) % f.length by rw [Nat.mod_add_mod]] at E2
  constructor
  · rintro ⟨k1, k2⟩
    refine inj _ _ h1 hm (Yx.anti (hmax _ (mem _ h1)) ?_)
    exact top_of k1 k2 t (E1 _ (P.sub _ (mem m hm))) (E2 _ (P.sub _ (mem m hm)))
  · intro e
    rw [e] at t ⊢
    have y1 := hmax _ (mem i hi)
    have y2 := hmax _ (mem _ h2)
    have ne : f.getD i (0, 0) ≠ f.getD m (0, 0) := fun z => by
      have z2 := inj _ _ hi hm z
      rw [← e] at z2
      by_cases hh : i + 1 < f.length
      · rw [Nat.mod_eq_of_lt hh] at z2; omega
      · rw [show i + 1 = f.length by omega, Nat.mod_self] at z2; omega
    have ne2 : (f.getD i (0, 0)).1 ≠ (f.getD m (0, 0)).1 ∨ (f.getD i (0, 0)).2 ≠ (f.getD m (0, 0)).2 := by
      by_cases z : (f.getD i (0, 0)).1 = (f.getD m (0, 0)).1
      · exact .inr fun z2 => ne (Prod.ext z z2)
      · exact .inl z
    generalize f.getD i (0, 0) = p at *
    generalize f.getD m (0, 0) = q at *
    generalize f.getD ((i + 2) % f.length) (0, 0) = r at *
    unfold Yx at y1 y2
    refine ⟨?_, by omega⟩
    apply Decidable.byContradiction
    intro hlt
    have e1 : p.1 = q.1 := by omega
    have e2 : p.2 < q.2 := by omega
    have : cr p q r = (q.2 - p.2) * (r.1 - p.1) := by unfold cr; rw [e1]; grind
    rw [this] at t
    have : 0 ≤ (q.2 - p.2) * (p.1 - r.1) := Int.mul_nonneg (by omega) (by omega)
    have e3 : (q.2 - p.2) * (p.1 - r.1) = -((q.2 - p.2) * (r.1 - p.1)) := by grind
    omega
end Hull

namespace DL
namespace K67
open PySem
abbrev Bd (p : PI) : Prop := p.1.natAbs < 2 ^ 40 ∧ p.2.natAbs < 2 ^ 40
theorem natAbs_sub {a b : Int} (ha : a.natAbs < 2 ^ 40) (hb : b.natAbs < 2 ^ 40) : (a - b).natAbs < 2 ^ 41 := by omega
theorem cross_eq {p q r : PI} (hp : Bd p) (hq : Bd q) (hr : Bd r) : F_cross [pD p, pD q, pD r] = some (.ok (.int (Hull.cr p q r))) := by
  have e1 := mulD_ok (natAbs_sub hq.2 hp.2) (natAbs_sub hr.1 hp.1) (by decide)
  have e2 := mulD_ok (natAbs_sub hq.1 hp.1) (natAbs_sub hr.2 hp.2) (by decide)
  show runF 3 B_cross [pD p, pD q, pD r] = _
  have : B_cross [some (.val (pD p)), some (.val (pD q)), some (.val (pD r))] = eS (R.bind (mulD (.int (q.2 - p.2)) (.int (r.1 - p.1))) fun x => R.bind (mulD (.int (q.1 - p.1)) (.int (r.2 - p.2))) fun y => subD x y) [some (.val (pD p)), some (.val (pD q)), some (.val (pD r))] fun d => some (.ret d) := by
    rfl
  show (match B_cross [some (.val (pD p)), some (.val (pD q)), some (.val (pD r))] with | some (.ret d) => some (Except.ok d) | some (.nx _) => some (.ok .non) | some (.exc c _) => some (.error c) | _ => none : R D) = _
  rw [this, e1, e2]
  rfl
theorem side_eq {p q r : PI} (hp : Bd p) (hq : Bd q) (hr : Bd r) : F__law_side [pD p, pD q, pD r] = some (.ok (.int (Hull.cr p q r))) := cross_eq hp hq hr

abbrev EC (ps : List PI) (st : List PI) (o : Option DS) : DEnv := [some (.val (.lst (ps.map pD))), some (.own (st.reverse.map pD)), o]
theorem atI_top (b : PI) (st : List PI) : L2.atI ((b :: st).reverse.map pD) (-1) = some (pD b) := by
  have := atI_neg ((b :: st).reverse.map pD) 1 (by decide) (by simp)
  rw [show (-1 : Int) = -((1 : Nat) : Int) from rfl, this]
  simp
theorem atI_top2 (b a : PI) (st : List PI) : L2.atI ((b :: a :: st).reverse.map pD) (-2) = some (pD a) := by
  have := atI_neg ((b :: a :: st).reverse.map pD) 2 (by decide) (by simp)
  rw [show (-2 : Int) = -((2 : Nat) : Int) from rfl, this]
  simp
abbrev tCh : DEnv → R Bool := tAndD (tVal (eOp gtD (eLenO 1) (eC (.int 1)))) (tVal (eOp leD (eCall F_cross 3 (aCons (eIxO 1 (eUn negD (eC (.int 2)))) (aCons (eIxO 1 (eUn negD (eC (.int 1)))) (aCons (eVar 2) aNil)))) (eC (.int 0))))
theorem tCh_two (ps st : List PI) {a b r : PI} (ha : Bd a) (hb : Bd b) (hr : Bd r) : tCh (EC ps (b :: a :: st) (some (.val (pD r)))) = some (.ok (decide (Hull.cr a b r ≤ 0))) := by
  have e : tCh (EC ps (b :: a :: st) (some (.val (pD r)))) = R.bind (R.bind (R.bind (some (.ok (.int ((b :: a :: st).reverse.map pD).length))) fun x => gtD x (.int 1)) toB) fun c => if c then R.bind (R.bind (R.bind (R.bind (ixD (.lst ((b :: a :: st).reverse.map pD)) (.int (-2))) fun x => R.bind (R.bind (ixD (.lst ((b :: a :: st).reverse.map pD)) (.int (-1))) fun x => some (.ok [x, pD r])) fun xs => some (.ok (x :: xs))) fun ds => if ds.length = 3 then F_cross ds else none) fun x => leD x (.int 0)) toB else some (.ok false) := rfl
  rw [e]
  have h1 : ixD (.lst ((b :: a :: st).reverse.map pD)) (.int (-2)) = some (.ok (pD a)) := by unfold ixD; simp only [atI_top2]
  have h2 : ixD (.lst ((b :: a :: st).reverse.map pD)) (.int (-1)) = some (.ok (pD b)) := by unfold ixD; simp only [atI_top]
  rw [h1, h2]
  have hl : (1 : Int) < ((((b :: a :: st).reverse.map pD).length : Nat) : Int) := by simp; omega
  simp only [R.bind_ok, gtD, toB, hl, decide_true, if_true, List.length_cons, List.length_nil, cross_eq ha hb hr, leD]
theorem tCh_few (ps st : List PI) (o : Option DS) (h : st.length ≤ 1) : tCh (EC ps st o) = some (.ok false) := by
  have e : tCh (EC ps st o) = R.bind (R.bind (R.bind (some (.ok (.int (st.reverse.map pD).length))) fun x => gtD x (.int 1)) toB) fun c => if c then tVal (eOp leD (eCall F_cross 3 (aCons (eIxO 1 (eUn negD (eC (.int 2)))) (aCons (eIxO 1 (eUn negD (eC (.int 1)))) (aCons (eVar 2) aNil)))) (eC (.int 0))) (EC ps st o) else some (.ok false) := rfl
  rw [e]
  have hl : ¬ (1 : Int) < (((st.reverse.map pD).length : Nat) : Int) := by simp; omega
  simp only [R.bind_ok, gtD, toB]
  rw [decide_eq_false hl]
  rfl
theorem bPop_eq (ps st : List PI) (b : PI) (o : Option DS) : bPop 1 (EC ps (b :: st) o) = some (.nx (EC ps st o)) := by
  have e : ∀ xs : List D, xs ≠ [] → bPop 1 [some (.val (.lst (ps.map pD))), some (.own xs), o] = some (.nx [some (.val (.lst (ps.map pD))), some (.own xs.dropLast), o]) := fun xs h => by
    cases xs with
    | nil => exact absurd rfl h
    | cons x xs => rfl
  rw [e _ (by simp)]
  simp [EC, List.dropLast_append_of_ne_nil]
theorem pop_eq (ps : List PI) {r : PI} (hr : Bd r) : ∀ (st : List PI) (n : Nat), (∀ p ∈ st, Bd p) → st.length < n → whileD tCh (bPop 1) n (EC ps st (some (.val (pD r)))) = some (.nx (EC ps (Hull.popR st r) (some (.val (pD r)))))
  | st, 0, _, h => absurd h (by omega)
  | [], n + 1, _, _ => by
    unfold whileD
    rw [tCh_few ps [] _ (by simp)]
    rfl
  | [b], n + 1, _, _ => by
    unfold whileD
    rw [tCh_few ps [b] _ (by simp)]
    rfl
  | b :: a :: st, n + 1, hb, h => by
    unfold whileD
    rw [tCh_two ps st (hb a (by simp)) (hb b (by simp)) hr]
    unfold Hull.popR
    by_cases hc : Hull.cr a b r ≤ 0
    · rw [decide_eq_true hc, if_pos hc]
      simp only [bPop_eq]
      exact pop_eq ps hr (a :: st) n (fun p hp => hb p (List.mem_cons_of_mem _ hp)) (by simp at h ⊢; omega)
    · rw [decide_eq_false hc, if_neg hc]
theorem popR_len (r : PI) : ∀ st : List PI, (Hull.popR st r).length ≤ st.length
  | [] => Nat.le_refl _
  | [_] => Nat.le_refl _
  | b :: a :: st => by
    unfold Hull.popR
    split
    · exact Nat.le_succ_of_le (popR_len r (a :: st))
    · exact Nat.le_refl _
theorem popR_mem (r : PI) : ∀ (st : List PI) (p : PI), p ∈ Hull.popR st r → p ∈ st
  | [], p, h => h
  | [_], p, h => h
  | b :: a :: st, p, h => by
    unfold Hull.popR at h
    split at h
    · exact List.mem_cons_of_mem _ (popR_mem r (a :: st) p h)
    · exact h
theorem app_eq (ps st : List PI) (r : PI) (h : st.length < 1000000) : bApp 1 (eVar 2) (EC ps st (some (.val (pD r)))) = some (.nx (EC ps (r :: st) (some (.val (pD r))))) := by
  have e : bApp 1 (eVar 2) (EC ps st (some (.val (pD r)))) = if small (st.reverse.map pD).length then some (.nx [some (.val (.lst (ps.map pD))), some (.own (st.reverse.map pD ++ [pD r])), some (.val (pD r))]) else none := rfl
  rw [e, small_le (by simp; omega)]
  simp [EC]
theorem chain_loop (ps : List PI) : ∀ (pts st : List PI) (o : Option DS), (∀ p ∈ pts, Bd p) → (∀ p ∈ st, Bd p) → st.length + pts.length < 1000 →
    ∃ o', forD (gN 2) (bSeq (bWhile fuel tCh (bPop 1)) (bApp 1 (eVar 2))) (pts.map pD) (EC ps st o) = some (.nx (EC ps (pts.foldl (fun st r => r :: Hull.popR st r) st) o'))
  | [], st, o, _, _, _ => ⟨o, rfl⟩
  | r :: pts, st, o, hp, hs, hl => by
    have hr := hp r List.mem_cons_self
    have hl2 := popR_len r st
    simp only [List.length_cons] at hl
    obtain ⟨o', h⟩ := chain_loop ps pts (r :: Hull.popR st r) (some (.val (pD r))) (fun p hp' => hp p (List.mem_cons_of_mem _ hp')) (fun p hp' => by
      rcases List.mem_cons.mp hp' with e | hp'
      · rw [e]; exact hr
      · exact hs p (popR_mem r st p hp')) (by simp only [List.length_cons]; omega)
    refine ⟨o', Eq.trans ?_ h⟩
    refine forD_cons (δ1 := EC ps st (some (.val (pD r)))) rfl ?_
    show (match whileD tCh (bPop 1) fuel (EC ps st (some (.val (pD r)))) with | some (.nx δ') => bApp 1 (eVar 2) δ' | r => r) = _
    rw [pop_eq ps hr st fuel hs (by unfold fuel; omega)]
    exact app_eq ps _ r (by omega)
theorem chain_eq {pts : List PI} (hp : ∀ p ∈ pts, Bd p) (hl : pts.length < 1000) : F_chain [.lst (pts.map pD)] = some (.ok (.lst ((Hull.chainR pts).reverse.map pD))) := by
  obtain ⟨o', h⟩ := chain_loop pts pts [] none hp (fun p hp => nomatch hp) (by simpa using hl)
  show (match (match forD (gN 2) (bSeq (bWhile fuel tCh (bPop 1)) (bApp 1 (eVar 2))) (pts.map pD) (EC pts [] none) with | some (.nx δ') => bFreezeM 1 (bRet (eVar 1)) δ' | r => r) with | some (.ret d) => some (Except.ok d) | some (.nx _) => some (.ok .non) | some (.exc c _) => some (.error c) | _ => none : R D) = _
  rw [h]
  rfl

def ord (ps : List PI) : List PI := (sortP (ps.map fun p => (p.2, p.1))).map fun p => (p.2, p.1)
theorem ord_mem {ps : List PI} {q : PI} : q ∈ ord ps ↔ q ∈ ps := by
  unfold ord
  constructor
  · intro h
    obtain ⟨x, hx, e⟩ := List.mem_map.mp h
    obtain ⟨y, hy, e2⟩ := List.mem_map.mp (mem_sortP.mp hx)
    rw [← e, ← e2]
    exact hy
  · intro h
    exact List.mem_map.mpr ⟨(q.2, q.1), mem_sortP.mpr (List.mem_map.mpr ⟨q, h, rfl⟩), rfl⟩
theorem ord_sorted (ps : List PI) : (ord ps).Pairwise Hull.Lx := List.pairwise_map.mpr ((sortP_sorted _).imp fun h => h)
theorem insP_len (p : PI) : ∀ l : List PI, (insP p l).length ≤ l.length + 1
  | [] => by simp [insP]
  | q :: l => by
    unfold insP
    split
    · simp
    · split
      · simp
      · simp; exact insP_len p l
theorem sortP_len : ∀ l : List PI, (sortP l).length ≤ l.length
  | [] => by simp [sortP]
  | p :: l => by
    unfold sortP
    have := insP_len p (sortP l)
    have := sortP_len l
    simp
    omega
theorem ord_len (ps : List PI) : (ord ps).length ≤ ps.length := by
  unfold ord
  have := sortP_len (ps.map fun p => (p.2, p.1))
  simpa using this
theorem sl_last (xs : List PI) : slD (.lst (xs.map pD)) none (some (-1)) = some (.ok (.lst (xs.dropLast.map pD))) := by
  have e : slD (.lst (xs.map pD)) none (some (-1)) = some (.ok (.lst (((xs.map pD).drop 0).take (((-1 : Int) + ((xs.map pD).length : Int)).toNat - 0)))) := rfl
  have k : ((-1 : Int) + ((xs.map pD).length : Int)).toNat - 0 = xs.length - 1 := by rw [List.length_map]; omega
  rw [e, List.drop_zero, List.dropLast_eq_take, k, List.map_take]
theorem sl_take (xs : List PI) (k : Nat) : slD (.lst (xs.map pD)) none (some (k : Int)) = some (.ok (.lst ((xs.take k).map pD))) := by
  have e : slD (.lst (xs.map pD)) none (some (k : Int)) = some (.ok (.lst (((xs.map pD).drop 0).take (HT.sIx (xs.map pD).length (xs.map pD).length (some (k : Int)) - 0)))) := rfl
  rw [e, List.drop_zero, HT.sIx_nat, ← List.map_take, List.length_map]
  by_cases h : k ≤ xs.length
  · rw [show min k xs.length - 0 = k by omega]
  · rw [show min k xs.length - 0 = xs.length by omega, List.take_length, List.take_of_length_le (by omega)]
def sw (p : PI) : PI := (p.2, p.1)
theorem lc_small {δ : DEnv} {vs : List Nat} {g : D → DEnv → Option DEnv} {e : DEnv → R D} {src : DEnv → R (List D)} (ps : List PI) (f : PI → D) (hs : src δ = some (.ok (ps.map pD))) (hl : ps.length ≤ 1000000)
    (h : ∀ x ∈ ps, ∃ δ1, g (pD x) (wipeD (strip δ) vs) = some δ1 ∧ e δ1 = some (.ok (f x))) : eLC src vs g tYesD e δ = some (.ok (.lst (ps.map f))) := by
  unfold eLC
  rw [hs, R.bind_ok, small_le (by simpa using hl), if_pos rfl, lcD_map pD f ps h]
theorem chain_len : ∀ pts st : List PI, (pts.foldl (fun st r => r :: Hull.popR st r) st).length ≤ st.length + pts.length
  | [], st => Nat.le_refl _
  | r :: pts, st => by
    have h := chain_len pts (r :: Hull.popR st r)
    have h2 := popR_len r st
    simp only [List.length_cons] at h ⊢
    show (pts.foldl _ (r :: Hull.popR st r)).length ≤ _
    omega
theorem hull_eq {ps : List PI} (hp : ∀ p ∈ ps, Bd p) (hl : ps.length < 64) :
    F_hull_of [.lst (ps.map pD)] = if (Hull.hullP (ord ps)).length < 3 then some (.error "NoHalves") else some (.ok (.lst ((Hull.hullP (ord ps)).map pD))) := by
  have bo : ∀ p ∈ ord ps, Bd p := fun p h => hp p (ord_mem.mp h)
  have lo := ord_len ps
  have e1 : eLC (iD (eVar 0)) [3, 2] (gT (gsCons (gN 3) (gsCons (gN 2) gsNil))) tYesD (eTup (aCons (eVar 2) (aCons (eVar 3) aNil))) [some (.val (.lst (ps.map pD))), none, none, none, none] = some (.ok (.lst (ps.map fun p => pD (sw p)))) :=
    lc_small ps _ rfl (by omega) fun x _ => ⟨_, rfl, rfl⟩
  have e2 : sortSetD (.lst (ps.map fun p => pD (sw p))) = some (.ok (.lst ((sortP (ps.map sw)).map pD))) := by
    have : (ps.map fun p => pD (sw p)) = (ps.map sw).map pD := by rw [List.map_map]; rfl
    unfold sortSetD
    simp only
    rw [this, pairsD_pD]
    simp only
    rw [if_pos (by simpa using hl)]
  have e3 : eLC (iD (eUn sortSetD (eLC (iD (eVar 0)) [3, 2] (gT (gsCons (gN 3) (gsCons (gN 2) gsNil))) tYesD (eTup (aCons (eVar 2) (aCons (eVar 3) aNil)))))) [2, 3] (gT (gsCons (gN 2) (gsCons (gN 3) gsNil))) tYesD (eTup (aCons (eVar 3) (aCons (eVar 2) aNil))) [some (.val (.lst (ps.map pD))), none, none, none, none] =
      some (.ok (.lst ((ord ps).map pD))) := by
    have := lc_small (δ := [some (.val (.lst (ps.map pD))), none, none, none, none]) (vs := [2, 3]) (g := gT (gsCons (gN 2) (gsCons (gN 3) gsNil))) (e := eTup (aCons (eVar 3) (aCons (eVar 2) aNil))) (src := iD (eUn sortSetD (eLC (iD (eVar 0)) [3, 2] (gT (gsCons (gN 3) (gsCons (gN 2) gsNil))) tYesD (eTup (aCons (eVar 2) (aCons (eVar 3) aNil))))))
      (sortP (ps.map sw)) (fun p => pD (sw p)) (by
        show R.bind (R.bind (eLC (iD (eVar 0)) [3, 2] (gT (gsCons (gN 3) (gsCons (gN 2) gsNil))) tYesD (eTup (aCons (eVar 2) (aCons (eVar 3) aNil))) [some (.val (.lst (ps.map pD))), none, none, none, none]) sortSetD) seqD = _
        rw [e1, R.bind_ok, e2]
        rfl) (by have := sortP_len (ps.map sw); simp at this; omega) (fun x _ => ⟨_, rfl, rfl⟩)
    rw [this]
    unfold ord
    rw [List.map_map]
    rfl
  have c1 := chain_eq bo (by omega)
  have c2 := chain_eq (pts := (ord ps).reverse) (fun p h => bo p (List.mem_reverse.mp h)) (by simp; omega)
  have k1 := sl_last (Hull.chainR (ord ps)).reverse
  have k2 := sl_last (Hull.chainR (ord ps).reverse).reverse
  have hlen := Hull.hull_len (ord ps)
  have lens : (Hull.hullP (ord ps)).length ≤ 1000 := by
    have a1 := chain_len (ord ps) []
    have a2 := chain_len (ord ps).reverse []
    simp only [List.length_reverse, List.length_nil] at a1 a2
    rw [hlen]
    unfold Hull.chainR
    omega
  have m1 : eOp addD (eSl (eCall F_chain 1 (aCons (eVar 1) aNil)) oNone (oSome (eUn negD (eC (.int 1))))) (eSl (eCall F_chain 1 (aCons (eUn revD (eVar 1)) aNil)) oNone (oSome (eUn negD (eC (.int 1))))) [some (.val (.lst (ps.map pD))), some (.val (.lst ((ord ps).map pD))), none, none, none] = some (.ok (.lst ((Hull.hullP (ord ps)).map pD))) := by
    show R.bind (R.bind (F_chain [.lst ((ord ps).map pD)]) fun x => slD x none (some (-1))) (fun x => R.bind (R.bind (F_chain [.lst ((ord ps).map pD).reverse]) fun x => slD x none (some (-1))) fun y => addD x y) = _
    rw [← List.map_reverse, c1, c2]
    simp only [R.bind_ok]
    rw [k1, k2]
    simp only [R.bind_ok]
    show (if small (((Hull.chainR (ord ps)).reverse.dropLast.map pD).length + ((Hull.chainR (ord ps).reverse).reverse.dropLast.map pD).length) then some (Except.ok (D.lst ((Hull.chainR (ord ps)).reverse.dropLast.map pD ++ (Hull.chainR (ord ps).reverse).reverse.dropLast.map pD))) else none : R D) = _
    rw [small_le (by simp; omega), if_pos rfl, ← List.map_append]
    rfl
  by_cases hc : (Hull.hullP (ord ps)).length < 3
  · rw [if_pos hc]
    refine runF_exc (δ' := [some (.val (.lst (ps.map pD))), some (.val (.lst ((ord ps).map pD))), none, none, some (.val (.lst ((Hull.hullP (ord ps)).map pD)))]) ?_
    refine (bSeq_nx (bSet_ok e3)).trans ?_
    refine (bSeq_nx (bSet_ok m1)).trans ?_
    refine bSeq_exc ((bIf_t ?_).trans rfl)
    show some (Except.ok (decide ((((Hull.hullP (ord ps)).map pD).length : Int) < 3))) = _
    rw [List.length_map, decide_eq_true (by omega)]
  · rw [if_neg hc]
    refine runF_ret ?_
    refine (bSeq_nx (bSet_ok e3)).trans ?_
    refine (bSeq_nx (bSet_ok m1)).trans ?_
    refine (bSeq_nx (δ' := [some (.val (.lst (ps.map pD))), some (.val (.lst ((ord ps).map pD))), none, none, some (.val (.lst ((Hull.hullP (ord ps)).map pD)))]) ((bIf_f ?_).trans rfl)).trans rfl
    show some (Except.ok (decide ((((Hull.hullP (ord ps)).map pD).length : Int) < 3))) = _
    rw [List.length_map, decide_eq_false (by omega)]
theorem cop_int (n : Nat) (i : Int) : F__law_copied (n + 1) [.int i] = some (.ok (.int i)) := rfl
theorem cop_pair (n : Nat) (p : PI) : F__law_copied (n + 2) [pD p] = some (.ok (pD p)) := rfl
theorem cop_pts (n : Nat) (ps : List PI) (hl : ps.length ≤ 1000) : F__law_copied (n + 3) [.lst (ps.map pD)] = some (.ok (.lst (ps.map pD))) := by
  refine runF_ret (bSeq_ret ((bIf_t rfl).trans (bRet_ok ?_)))
  exact lc_small ps pD rfl (by omega) fun x _ => ⟨_, rfl, cop_pair n x⟩
theorem lc_smallD {δ : DEnv} {vs : List Nat} {g : D → DEnv → Option DEnv} {e : DEnv → R D} {src : DEnv → R (List D)} (ds : List D) (f : D → D) (hs : src δ = some (.ok ds)) (hl : ds.length ≤ 1000000)
    (h : ∀ x ∈ ds, ∃ δ1, g x (wipeD (strip δ) vs) = some δ1 ∧ e δ1 = some (.ok (f x))) : eLC src vs g tYesD e δ = some (.ok (.lst (ds.map f))) := by
  unfold eLC
  have := lcD_map (g := g) (e := e) (δ := wipeD (strip δ) vs) id f ds h
  rw [List.map_id] at this
  rw [hs, R.bind_ok, small_le hl, if_pos rfl, this]
theorem cop_pts2 (n : Nat) (ps : List PI) (hl : ps.length ≤ 1000) : F__law_copied (n + 4) [.lst [.lst (ps.map pD)]] = some (.ok (.lst [.lst (ps.map pD)])) := by
  refine runF_ret (bSeq_ret ((bIf_t rfl).trans (bRet_ok ?_)))
  refine (lc_smallD [.lst (ps.map pD)] id rfl (by simp) fun x hx => ?_).trans rfl
  have e : x = .lst (ps.map pD) := by simpa using hx
  subst e
  exact ⟨_, rfl, cop_pts n ps hl⟩
theorem kept_eq {ps : List PI} (hp : ∀ p ∈ ps, Bd p) (hl : ps.length < 64) :
    F__law_kept_hull_of [.lst (ps.map pD)] = if (Hull.hullP (ord ps)).length < 3 then some (.error "NoHalves") else some (.ok (.lst ((Hull.hullP (ord ps)).map pD))) := by
  have c := cop_pts2 2 ps (by omega)
  have h := hull_eq hp hl
  have s1 : bSet (gN 1) (eCall (F__law_copied 6) 1 (aCons (eLst (aCons (eVar 0) aNil)) aNil)) [some (.val (.lst (ps.map pD))), none, none] = some (.nx [some (.val (.lst (ps.map pD))), some (.val (.lst [.lst (ps.map pD)])), none]) := bSet_ok (i := 1) c
  by_cases hc : (Hull.hullP (ord ps)).length < 3
  · rw [if_pos hc] at h ⊢
    refine runF_exc (δ' := [some (.val (.lst (ps.map pD))), some (.val (.lst [.lst (ps.map pD)])), none]) ?_
    refine (bSeq_nx s1).trans (bSeq_exc (bSet_err ?_))
    exact h
  · rw [if_neg hc] at h ⊢
    refine runF_ret ((bSeq_nx s1).trans ((bSeq_nx (bSet_ok (i := 2) (d := .lst ((Hull.hullP (ord ps)).map pD)) h)).trans (bRet_ok ?_)))
    show R.bind (R.bind (R.bind (F__law_copied 6 [.lst [.lst (ps.map pD)]]) fun x => eqD x (.lst [.lst (ps.map pD)])) toB) (fun c => if c then some (Except.ok (D.lst ((Hull.hullP (ord ps)).map pD))) else some (Except.ok (D.str "changed"))) = _
    rw [c, R.bind_ok, eqD_refl2]
    rfl
theorem alike_int (n : Nat) (i j : Int) : F__law_alike (n + 1) [.int i, .int j] = some (.ok (.bl (i == j))) := rfl
theorem alike_pairF (Fr : List D → R D) (p q : PI) (b0 b1 : Bool) (h0 : Fr [.int p.1, .int q.1] = some (.ok (.bl b0))) (h1 : Fr [.int p.2, .int q.2] = some (.ok (.bl b1))) : runF 3 (B__law_alike Fr) [pD p, pD q] = some (.ok (.bl (b0 && b1))) := by
  refine runF_ret ?_
  refine (bSeq_ret (d := .bl (b0 && b1)) ((bIf_t rfl).trans ((bSeq_nx (bIf_f rfl)).trans (bRet_ok ?_))))
  have k : lcD (gN 2) (tNotD (tVal (eCall Fr 2 (aCons (eOp ixD (eVar 0) (eVar 2)) (aCons (eOp ixD (eVar 1) (eVar 2)) aNil))))) (eVar 2) [some (.val (pD p)), some (.val (pD q)), none] [.int 0, .int 1] = some ((if b0 then [] else [.int 0]) ++ (if b1 then [] else [.int 1])) := by
    have t0 : tNotD (tVal (eCall Fr 2 (aCons (eOp ixD (eVar 0) (eVar 2)) (aCons (eOp ixD (eVar 1) (eVar 2)) aNil)))) [some (.val (pD p)), some (.val (pD q)), some (.val (.int 0))] = some (.ok (!b0)) := by
      show R.bind (R.bind (Fr [.int p.1, .int q.1]) toB) (fun c => some (Except.ok (!c))) = _
      rw [h0]; rfl
    have t1 : tNotD (tVal (eCall Fr 2 (aCons (eOp ixD (eVar 0) (eVar 2)) (aCons (eOp ixD (eVar 1) (eVar 2)) aNil)))) [some (.val (pD p)), some (.val (pD q)), some (.val (.int 1))] = some (.ok (!b1)) := by
      show R.bind (R.bind (Fr [.int p.2, .int q.2]) toB) (fun c => some (Except.ok (!c))) = _
      rw [h1]; rfl
    have g0 : gN 2 (.int 0) [some (.val (pD p)), some (.val (pD q)), none] = some [some (.val (pD p)), some (.val (pD q)), some (.val (.int 0))] := rfl
    have g1 : gN 2 (.int 1) [some (.val (pD p)), some (.val (pD q)), none] = some [some (.val (pD p)), some (.val (pD q)), some (.val (.int 1))] := rfl
    unfold lcD
    rw [g0]
    simp only [t0]
    unfold lcD
    rw [g1]
    simp only [t1]
    cases b0 <;> cases b1 <;> rfl
  refine (eAnd_t rfl).trans (eOp_ok (eCB_ok (aCons_ok (eLC_ok (xs := [.int 0, .int 1]) (iRange1_ok 2 rfl (by decide)) (by simp) k) rfl) rfl) rfl ?_)
  cases b0 <;> cases b1 <;> rfl
theorem alike_succ (n : Nat) (l : List D) : F__law_alike (n + 1) l = runF 3 (B__law_alike (F__law_alike n)) l := rfl
theorem alike_pair (n : Nat) (p q : PI) : F__law_alike (n + 1 + 1) [pD p, pD q] = some (.ok (.bl (decide (p = q)))) := by
  have h := alike_pairF (F__law_alike (n + 1)) p q _ _ (alike_int n p.1 q.1) (alike_int n p.2 q.2)
  suffices k : ((p.1 == q.1) && (p.2 == q.2)) = decide (p = q) by
    rw [← k]
    exact (alike_succ (n + 1) [pD p, pD q]).trans h
  by_cases e : p = q
  · subst e; simp
  · rw [decide_eq_false e]
    apply Bool.eq_false_iff.mpr
    intro z
    obtain ⟨a, b⟩ := Bool.and_eq_true_iff.mp z
    exact e (Prod.ext (by simpa using a) (by simpa using b))
theorem cell_eq (ns : List Int) : ∃ i : Int, F__law_cell [.frz (ns.map D.int), .int 0] = some (.ok (.int i)) := by
  cases ns with
  | nil => exact ⟨0, rfl⟩
  | cons n ns =>
    refine ⟨n, runF_ret (bSeq_ret ((bIf_t ?_).trans (bRet_ok ?_)))⟩
    · refine (tVal_ok (c := true) (eOp_ok rfl rfl ?_))
      show some (Except.ok (D.bl (decide ((0 : Int) < (((n :: ns).map D.int).length : Nat))))) = _
      rw [decide_eq_true (by simp)]
    · exact ixD_frz (k := 0) rfl
def Nums (ns : List Int) : Prop := ns.length ≤ 32 ∧ ∀ n ∈ ns, 0 ≤ n ∧ n < 4096
theorem Nums.app {ns : List Int} (h : Nums ns) (hl : ns.length < 32) (x : Int) : Nums (ns ++ [x.fmod 4096]) := by
  refine ⟨by simp; omega, fun n hn => ?_⟩
  rcases List.mem_append.mp hn with m | m
  · exact h.2 n m
  · have : n = x.fmod 4096 := by simpa using m
    rw [this]
    exact fmod_bd x (by decide)
abbrev EN (cells : List D) (ns : List Int) (o4 o5 o6 o7 : Option DS) : DEnv := [some (.val (.frz cells)), some (.val (.int 1)), some (.val (.int 32)), some (.own (ns.map D.int)), o4, o5, o6, o7]
theorem nums_inner (cells : List D) (c : Int) (ns : List Int) (o4 o6 o7 : Option DS) (h : Nums ns) :
    ∃ (ns' : List Int) (c' : Int), (bIf (tAndD (tVal (eOp gtD (eVar 5) (eC (.int 0)))) (tVal (eOp ltD (eLenO 3) (eVar 2)))) (bSeq (bApp 3 (eOp modD (eCB intD (aCons (eVar 5) aNil)) (eC (.int 4096)))) (bSet (gN 5) (eOp fdivD (eVar 5) (eC (.int 4096))))) bNil) (EN cells ns o4 (some (.val (.int c))) o6 o7) = some (.nx (EN cells ns' o4 (some (.val (.int c'))) o6 o7)) ∧ Nums ns' := by
  have t : tAndD (tVal (eOp gtD (eVar 5) (eC (.int 0)))) (tVal (eOp ltD (eLenO 3) (eVar 2))) (EN cells ns o4 (some (.val (.int c))) o6 o7) = some (.ok (decide (0 < c) && decide (((ns.map D.int).length : Int) < 32))) := tAnd_ok (tVal_ok rfl) fun _ => tVal_ok rfl
  by_cases hb : (decide (0 < c) && decide (((ns.map D.int).length : Int) < 32)) = true
  · rw [hb] at t
    have hl : ns.length < 32 := by
      have := of_decide_eq_true (Bool.and_eq_true_iff.mp hb).2
      simp at this
      omega
    refine ⟨ns ++ [c.fmod 4096], c.fdiv 4096, (bIf_t t).trans ?_, h.app hl c⟩
    refine (bSeq_nx (bApp_ok rfl (eOp_ok (eCB_ok (aCons_ok rfl rfl) rfl) rfl (modD_ok (by decide))) (by simp; omega))).trans ?_
    refine (bSet_ok (d := .int (c.fdiv 4096)) (eOp_ok rfl rfl (fdivD_ok (by decide) (by decide)))).trans ?_
    simp [EN]
  · rw [Bool.not_eq_true _ |>.mp hb] at t
    exact ⟨ns, c, bIf_f t, h⟩
abbrev bIn : DEnv → Option SR := bFor (iRange1 (aCons (eC (.int 60)) aNil)) (gN 6) (bIf (tAndD (tVal (eOp gtD (eVar 5) (eC (.int 0)))) (tVal (eOp ltD (eLenO 3) (eVar 2)))) (bSeq (bApp 3 (eOp modD (eCB intD (aCons (eVar 5) aNil)) (eC (.int 4096)))) (bSet (gN 5) (eOp fdivD (eVar 5) (eC (.int 4096))))) bNil)
theorem nums_big (cells : List D) (c : Int) (ns : List Int) (o4 o6 o7 : Option DS) (h : Nums ns) : ∃ (ns' : List Int) (c' : Int) (o6' : Option DS), bIn (EN cells ns o4 (some (.val (.int c))) o6 o7) = some (.nx (EN cells ns' o4 (some (.val (.int c'))) o6' o7)) ∧ Nums ns' := by
  obtain ⟨δ', e, ns', c', o6', rfl, h'⟩ := forD_inv (g := gN 6) (b := bIf (tAndD (tVal (eOp gtD (eVar 5) (eC (.int 0)))) (tVal (eOp ltD (eLenO 3) (eVar 2)))) (bSeq (bApp 3 (eOp modD (eCB intD (aCons (eVar 5) aNil)) (eC (.int 4096)))) (bSet (gN 5) (eOp fdivD (eVar 5) (eC (.int 4096))))) bNil)
    (fun δ => ∃ (ns' : List Int) (c' : Int) (o6' : Option DS), δ = EN cells ns' o4 (some (.val (.int c'))) o6' o7 ∧ Nums ns') (upto 0 60) _ ⟨ns, c, o6, rfl, h⟩ (fun d hd δ ⟨ns1, c1, o61, e, h1⟩ => by
      subst e
      obtain ⟨ns2, c2, e2, h2⟩ := nums_inner cells c1 ns1 o4 (some (.val d)) o7 h1
      exact ⟨_, _, rfl, e2, ns2, c2, _, rfl, h2⟩)
  exact ⟨ns', c', o6', (bFor_ok (iRange1_ok 60 rfl (by decide))).trans e, h'⟩
abbrev bSm : DEnv → Option SR := bIf (tVal (eOp ltD (eLenO 3) (eVar 2))) (bSeq (bSet (gN 7) (eOp modD (eCB intD (aCons (eOp addD (eOp addD (eOp mulD (eVar 5) (eC (.int 48271))) (eOp mulD (eVar 4) (eC (.int 69621)))) (eC (.int 12345))) aNil)) (eC (.int 2147483647)))) (bSeq (bSet (gN 7) (eOp modD (eCB intD (aCons (eOp addD (eOp mulD (eVar 7) (eC (.int 69621))) (eOp fdivD (eVar 7) (eC (.int 1009)))) aNil)) (eC (.int 1000003)))) (bApp 3 (eOp modD (eCB intD (aCons (eVar 7) aNil)) (eC (.int 4096)))))) bNil
theorem nums_small (cells : List D) (c at_ : Int) (ns : List Int) (o6 o7 : Option DS) (h : Nums ns) (hc : 0 ≤ c) (hc2 : c < 1000000000000000000) (ha : 0 ≤ at_) (ha2 : at_ < 1000) :
    ∃ (ns' : List Int) (o7' : Option DS), bSm (EN cells ns (some (.val (.int at_))) (some (.val (.int c))) o6 o7) = some (.nx (EN cells ns' (some (.val (.int at_))) (some (.val (.int c))) o6 o7')) ∧ Nums ns' := by
  have t : tVal (eOp ltD (eLenO 3) (eVar 2)) (EN cells ns (some (.val (.int at_))) (some (.val (.int c))) o6 o7) = some (.ok (decide (((ns.map D.int).length : Int) < 32))) := tVal_ok rfl
  by_cases hb : (((ns.map D.int).length : Int) < 32)
  · rw [decide_eq_true hb] at t
    have hl : ns.length < 32 := by simp at hb; omega
    have m1 := mulD_ok (i := c) (j := 48271) (m := 60) (n := 17) (by omega) (by decide) (by decide)
    have m2 := mulD_ok (i := at_) (j := 69621) (m := 10) (n := 17) (by omega) (by decide) (by decide)
    let x := (c * 48271 + at_ * 69621 + 12345).fmod 2147483647
    have hx := fmod_bd (c * 48271 + at_ * 69621 + 12345) (j := 2147483647) (by decide)
    have m3 := mulD_ok (i := (c * 48271 + at_ * 69621 + 12345).fmod 2147483647) (j := 69621) (m := 31) (n := 17) (by omega) (by decide) (by decide)
    refine ⟨ns ++ [((x * 69621 + x.fdiv 1009).fmod 1000003).fmod 4096], some (.val (.int ((x * 69621 + x.fdiv 1009).fmod 1000003))), (bIf_t t).trans ?_, h.app hl _⟩
    refine (bSeq_nx (bSet_ok (d := .int x) (eOp_ok (eCB_ok (aCons_ok (eOp_ok (eOp_ok (eOp_ok rfl rfl m1) (eOp_ok rfl rfl m2) rfl) rfl rfl) rfl) rfl) rfl (modD_ok (by decide))))).trans ?_
    refine (bSeq_nx (bSet_ok (d := .int ((x * 69621 + x.fdiv 1009).fmod 1000003)) (eOp_ok (eCB_ok (aCons_ok (eOp_ok (eOp_ok rfl rfl m3) (eOp_ok rfl rfl (fdivD_ok (by decide) (by decide))) rfl) rfl) rfl) rfl (modD_ok (by decide))))).trans ?_
    refine (bApp_ok rfl (eOp_ok (eCB_ok (aCons_ok rfl rfl) rfl) rfl (modD_ok (by decide))) (by simp; omega)).trans ?_
    simp [EN, x]
  · rw [decide_eq_false hb] at t
    exact ⟨ns, o7, bIf_f t, h⟩
theorem numbers_eq (xs : List Int) (hx : xs.length ≤ 63) : ∃ ns : List Int, F__law_numbers [.frz (xs.map D.int), .int 1, .int 32] = some (.ok (.lst (ns.map D.int))) ∧ Nums ns := by
  obtain ⟨δ', e, ns', o4, o5, o6, o7, rfl, h'⟩ := forD_inv (g := gN 4) (b := bSeq (bSet (gN 5) (eCB absD (aCons (eOp ixD (eVar 0) (eVar 4)) aNil))) (bIf (tVal (eOp geD (eVar 5) (eC (.int 1000000000000000000)))) bIn bSm))
    (fun δ => ∃ (ns' : List Int) (o4 o5 o6 o7 : Option DS), δ = EN (xs.map D.int) ns' o4 o5 o6 o7 ∧ Nums ns') (upto 1 (((xs.map D.int).length : Int) - 1).toNat) (EN (xs.map D.int) [] none none none none) ⟨[], none, none, none, none, rfl, by simp [Nums]⟩ (fun d hd δ ⟨ns1, o4, o5, o6, o7, e, h1⟩ => by
      subst e
      obtain ⟨i, hi, rfl⟩ := mem_upto hd
      simp only [List.length_map] at hi
      have hlt : 1 + i < xs.length := by omega
      have ha : eCB absD (aCons (eOp ixD (eVar 0) (eVar 4)) aNil) (EN (xs.map D.int) ns1 (some (.val (.int (1 + (i : Nat))))) o5 o6 o7) = some (.ok (.int (if xs[1 + i] < 0 then -xs[1 + i] else xs[1 + i]))) := by
        refine eCB_ok (aCons_ok (eOp_ok rfl rfl ?_) rfl) (absD_ok _)
        rw [show (1 + (i : Int)) = ((1 + i : Nat) : Int) by omega]
        exact ixD_frz (by rw [List.getElem?_map, List.getElem?_eq_getElem hlt]; rfl)
      have hc : 0 ≤ (if xs[1 + i] < 0 then -xs[1 + i] else xs[1 + i]) := by split <;> omega
      generalize (if xs[1 + i] < 0 then -xs[1 + i] else xs[1 + i]) = c at ha hc
      have s1 := bSet_ok (i := 5) ha
      have t : tVal (eOp geD (eVar 5) (eC (.int 1000000000000000000))) (EN (xs.map D.int) ns1 (some (.val (.int (1 + (i : Nat))))) (some (.val (.int c))) o6 o7) = some (.ok (decide ((1000000000000000000 : Int) ≤ c))) := tVal_ok rfl
      by_cases hb : (1000000000000000000 : Int) ≤ c
      · rw [decide_eq_true hb] at t
        obtain ⟨ns2, c2, o62, e2, h2⟩ := nums_big (xs.map D.int) c ns1 (some (.val (.int (1 + (i : Nat))))) o6 o7 h1
        exact ⟨_, _, rfl, (bSeq_nx s1).trans ((bIf_t t).trans e2), ns2, _, _, _, _, rfl, h2⟩
      · rw [decide_eq_false hb] at t
        obtain ⟨ns2, o72, e2, h2⟩ := nums_small (xs.map D.int) c (1 + (i : Nat)) ns1 o6 o7 h1 hc (by omega) (by omega) (by omega)
        exact ⟨_, _, rfl, (bSeq_nx s1).trans ((bIf_f t).trans e2), ns2, _, _, _, _, rfl, h2⟩)
  refine ⟨ns', runF_ret ?_, h'⟩
  refine (bSeq_nx (δ' := EN (xs.map D.int) [] none none none none) rfl).trans ((bSeq_nx ?_).trans (b := bFreezeM 3 (bRet (eVar 3)) (EN (xs.map D.int) ns' o4 o5 o6 o7)) rfl)
  exact (bFor_ok (iRange2_ok 1 ((xs.map D.int).length : Int) rfl (by omega) (by omega) (by omega) (by simp; omega))).trans e
theorem pyAll_ints : ∀ ns : List Int, pyAll (ns.map D.int) = some (ns.map PyData.int)
  | [] => rfl
  | n :: ns => by
    show (match py (.int n), pyAll (ns.map D.int) with | some d, some ds => some (d :: ds) | _, _ => none) = _
    rw [pyAll_ints ns]
    rfl
theorem lay_ints : ∀ ns : List Int, PyData.canLayAll0 (ns.map PyData.int) = true ∧ PyData.depthAll (ns.map PyData.int) = 0
  | [] => ⟨rfl, rfl⟩
  | n :: ns => by
    obtain ⟨h1, h2⟩ := lay_ints ns
    exact ⟨by show (true && PyData.canLayAll0 (ns.map PyData.int)) = true; rw [h1]; rfl, by show max 0 (PyData.depthAll (ns.map PyData.int)) = 0; rw [h2]; rfl⟩
theorem ne_nil (ns : List Int) : neD (.lst (ns.map D.int)) (.lst []) = some (.ok (.bl (!ns.isEmpty))) := by
  have h : py (.lst (ns.map D.int)) = some (.list (ns.map PyData.int)) := by
    show (pyAll (ns.map D.int)).map PyData.list = _
    rw [pyAll_ints]; rfl
  have h2 : py (.lst []) = some (.list []) := rfl
  have sh : SeqAt.shaped (.list (ns.map PyData.int)) = true := by
    show (PyData.canLayAll0 (ns.map PyData.int) && decide (PyData.depthAll (ns.map PyData.int) + 1 ≤ 64)) = true
    rw [(lay_ints ns).1, (lay_ints ns).2]; rfl
  unfold neD
  rw [h, h2]
  simp only
  rw [sh, if_pos (show (true && SeqAt.shaped (.list [])) = true from rfl)]
  cases ns <;> rfl
theorem rng (n : Nat) (h : n < 33) : Builtin.Range.small 1 ((n : Int) - 1) 2 = true ∧ 0 ≤ Builtin.Range.rangeSize 1 ((n : Int) - 1) 2 ∧ ((Builtin.Range.rangeSize 1 ((n : Int) - 1) 2).toNat = 0 ∨ 2 * (Builtin.Range.rangeSize 1 ((n : Int) - 1) 2).toNat < n) := by
  have : ∀ n : Fin 33, Builtin.Range.small 1 (((n : Nat) : Int) - 1) 2 = true ∧ 0 ≤ Builtin.Range.rangeSize 1 (((n : Nat) : Int) - 1) 2 ∧ ((Builtin.Range.rangeSize 1 (((n : Nat) : Int) - 1) 2).toNat = 0 ∨ 2 * (Builtin.Range.rangeSize 1 (((n : Nat) : Int) - 1) 2).toNat < (n : Nat)) := by decide +kernel
  exact this ⟨n, h⟩
def Pts (ps : List PI) : Prop := ps.length ≤ 14 ∧ ∀ p ∈ ps, Bd p
abbrev EK (cells : List D) (ns : List Int) (way : Int) (ps : List PI) (o6 : Option DS) : DEnv := [some (.val (.frz cells)), some (.val (.int 1)), some (.val (.int 14)), some (.val (.lst (ns.map D.int))), some (.val (.int way)), some (.own (ps.map pD)), o6]
theorem way_ok (x : Int) : ∃ w : Int, 0 < w ∧ w ≤ 40000000 ∧ ixD (.lst [.int 1, .int 1, .int 40000000, .int 5]) (.int (x.fmod 4)) = some (.ok (.int w)) := by
  have h := fmod_bd x (j := 4) (by decide)
  generalize x.fmod 4 = y at h
  have : y = 0 ∨ y = 1 ∨ y = 2 ∨ y = 3 := by omega
  rcases this with rfl | rfl | rfl | rfl
  · exact ⟨1, by decide, by decide, rfl⟩
  · exact ⟨1, by decide, by decide, rfl⟩
  · exact ⟨40000000, by decide, by decide, rfl⟩
  · exact ⟨5, by decide, by decide, rfl⟩
abbrev bCo : DEnv → Option SR := bIf (tVal (eOp ltD (eLenO 5) (eVar 2))) (bApp 5 (eTup (aCons (eOp mulD (eOp subD (eOp modD (eCB intD (aCons (eOp ixD (eVar 3) (eVar 6)) aNil)) (eC (.int 9))) (eC (.int 4))) (eVar 4)) (aCons (eOp mulD (eOp subD (eOp modD (eCB intD (aCons (eOp ixD (eVar 3) (eOp addD (eVar 6) (eC (.int 1)))) aNil)) (eC (.int 9))) (eC (.int 4))) (eVar 4)) aNil)))) bNil
theorem corners_loop (cells : List D) (ns : List Int) (hn : Nums ns) (way : Int) (hw : 0 < way) (hw2 : way ≤ 40000000) :
    ∃ (ps : List PI) (o6 : Option DS), bFor (iRange3 (aCons (eC (.int 1)) (aCons (eOp subD (eCB lenD (aCons (eVar 3) aNil)) (eC (.int 1))) (aCons (eC (.int 2)) aNil)))) (gN 6) bCo (EK cells ns way [] none) = some (.nx (EK cells ns way ps o6)) ∧ Pts ps := by
  obtain ⟨r1, r2, r3⟩ := rng ns.length (by have := hn.1; omega)
  obtain ⟨δ', e, ps, o6, rfl, h'⟩ := forD_inv (g := gN 6) (b := bCo) (fun δ => ∃ (ps : List PI) (o6 : Option DS), δ = EK cells ns way ps o6 ∧ Pts ps) (uptoC 1 2 (Builtin.Range.rangeSize 1 ((ns.length : Int) - 1) 2).toNat) (EK cells ns way [] none) ⟨[], none, rfl, by simp [Pts]⟩ (fun d hd δ ⟨ps, o6, e, h1⟩ => by
    subst e
    unfold uptoC at hd
    obtain ⟨i, hi, rfl⟩ := List.mem_map.mp hd
    have hi := List.mem_range.mp hi
    have k1 : 1 + i * 2 < ns.length := by omega
    have k2 : 1 + i * 2 + 1 < ns.length := by omega
    have i1 : ixD (.lst (ns.map D.int)) (.int (1 + (i : Int) * 2)) = some (.ok (.int ns[1 + i * 2])) := by
      rw [show 1 + (i : Int) * 2 = ((1 + i * 2 : Nat) : Int) by omega]
      exact ixD_lst (by rw [List.getElem?_map, List.getElem?_eq_getElem k1]; rfl)
    have i2 : ixD (.lst (ns.map D.int)) (.int (1 + (i : Int) * 2 + 1)) = some (.ok (.int ns[1 + i * 2 + 1])) := by
      rw [show 1 + (i : Int) * 2 + 1 = ((1 + i * 2 + 1 : Nat) : Int) by omega]
      exact ixD_lst (by rw [List.getElem?_map, List.getElem?_eq_getElem k2]; rfl)
    generalize ns[1 + i * 2] = x at i1
    generalize ns[1 + i * 2 + 1] = y at i2
    have bx := fmod_bd x (j := 9) (by decide)
    have by_ := fmod_bd y (j := 9) (by decide)
    have t : tVal (eOp ltD (eLenO 5) (eVar 2)) (EK cells ns way ps (some (.val (.int (1 + (i : Int) * 2))))) = some (.ok (decide (((ps.map pD).length : Int) < 14))) := tVal_ok rfl
    by_cases hb : (((ps.map pD).length : Int) < 14)
    · rw [decide_eq_true hb] at t
      have hl : ps.length < 14 := by simp at hb; omega
      have m1 := mulD_ok (i := x.fmod 9 - 4) (j := way) (m := 3) (n := 26) (by omega) (by omega) (by decide)
      have m2 := mulD_ok (i := y.fmod 9 - 4) (j := way) (m := 3) (n := 26) (by omega) (by omega) (by decide)
      have b1 : ∀ z : Int, 0 ≤ z → z < 9 → ((z - 4) * way).natAbs < 2 ^ 40 := fun z h1 h2 => by
        have : z - 4 = -4 ∨ z - 4 = -3 ∨ z - 4 = -2 ∨ z - 4 = -1 ∨ z - 4 = 0 ∨ z - 4 = 1 ∨ z - 4 = 2 ∨ z - 4 = 3 ∨ z - 4 = 4 := by omega
        rcases this with e | e | e | e | e | e | e | e | e <;> (rw [e]; omega)
      refine ⟨_, _, rfl, (bIf_t t).trans ?_, ps ++ [((x.fmod 9 - 4) * way, (y.fmod 9 - 4) * way)], some (.val (.int (1 + (i : Int) * 2))), rfl, by simp; omega, fun p hp => ?_⟩
      · refine (bApp_ok (x := pD ((x.fmod 9 - 4) * way, (y.fmod 9 - 4) * way)) rfl ?_ (by simp; omega)).trans ?_
        · show R.bind (aCons _ _ _) mkTup = _
          rw [aCons_ok (eOp_ok (eOp_ok (eOp_ok (eCB_ok (aCons_ok (eOp_ok rfl rfl i1) rfl) rfl) rfl (modD_ok (by decide))) rfl rfl) rfl m1) (aCons_ok (eOp_ok (eOp_ok (eOp_ok (eCB_ok (aCons_ok (eOp_ok rfl (eOp_ok rfl rfl rfl) i2) rfl) rfl) rfl (modD_ok (by decide))) rfl rfl) rfl m2) rfl)]
          rfl
        · simp [EK]
      · rcases List.mem_append.mp hp with m | m
        · exact h1.2 p m
        · have e : p = ((x.fmod 9 - 4) * way, (y.fmod 9 - 4) * way) := by simpa using m
          subst e
          exact ⟨b1 _ bx.1 bx.2, b1 _ by_.1 by_.2⟩
    · rw [decide_eq_false hb] at t
      exact ⟨_, _, rfl, bIf_f t, ps, _, rfl, h1⟩)
  refine ⟨ps, o6, (bFor_ok ?_).trans e, h'⟩
  show R.bind (some (Except.ok [D.int 1, D.int (((ns.map D.int).length : Int) - 1), D.int 2])) range3D = _
  rw [List.length_map, R.bind_ok]
  unfold range3D
  simp only
  rw [if_pos ⟨by decide, by decide, r1, r2⟩]
theorem corners_eq (xs : List Int) (hx : xs.length ≤ 63) : ∃ ps : List PI, F__law_corners [.frz (xs.map D.int), .int 1, .int 14] = some (.ok (.lst (ps.map pD))) ∧ Pts ps := by
  obtain ⟨ns, hf, hn⟩ := numbers_eq xs hx
  have m := mulD_ok (i := 2) (j := 14) (m := 2) (n := 4) (by decide) (by decide) (by decide)
  have s1 : bSet (gN 3) (eCall F__law_numbers 3 (aCons (eVar 0) (aCons (eVar 1) (aCons (eOp addD (eOp mulD (eC (.int 2)) (eVar 2)) (eC (.int 4))) aNil)))) [some (.val (.frz (xs.map D.int))), some (.val (.int 1)), some (.val (.int 14)), none, none, none, none] = some (.nx [some (.val (.frz (xs.map D.int))), some (.val (.int 1)), some (.val (.int 14)), some (.val (.lst (ns.map D.int))), none, none, none]) :=
    bSet_ok (i := 3) (eCall_ok (xs := [.frz (xs.map D.int), .int 1, .int 32]) (aCons_ok rfl (aCons_ok rfl (aCons_ok (eOp_ok (eOp_ok rfl rfl m) rfl rfl) rfl))) rfl hf)
  have s2 : ∃ w : Int, 0 < w ∧ w ≤ 40000000 ∧ bIf (tVal (eOp neD (eVar 3) (eLst aNil))) (bSet (gN 4) (eOp ixD (eLst (aCons (eC (.int 1)) (aCons (eC (.int 1)) (aCons (eC (.int 40000000)) (aCons (eC (.int 5)) aNil))))) (eOp modD (eCB intD (aCons (eOp ixD (eVar 3) (eC (.int 0))) aNil)) (eC (.int 4))))) bNil [some (.val (.frz (xs.map D.int))), some (.val (.int 1)), some (.val (.int 14)), some (.val (.lst (ns.map D.int))), some (.val (.int 1)), none, none] =
      some (.nx [some (.val (.frz (xs.map D.int))), some (.val (.int 1)), some (.val (.int 14)), some (.val (.lst (ns.map D.int))), some (.val (.int w)), none, none]) := by
    cases ns with
    | nil => exact ⟨1, by decide, by decide, bIf_f (tVal_ok (eOp_ok rfl rfl (ne_nil [])))⟩
    | cons n ns =>
      obtain ⟨w, w1, w2, w3⟩ := way_ok n
      exact ⟨w, w1, w2, (bIf_t (tVal_ok (eOp_ok rfl rfl (ne_nil (n :: ns))))).trans (bSet_ok (i := 4) (eOp_ok rfl (eOp_ok (eCB_ok (aCons_ok (eOp_ok rfl rfl (ixD_lst (k := 0) rfl)) rfl) rfl) rfl (modD_ok (by decide))) w3))⟩
  obtain ⟨w, w1, w2, s2⟩ := s2
  obtain ⟨ps, o6, s3, h⟩ := corners_loop (xs.map D.int) ns hn w w1 w2
  refine ⟨ps, runF_ret ?_, h⟩
  exact (bSeq_nx s1).trans ((bSeq_nx rfl).trans ((bSeq_nx s2).trans ((bSeq_nx rfl).trans ((bSeq_nx s3).trans rfl))))
end K67
end DL

namespace DL
namespace K67
open PySem
def NE (o : Option DS) : Prop := ∀ c, o ≠ some (.exc c)
theorem NE.val (d : D) : NE (some (.val d)) := fun c h => by cases h
theorem NE.none : NE none := fun c h => by cases h
theorem ne1 {o : Option DS} (h : NE o) : (match o with | some (.exc _) => Option.none | x => x) = o := by
  cases o with
  | none => rfl
  | some s =>
    cases s with
    | val d => rfl
    | own xs => rfl
    | exc c => exact absurd rfl (h c)
abbrev EF (s0 : D) (ps : List PI) (f : Bool) (o2 o4 o5 : Option DS) : DEnv := [some (.val s0), some (.val (.lst (ps.map pD))), o2, some (.val (.bl f)), o4, o5, none, none, none, none, none]
theorem foldl_and {α : Type} (g : α → Bool) : ∀ (xs : List α) (b : Bool), xs.foldl (fun s x => s && g x) b = (b && xs.all g)
  | [], b => by simp
  | x :: xs, b => by
    show xs.foldl _ (b && g x) = _
    rw [foldl_and g xs, List.all_cons, Bool.and_assoc]
abbrev bF3 : DEnv → Option SR := bFor (iD (eVar 1)) (gN 5) (bSet (gN 3) (eAnd (eVar 3) (eOp eqD (eCall F__law_side 3 (aCons (eVar 2) (aCons (eVar 4) (aCons (eVar 5) aNil)))) (eC (.int 0)))))
abbrev bF2 : DEnv → Option SR := bFor (iD (eSl (eVar 1) oNone (oSome (eC (.int 4))))) (gN 4) bF3
abbrev bF1 : DEnv → Option SR := bFor (iD (eVar 1)) (gN 2) bF2
theorem flat3 (s0 : D) {ps : List PI} (hb : ∀ p ∈ ps, Bd p) {p q : PI} (hp : Bd p) (hq : Bd q) (f : Bool) (o5 : Option DS) (h5 : NE o5) :
    ∃ o5', NE o5' ∧ bF3 (EF s0 ps f (some (.val (pD p))) (some (.val (pD q))) o5) = some (.nx (EF s0 ps (f && ps.all fun r => Hull.cr p q r == 0) (some (.val (pD p))) (some (.val (pD q))) o5')) := by
  obtain ⟨δ', e, o5', h, rfl⟩ := forD_fold (g := gN 5) (b := bSet (gN 3) (eAnd (eVar 3) (eOp eqD (eCall F__law_side 3 (aCons (eVar 2) (aCons (eVar 4) (aCons (eVar 5) aNil)))) (eC (.int 0))))) pD
    (fun (s : Bool) δ => ∃ o5', NE o5' ∧ δ = EF s0 ps s (some (.val (pD p))) (some (.val (pD q))) o5') (fun s r => s && (Hull.cr p q r == 0)) ps f _ ⟨o5, h5, rfl⟩ fun r hr s δ ⟨o, _, e⟩ => by
      subst e
      refine ⟨_, _, rfl, bSet_ok (d := .bl (s && (Hull.cr p q r == 0))) (eAnd_bl rfl (eOp_ok (eCall_ok (xs := [pD p, pD q, pD r]) rfl rfl (side_eq hp hq (hb r hr))) rfl (eqD_int _ _))), some (.val (pD r)), NE.val _, rfl⟩
  rw [foldl_and] at e
  exact ⟨o5', h, (bFor_ok rfl).trans e⟩
theorem flat2 (s0 : D) {ps : List PI} (hb : ∀ p ∈ ps, Bd p) {p : PI} (hp : Bd p) (f : Bool) (o4 o5 : Option DS) (h4 : NE o4) (h5 : NE o5) :
    ∃ o4' o5', NE o4' ∧ NE o5' ∧ bF2 (EF s0 ps f (some (.val (pD p))) o4 o5) = some (.nx (EF s0 ps (f && (ps.take 4).all fun q => ps.all fun r => Hull.cr p q r == 0) (some (.val (pD p))) o4' o5')) := by
  obtain ⟨δ', e, o4', o5', h4', h5', rfl⟩ := forD_fold (g := gN 4) (b := bF3) pD
    (fun (s : Bool) δ => ∃ o4' o5', NE o4' ∧ NE o5' ∧ δ = EF s0 ps s (some (.val (pD p))) o4' o5') (fun s q => s && (ps.all fun r => Hull.cr p q r == 0)) (ps.take 4) f _ ⟨o4, o5, h4, h5, rfl⟩ fun q hq s δ ⟨o, o', _, h', e⟩ => by
      subst e
      obtain ⟨o5', h, e⟩ := flat3 s0 hb hp (hb q (List.mem_of_mem_take hq)) s o' h'
      exact ⟨_, _, rfl, e, _, o5', NE.val _, h, rfl⟩
  rw [foldl_and] at e
  have src : iD (eSl (eVar 1) oNone (oSome (eC (.int 4)))) (EF s0 ps f (some (.val (pD p))) o4 o5) = some (.ok ((ps.take 4).map pD)) := by
    show R.bind (slD (.lst (ps.map pD)) none (some 4)) seqD = _
    rw [show (4 : Int) = ((4 : Nat) : Int) from rfl, sl_take]
    rfl
  exact ⟨o4', o5', h4', h5', (bFor_ok src).trans e⟩
theorem flat1 (s0 : D) {ps : List PI} (hb : ∀ p ∈ ps, Bd p) (o2 : Option DS) (h2 : NE o2) :
    ∃ o2' o4' o5', NE o2' ∧ NE o4' ∧ NE o5' ∧ bF1 (EF s0 ps true o2 none none) = some (.nx (EF s0 ps (ps.all fun p => (ps.take 4).all fun q => ps.all fun r => Hull.cr p q r == 0) o2' o4' o5')) := by
  obtain ⟨δ', e, o2', o4', o5', h2', h4', h5', rfl⟩ := forD_fold (g := gN 2) (b := bF2) pD
    (fun (s : Bool) δ => ∃ o2' o4' o5', NE o2' ∧ NE o4' ∧ NE o5' ∧ δ = EF s0 ps s o2' o4' o5') (fun s p => s && ((ps.take 4).all fun q => ps.all fun r => Hull.cr p q r == 0)) ps true _ ⟨o2, none, none, h2, NE.none, NE.none, rfl⟩ fun p hp s δ ⟨o, o', o'', _, h', h'', e⟩ => by
      subst e
      obtain ⟨o4', o5', h4, h5, e⟩ := flat2 s0 hb (hb p hp) s o' o'' h' h''
      exact ⟨_, _, rfl, e, _, o4', o5', NE.val _, h4, h5, rfl⟩
  rw [foldl_and, Bool.true_and] at e
  exact ⟨o2', o4', o5', h2', h4', h5', (bFor_ok rfl).trans e⟩
theorem flat_iff (ps : List PI) : (ps.all fun p => (ps.take 4).all fun q => ps.all fun r => Hull.cr p q r == 0) = true ↔ (Hull.hullP (ord ps)).length < 3 := by
  rw [Hull.hull_flat (ord_sorted ps)]
  constructor
  · intro h
    have h1 : ∀ p ∈ ps, ∀ q ∈ ps.take 4, ∀ r ∈ ps, Hull.cr p q r = 0 := fun p hp q hq r hr => by
      have a := List.all_eq_true.mp h p hp
      have b := List.all_eq_true.mp a q hq
      have c := List.all_eq_true.mp b r hr
      simpa using c
    cases ps with
    | nil => intro p hp; exact absurd (ord_mem.mp hp) (by simp)
    | cons o ps =>
      by_cases hd : ∃ p ∈ o :: ps, p ≠ o
      · obtain ⟨p, hp, hpo⟩ := hd
        exact Hull.coll_of (o := ord (o :: ps)) hpo fun s hs => h1 p hp o (by simp) s (ord_mem.mp hs)
      · have eq : ∀ p ∈ o :: ps, p = o := fun p hp => Decidable.byContradiction fun z => hd ⟨p, hp, z⟩
        intro p hp q hq r hr
        rw [eq p (ord_mem.mp hp), eq q (ord_mem.mp hq)]
        unfold Hull.cr
        grind
  · intro c
    refine List.all_eq_true.mpr fun p hp => List.all_eq_true.mpr fun q hq => List.all_eq_true.mpr fun r hr => ?_
    rw [c p (ord_mem.mpr hp) q (ord_mem.mpr (List.mem_of_mem_take hq)) r (ord_mem.mpr hr)]
    rfl
theorem minP_spec : ∀ (qs : List PI) (m : PI), (minP qs m = m ∨ minP qs m ∈ qs) ∧ ¬ PLt m (minP qs m) ∧ ∀ x ∈ qs, ¬ PLt x (minP qs m)
  | [], m => ⟨.inl rfl, fun h => by unfold PLt minP at h; omega, fun x h => nomatch h⟩
  | q :: qs, m => by
    unfold minP
    obtain ⟨h1, h2, h3⟩ := minP_spec qs (if pless q m then q else m)
    by_cases hc : pless q m = true
    · rw [if_pos hc] at h1 h2 h3 ⊢
      have lt := pless_iff.mp hc
      generalize minP qs q = z at *
      refine ⟨.inr ?_, fun h => ?_, fun x hx => ?_⟩
      · rcases h1 with e | e
        · rw [e]; exact List.mem_cons_self
        · exact List.mem_cons_of_mem _ e
      · exact h2 (by unfold PLt at *; omega)
      · rcases List.mem_cons.mp hx with e | hx
        · rw [e]; exact h2
        · exact h3 x hx
    · rw [if_neg hc] at h1 h2 h3 ⊢
      have lt : ¬ PLt q m := fun h => hc (pless_iff.mpr h)
      generalize minP qs m = z at *
      refine ⟨?_, h2, fun x hx => ?_⟩
      · rcases h1 with e | e
        · exact .inl e
        · exact .inr (List.mem_cons_of_mem _ e)
      · rcases List.mem_cons.mp hx with e | hx
        · subst e; intro h; unfold PLt at *; omega
        · exact h3 x hx
theorem min_least {p : PI} {ps : List PI} {l : PI} (hl : l ∈ p :: ps) (h : ∀ s ∈ p :: ps, s = l ∨ Hull.Lx l s) : minP (ps.map sw) (sw p) = sw l := by
  obtain ⟨h1, h2, h3⟩ := minP_spec (ps.map sw) (sw p)
  have m : ∃ x ∈ p :: ps, minP (ps.map sw) (sw p) = sw x := by
    rcases h1 with e | e
    · exact ⟨p, List.mem_cons_self, e⟩
    · obtain ⟨x, hx, e2⟩ := List.mem_map.mp e
      exact ⟨x, List.mem_cons_of_mem _ hx, e2.symm⟩
  obtain ⟨x, hx, e⟩ := m
  rw [e] at h2 h3 ⊢
  have nl : ¬ PLt (sw l) (sw x) := by
    rcases List.mem_cons.mp hl with z | z
    · rw [z]; exact h2
    · exact h3 _ (List.mem_map_of_mem z)
  rcases h x hx with z | z
  · rw [z]
  · exact absurd (show PLt (sw l) (sw x) from z) nl
abbrev EL (s0 : D) (ps f : List PI) (l : PI) (t : Int) (o2 o4 o5 o10 : Option DS) : DEnv := [some (.val s0), some (.val (.lst (ps.map pD))), o2, some (.val (.bl false)), o4, o5, some (.val (.lst (f.map pD))), none, some (.val (pD l)), some (.val (.int t)), o10]
abbrev bL5 : DEnv → Option SR := bFor (iD (eVar 1)) (gN 5) (bIf (tVal (eOp ltD (eCall F__law_side 3 (aCons (eVar 2) (aCons (eVar 4) (aCons (eVar 5) aNil)))) (eC (.int 0)))) (bRet (eC (.bl false))) bNil)
abbrev bL : DEnv → Option SR := bSeq (bSet (gN 2) (eOp ixD (eVar 6) (eOp subD (eVar 10) (eC (.int 2))))) (bSeq (bSet (gN 4) (eOp ixD (eVar 6) (eOp subD (eVar 10) (eC (.int 1))))) (bSeq (bIf (tOrD (tVal (eOp notInDD (eVar 4) (eVar 1))) (tVal (eOp leD (eCall F__law_side 3 (aCons (eVar 2) (aCons (eVar 4) (aCons (eOp ixD (eVar 6) (eVar 10)) aNil)))) (eC (.int 0))))) (bRet (eC (.bl false))) bNil) (bSeq (bIf (tAndD (tVal (eOp gtD (eOp ixD (eVar 4) (eC (.int 0))) (eOp ixD (eVar 2) (eC (.int 0))))) (tVal (eOp leD (eOp ixD (eOp ixD (eVar 6) (eVar 10)) (eC (.int 0))) (eOp ixD (eVar 4) (eC (.int 0)))))) (bSet (gN 9) (eOp addD (eVar 9) (eC (.int 1)))) bNil) bL5)))
theorem last5 (s0 : D) {ps f : List PI} (hb : ∀ p ∈ ps, Bd p) {p q l : PI} (hp : Bd p) (hq : Bd q) (t : Int) (o5 o10 : Option DS) (h : ∀ s ∈ ps, 0 ≤ Hull.cr p q s) :
    ∃ o5', bL5 (EL s0 ps f l t (some (.val (pD p))) (some (.val (pD q))) o5 o10) = some (.nx (EL s0 ps f l t (some (.val (pD p))) (some (.val (pD q))) o5' o10)) := by
  obtain ⟨δ', e, o5', rfl⟩ := forD_fold (g := gN 5) (b := bIf (tVal (eOp ltD (eCall F__law_side 3 (aCons (eVar 2) (aCons (eVar 4) (aCons (eVar 5) aNil)))) (eC (.int 0)))) (bRet (eC (.bl false))) bNil) pD
    (fun (_ : Unit) δ => ∃ o5', δ = EL s0 ps f l t (some (.val (pD p))) (some (.val (pD q))) o5' o10) (fun _ _ => ()) ps () _ ⟨o5, rfl⟩ fun r hr s δ ⟨o, e⟩ => by
      subst e
      refine ⟨_, _, rfl, (bIf_f (tVal_ok (eOp_ok (eCall_ok (xs := [pD p, pD q, pD r]) rfl rfl (side_eq hp hq (hb r hr))) rfl ?_))).trans rfl, some (.val (pD r)), rfl⟩
      show some (Except.ok (D.bl (decide (Hull.cr p q r < 0)))) = _
      rw [decide_eq_false (by have := h r hr; omega)]
  exact ⟨o5', (bFor_ok rfl).trans e⟩
theorem ix_hull {f : List PI} (k : Nat) (j : Nat) (hj : 0 < j) (hk : k < f.length) (hj2 : j ≤ f.length) : ixD (.lst (f.map pD)) (.int ((k : Int) - (j : Nat))) = some (.ok (pD (f.getD ((k + f.length - j) % f.length) (0, 0)))) := by
  have hm : (k + f.length - j) % f.length < f.length := Nat.mod_lt _ (by omega)
  have get : (f.map pD)[(k + f.length - j) % f.length]? = some (pD (f.getD ((k + f.length - j) % f.length) (0, 0))) := by
    rw [List.getElem?_map, List.getElem?_eq_getElem hm, List.getD_eq_getElem?_getD, List.getElem?_eq_getElem hm]; rfl
  by_cases h : j ≤ k
  · rw [show (k : Int) - (j : Nat) = ((k - j : Nat) : Int) by omega]
    refine ixD_lst ?_
    rw [← get]
    congr 1
    rw [show k + f.length - j = (k - j) + f.length by omega, Nat.add_mod_right, Nat.mod_eq_of_lt (by omega)]
  · rw [show (k : Int) - (j : Nat) = -((j - k : Nat) : Int) by omega]
    unfold ixD
    simp only
    rw [atI_neg _ _ (by omega) (by simp; omega), List.length_map, show f.length - (j - k) = (k + f.length - j) % f.length by rw [Nat.mod_eq_of_lt (by omega)]; omega, get]
theorem last_body (s0 : D) {ps f : List PI} (hb : ∀ p ∈ ps, Bd p) {p q r l : PI} (mp : p ∈ ps) (mq : q ∈ ps) (mr : r ∈ ps) (k : Nat) (s : Int) (a2 a4 a5 : Option DS) (tn : 0 < Hull.cr p q r) (ed : ∀ x ∈ ord ps, 0 ≤ Hull.cr p q x)
    (e1 : ixD (.lst (f.map pD)) (.int ((k : Int) - ((2 : Nat) : Int))) = some (.ok (pD p))) (e2 : ixD (.lst (f.map pD)) (.int ((k : Int) - ((1 : Nat) : Int))) = some (.ok (pD q))) (e3 : ixD (.lst (f.map pD)) (.int (k : Int)) = some (.ok (pD r))) :
    ∃ o5', bL (EL s0 ps f l s a2 a4 a5 (some (.val (.int (k : Int))))) = some (.nx (EL s0 ps f l (if p.1 < q.1 ∧ r.1 ≤ q.1 then s + 1 else s) (some (.val (pD p))) (some (.val (pD q))) o5' (some (.val (.int (k : Int)))))) := by
  have s1 : bSet (gN 2) (eOp ixD (eVar 6) (eOp subD (eVar 10) (eC (.int 2)))) (EL s0 ps f l s a2 a4 a5 (some (.val (.int (k : Int))))) = some (.nx (EL s0 ps f l s (some (.val (pD p))) a4 a5 (some (.val (.int (k : Int)))))) := bSet_ok (i := 2) (eOp_ok rfl (eOp_ok rfl rfl rfl) e1)
  have s2 : bSet (gN 4) (eOp ixD (eVar 6) (eOp subD (eVar 10) (eC (.int 1)))) (EL s0 ps f l s (some (.val (pD p))) a4 a5 (some (.val (.int (k : Int))))) = some (.nx (EL s0 ps f l s (some (.val (pD p))) (some (.val (pD q))) a5 (some (.val (.int (k : Int)))))) := bSet_ok (i := 4) (eOp_ok rfl (eOp_ok rfl rfl rfl) e2)
  have s3 : bIf (tOrD (tVal (eOp notInDD (eVar 4) (eVar 1))) (tVal (eOp leD (eCall F__law_side 3 (aCons (eVar 2) (aCons (eVar 4) (aCons (eOp ixD (eVar 6) (eVar 10)) aNil)))) (eC (.int 0))))) (bRet (eC (.bl false))) bNil (EL s0 ps f l s (some (.val (pD p))) (some (.val (pD q))) a5 (some (.val (.int (k : Int))))) = some (.nx (EL s0 ps f l s (some (.val (pD p))) (some (.val (pD q))) a5 (some (.val (.int (k : Int)))))) := by
    refine (bIf_f ?_).trans rfl
    refine (tOr_ok (c := false) (k := false) (tVal_ok (eOp_ok rfl rfl ?_)) fun _ => tVal_ok (eOp_ok (eCall_ok (xs := [pD p, pD q, pD r]) (aCons_ok rfl (aCons_ok rfl (aCons_ok (eOp_ok rfl rfl e3) rfl))) rfl (side_eq (hb p mp) (hb q mq) (hb r mr))) rfl ?_))
    · rw [notIn_pts, decide_eq_true mq]; rfl
    · show some (Except.ok (D.bl (decide (Hull.cr p q r ≤ 0)))) = _
      rw [decide_eq_false (by omega)]
  have t4 : tAndD (tVal (eOp gtD (eOp ixD (eVar 4) (eC (.int 0))) (eOp ixD (eVar 2) (eC (.int 0))))) (tVal (eOp leD (eOp ixD (eOp ixD (eVar 6) (eVar 10)) (eC (.int 0))) (eOp ixD (eVar 4) (eC (.int 0))))) (EL s0 ps f l s (some (.val (pD p))) (some (.val (pD q))) a5 (some (.val (.int (k : Int))))) = some (.ok (decide (p.1 < q.1) && decide (r.1 ≤ q.1))) :=
    tAnd_ok (tVal_ok rfl) fun _ => tVal_ok (eOp_ok (eOp_ok (eOp_ok rfl rfl e3) rfl rfl) rfl rfl)
  have s4 : bIf (tAndD (tVal (eOp gtD (eOp ixD (eVar 4) (eC (.int 0))) (eOp ixD (eVar 2) (eC (.int 0))))) (tVal (eOp leD (eOp ixD (eOp ixD (eVar 6) (eVar 10)) (eC (.int 0))) (eOp ixD (eVar 4) (eC (.int 0)))))) (bSet (gN 9) (eOp addD (eVar 9) (eC (.int 1)))) bNil (EL s0 ps f l s (some (.val (pD p))) (some (.val (pD q))) a5 (some (.val (.int (k : Int))))) =
      some (.nx (EL s0 ps f l (if p.1 < q.1 ∧ r.1 ≤ q.1 then s + 1 else s) (some (.val (pD p))) (some (.val (pD q))) a5 (some (.val (.int (k : Int)))))) := by
    by_cases hc : p.1 < q.1 ∧ r.1 ≤ q.1
    · rw [decide_eq_true hc.1, decide_eq_true hc.2] at t4
      rw [if_pos hc]
      exact (bIf_t t4).trans rfl
    · have z : (decide (p.1 < q.1) && decide (r.1 ≤ q.1)) = false := by
        apply Bool.eq_false_iff.mpr
        intro z
        obtain ⟨z1, z2⟩ := Bool.and_eq_true_iff.mp z
        exact hc ⟨of_decide_eq_true z1, of_decide_eq_true z2⟩
      rw [z] at t4
      rw [if_neg hc]
      exact (bIf_f t4).trans rfl
  obtain ⟨o5', s5⟩ := last5 (f := f) (l := l) s0 hb (hb p mp) (hb q mq) (if p.1 < q.1 ∧ r.1 ≤ q.1 then s + 1 else s) a5 (some (.val (.int (k : Int)))) fun x hx => ed x (ord_mem.mpr hx)
  exact ⟨o5', (bSeq_nx s1).trans ((bSeq_nx s2).trans ((bSeq_nx s3).trans ((bSeq_nx s4).trans s5)))⟩
theorem pred_iff {n k m : Nat} (hk : k < n) (hm : m < n) : (k + n - 1) % n = m ↔ k = (m + 1) % n := by
  have e1 : (k + n - 1) % n = if k = 0 then n - 1 else k - 1 := by
    split
    · rw [Nat.mod_eq_of_lt (by omega)]; omega
    · rw [show k + n - 1 = (k - 1) + n by omega, Nat.add_mod_right, Nat.mod_eq_of_lt (by omega)]
  have e2 : (m + 1) % n = if m + 1 = n then 0 else m + 1 := by
    split
    · rename_i h; rw [h, Nat.mod_self]
    · exact Nat.mod_eq_of_lt (by omega)
  rw [e1, e2]
  split <;> split <;> omega
theorem count_one {n m : Nat} (hm : m < n) : (List.range n).foldl (fun (s : Int) k => if (k + n - 1) % n = m then s + 1 else s) 0 = 1 := by
  have h0 : (m + 1) % n < n := Nat.mod_lt _ (by omega)
  have key : ∀ j, j ≤ n → (List.range j).foldl (fun (s : Int) k => if (k + n - 1) % n = m then s + 1 else s) 0 = if (m + 1) % n < j then 1 else 0 := by
    intro j
    induction j with
    | zero => intro _; simp
    | succ j ih =>
      intro hj
      rw [List.range_succ, List.foldl_append, ih (by omega)]
      show (if (j + n - 1) % n = m then (if (m + 1) % n < j then (1 : Int) else 0) + 1 else (if (m + 1) % n < j then 1 else 0)) = _
      by_cases h : (j + n - 1) % n = m
      · have := (pred_iff (by omega) hm).mp h
        rw [if_pos h, if_neg (by omega), if_pos (by omega)]
        rfl
      · have : j ≠ (m + 1) % n := fun z => h ((pred_iff (by omega) hm).mpr z)
        rw [if_neg h]
        by_cases h2 : (m + 1) % n < j
        · rw [if_pos h2, if_pos (by omega)]
        · rw [if_neg h2, if_neg (by omega)]
  rw [key n (Nat.le_refl _), if_pos h0]
theorem last_loop (s0 : D) {ps f : List PI} (hb : ∀ p ∈ ps, Bd p) (l : PI) (P : Hull.Poly (ord ps) f) (h3 : 3 ≤ f.length) (hl : f.length < 1000) (o2 o4 o5 : Option DS) :
    ∃ o2' o4' o5' o10', bFor (iRange1 (aCons (eCB lenD (aCons (eVar 6) aNil)) aNil)) (gN 10) bL (EL s0 ps f l 0 o2 o4 o5 none) = some (.nx (EL s0 ps f l 1 o2' o4' o5' o10')) := by
  obtain ⟨m, hm, hiff⟩ := Hull.turn_iff P h3
  have memf : ∀ i, i < f.length → f.getD i (0, 0) ∈ ps := fun i hi => ord_mem.mp (P.sub _ (by rw [List.getD_eq_getElem?_getD, List.getElem?_eq_getElem hi]; exact List.getElem_mem hi))
  let step : Int → Nat → Int := fun s k => if (k + f.length - 1) % f.length = m then s + 1 else s
  obtain ⟨δ', e, o2', o4', o5', o10', rfl⟩ := forD_fold (g := gN 10) (b := bL) (fun k : Nat => D.int (0 + (k : Nat)))
    (fun (s : Int) δ => ∃ o2' o4' o5' o10', δ = EL s0 ps f l s o2' o4' o5' o10') step (List.range f.length) 0 _ ⟨o2, o4, o5, none, rfl⟩ fun k hk s δ ⟨a2, a4, a5, a10, e⟩ => by
      subst e
      have hk := List.mem_range.mp hk
      rw [show (0 : Int) + (k : Nat) = (k : Nat) by omega]
      -- the three places
      have hi : (k + f.length - 2) % f.length < f.length := Nat.mod_lt _ (by omega)
      have hi1 : (k + f.length - 1) % f.length < f.length := Nat.mod_lt _ (by omega)
      have j1 : ((k + f.length - 2) % f.length + 1) % f.length = (k + f.length - 1) % f.length := by rw [Nat.mod_add_mod]; congr 1; omega
      have j2 : ((k + f.length - 2) % f.length + 2) % f.length = k := by rw [Nat.mod_add_mod, show k + f.length - 2 + 2 = k + f.length by omega, Nat.add_mod_right, Nat.mod_eq_of_lt hk]
      have tn := P.turn _ hi
      have ed := P.edge _ hi
      have ti := hiff _ hi
      rw [j1] at tn ed ti
      rw [j2] at tn ti
      have e1 := ix_hull (f := f) k 2 (by decide) hk (by omega)
      have e2 := ix_hull (f := f) k 1 (by decide) hk (by omega)
      have e3 : ixD (.lst (f.map pD)) (.int (k : Int)) = some (.ok (pD (f.getD k (0, 0)))) := ixD_lst (by rw [List.getElem?_map, List.getElem?_eq_getElem hk, List.getD_eq_getElem?_getD, List.getElem?_eq_getElem hk]; rfl)
      have mp := memf _ hi
      have mq := memf _ hi1
      have mr := memf _ hk
      obtain ⟨o5', eb⟩ := last_body (l := l) s0 hb mp mq mr k s a2 a4 a5 tn ed e1 e2 e3
      have : step s k = (if (f.getD ((k + f.length - 2) % f.length) (0, 0)).1 < (f.getD ((k + f.length - 1) % f.length) (0, 0)).1 ∧ (f.getD k (0, 0)).1 ≤ (f.getD ((k + f.length - 1) % f.length) (0, 0)).1 then s + 1 else s) := by
        show (if (k + f.length - 1) % f.length = m then s + 1 else s) = _
        by_cases z : (k + f.length - 1) % f.length = m
        · rw [if_pos z, if_pos (ti.mpr z)]
        · rw [if_neg z, if_neg (fun h => z (ti.mp h))]
      rw [← this] at eb
      exact ⟨_, _, rfl, eb, _, _, _, _, rfl⟩
  have one : (List.range f.length).foldl step 0 = 1 := count_one hm
  rw [one] at e
  exact ⟨o2', o4', o5', o10', (bFor_ok (iRange1_ok f.length (by show some (Except.ok [D.int (((f.map pD).length : Nat) : Int)]) = _; rw [List.length_map]) (by omega))).trans e⟩
theorem noExc_id : ∀ {δ : DEnv}, (∀ o ∈ δ, NE o) → noExc δ = δ
  | [], _ => rfl
  | o :: δ, h => by
    have ih := noExc_id (δ := δ) fun x hx => h x (List.mem_cons_of_mem _ hx)
    have h0 := h o List.mem_cons_self
    unfold noExc at ih ⊢
    rw [List.map_cons, ih]
    congr 1
    cases o with
    | none => rfl
    | some s =>
      cases s with
      | val d => rfl
      | own xs => rfl
      | exc c => exact absurd rfl (h0 c)
theorem noExc_EF (s0 : D) (ps : List PI) (f : Bool) {o2 o4 o5 : Option DS} (h2 : NE o2) (h4 : NE o4) (h5 : NE o5) : noExc (EF s0 ps f o2 o4 o5) = EF s0 ps f o2 o4 o5 := by
  refine noExc_id fun o ho => ?_
  simp only [EF, List.mem_cons, List.not_mem_nil, or_false] at ho
  rcases ho with rfl | rfl | rfl | rfl | rfl | rfl | rfl | rfl | rfl | rfl | rfl <;> first | assumption | exact NE.val _ | exact NE.none
abbrev E0 (s0 : D) (ps : List PI) : DEnv := [some (.val s0), some (.val (.lst (ps.map pD))), none, none, none, none, none, none, none, none, none]
theorem pts_stage (xs : List Int) (hx : xs.length ≤ 63) (rest : DEnv → Option SR) : ∃ ps : List PI, Pts ps ∧
    bSeq (bSet (gN 1) (eCall F__law_corners 3 (aCons (eVar 0) (aCons (eC (.int 1)) (aCons (eC (.int 14)) aNil))))) (bSeq (bIf (tVal (eOp eqD (eOp modD (eCB intD (aCons (eCall F__law_cell 2 (aCons (eVar 0) (aCons (eC (.int 0)) aNil))) aNil)) (eC (.int 5))) (eC (.int 0)))) (bSet (gN 1) (eLC (iD (eVar 1)) [2] (gN 2) tYesD (eTup (aCons (eOp ixD (eVar 2) (eC (.int 0))) (aCons (eOp ixD (eVar 2) (eC (.int 0))) aNil))))) bNil)
      (bSeq (bIf (tVal (eOp eqD (eOp modD (eCB intD (aCons (eCall F__law_cell 2 (aCons (eVar 0) (aCons (eC (.int 0)) aNil))) aNil)) (eC (.int 5))) (eC (.int 1)))) (bSet (gN 1) (eSl (eVar 1) oNone (oSome (eOp modD (eCB intD (aCons (eOp fdivD (eCall F__law_cell 2 (aCons (eVar 0) (aCons (eC (.int 0)) aNil))) (eC (.int 8))) aNil)) (eC (.int 4)))))) bNil) rest))
      [some (.val (.frz (xs.map D.int))), none, none, none, none, none, none, none, none, none, none] = rest (E0 (.frz (xs.map D.int)) ps) := by
  obtain ⟨ps, h1, hp⟩ := corners_eq xs hx
  obtain ⟨i, hc⟩ := cell_eq xs
  have s1 : bSet (gN 1) (eCall F__law_corners 3 (aCons (eVar 0) (aCons (eC (.int 1)) (aCons (eC (.int 14)) aNil)))) [some (.val (.frz (xs.map D.int))), none, none, none, none, none, none, none, none, none, none] = some (.nx (E0 (.frz (xs.map D.int)) ps)) :=
    bSet_ok (i := 1) (d := .lst (ps.map pD)) (eCall_ok (xs := [.frz (xs.map D.int), .int 1, .int 14]) rfl rfl h1)
  have t : ∀ (ps : List PI) (j : Int), tVal (eOp eqD (eOp modD (eCB intD (aCons (eCall F__law_cell 2 (aCons (eVar 0) (aCons (eC (.int 0)) aNil))) aNil)) (eC (.int 5))) (eC (.int j))) (E0 (.frz (xs.map D.int)) ps) = some (.ok (i.fmod 5 == j)) := fun ps j => by
    have c1 : eCall F__law_cell 2 (aCons (eVar 0) (aCons (eC (.int 0)) aNil)) (E0 (.frz (xs.map D.int)) ps) = some (.ok (.int i)) := eCall_ok (xs := [.frz (xs.map D.int), .int 0]) rfl rfl hc
    exact tVal_ok (eOp_ok (eOp_ok (eCB_ok (aCons_ok c1 rfl) rfl) rfl (modD_ok (by decide))) rfl (eqD_int _ _))
  have s2 : ∃ ps2 : List PI, Pts ps2 ∧ bIf (tVal (eOp eqD (eOp modD (eCB intD (aCons (eCall F__law_cell 2 (aCons (eVar 0) (aCons (eC (.int 0)) aNil))) aNil)) (eC (.int 5))) (eC (.int 0)))) (bSet (gN 1) (eLC (iD (eVar 1)) [2] (gN 2) tYesD (eTup (aCons (eOp ixD (eVar 2) (eC (.int 0))) (aCons (eOp ixD (eVar 2) (eC (.int 0))) aNil))))) bNil (E0 (.frz (xs.map D.int)) ps) = some (.nx (E0 (.frz (xs.map D.int)) ps2)) := by
    have t0 := t ps 0
    by_cases hb : (i.fmod 5 == 0) = true
    · rw [hb] at t0
      refine ⟨ps.map fun p => (p.1, p.1), ⟨by simpa using hp.1, fun p hp' => ?_⟩, (bIf_t t0).trans ?_⟩
      · obtain ⟨q, hq, e⟩ := List.mem_map.mp hp'
        rw [← e]
        exact ⟨(hp.2 q hq).1, (hp.2 q hq).1⟩
      · refine (bSet_ok (lc_small ps (fun p => pD (p.1, p.1)) rfl (by have := hp.1; omega) fun x _ => ⟨_, rfl, rfl⟩)).trans ?_
        show some (SR.nx [_, some (.val (.lst (ps.map fun p => pD (p.1, p.1)))), _, _, _, _, _, _, _, _, _]) = _
        rw [show (ps.map fun p => pD (p.1, p.1)) = (ps.map fun p : PI => (p.1, p.1)).map pD by rw [List.map_map]; rfl]
    · rw [Bool.not_eq_true _ |>.mp hb] at t0
      exact ⟨ps, hp, bIf_f t0⟩
  obtain ⟨ps2, hp2, s2⟩ := s2
  have s3 : ∃ ps3 : List PI, Pts ps3 ∧ bIf (tVal (eOp eqD (eOp modD (eCB intD (aCons (eCall F__law_cell 2 (aCons (eVar 0) (aCons (eC (.int 0)) aNil))) aNil)) (eC (.int 5))) (eC (.int 1)))) (bSet (gN 1) (eSl (eVar 1) oNone (oSome (eOp modD (eCB intD (aCons (eOp fdivD (eCall F__law_cell 2 (aCons (eVar 0) (aCons (eC (.int 0)) aNil))) (eC (.int 8))) aNil)) (eC (.int 4)))))) bNil (E0 (.frz (xs.map D.int)) ps2) = some (.nx (E0 (.frz (xs.map D.int)) ps3)) := by
    have t0 := t ps2 1
    by_cases hb : (i.fmod 5 == 1) = true
    · rw [hb] at t0
      refine ⟨ps2.take ((i.fdiv 8).fmod 4).toNat, ⟨by have := hp2.1; simp; omega, fun p hp' => hp2.2 p (List.mem_of_mem_take hp')⟩, (bIf_t t0).trans (bSet_ok (i := 1) ?_)⟩
      have b := fmod_bd (i.fdiv 8) (j := 4) (by decide)
      have ke : eOp modD (eCB intD (aCons (eOp fdivD (eCall F__law_cell 2 (aCons (eVar 0) (aCons (eC (.int 0)) aNil))) (eC (.int 8))) aNil)) (eC (.int 4)) (E0 (.frz (xs.map D.int)) ps2) = some (.ok (.int ((i.fdiv 8).fmod 4))) :=
        eOp_ok (eCB_ok (aCons_ok (eOp_ok (eCall_ok (xs := [.frz (xs.map D.int), .int 0]) rfl rfl hc) rfl (fdivD_ok (by decide) (by decide))) rfl) rfl) rfl (modD_ok (by decide))
      show R.bind (R.bind (eOp modD (eCB intD (aCons (eOp fdivD (eCall F__law_cell 2 (aCons (eVar 0) (aCons (eC (.int 0)) aNil))) (eC (.int 8))) aNil)) (eC (.int 4)) (E0 (.frz (xs.map D.int)) ps2)) toI) (fun hi => slD (.lst (ps2.map pD)) none hi) = _
      rw [ke, R.bind_ok]
      show slD (.lst (ps2.map pD)) none (some ((i.fdiv 8).fmod 4)) = _
      rw [show (i.fdiv 8).fmod 4 = ((((i.fdiv 8).fmod 4).toNat : Nat) : Int) by omega, sl_take, Int.toNat_natCast]
    · rw [Bool.not_eq_true _ |>.mp hb] at t0
      exact ⟨ps2, hp2, bIf_f t0⟩
  obtain ⟨ps3, hp3, s3⟩ := s3
  exact ⟨ps3, hp3, (bSeq_nx s1).trans ((bSeq_nx s2).trans (bSeq_nx s3))⟩
theorem law_eq (xs : List Int) (hx : xs.length ≤ 63) : F_law [.frz (xs.map D.int)] = some (.ok (.bl true)) := by
  refine runF_ret ?_
  obtain ⟨ps, hp, st⟩ := pts_stage xs hx (bSeq (bSet (gN 3) (eC (.bl true))) (bSeq bF1 (bSeq (bTryAs 7 tab_PortolanError (bSet (gN 6) (eCall F__law_kept_hull_of 1 (aCons (eCB listD (aCons (eVar 1) aNil)) aNil))) (fun _ => (bRet (eAnd (eIsE 7 tab_NoHalves) (eVar 3))))) (bSeq (bIf (tOrD (tVal (eVar 3)) (tOrD (tNotD (tVal (eCB isiD (aCons (eVar 6) (aCons (eC (.ty "list")) aNil))))) (tVal (eOp ltD (eCB lenD (aCons (eVar 6) aNil)) (eC (.int 3)))))) (bRet (eC (.bl false))) bNil) (bSeq (bSet (gN 8) (eCB minPD (aCons (eLC (iD (eVar 1)) [2] (gN 2) tYesD (eTup (aCons (eOp ixD (eVar 2) (eC (.int 1))) (aCons (eOp ixD (eVar 2) (eC (.int 0))) aNil)))) aNil))) (bSeq (bIf (tNotD (tVal (eCall (F__law_alike 6) 2 (aCons (eOp ixD (eVar 6) (eC (.int 0))) (aCons (eTup (aCons (eOp ixD (eVar 8) (eC (.int 1))) (aCons (eOp ixD (eVar 8) (eC (.int 0))) aNil))) aNil))))) (bRet (eC (.bl false))) bNil) (bSeq (bSet (gN 9) (eC (.int 0))) (bSeq (bFor (iRange1 (aCons (eCB lenD (aCons (eVar 6) aNil)) aNil)) (gN 10) bL) (bRet (eOp eqD (eVar 9) (eC (.int 1))))))))))))
  refine Eq.trans (b := _) (show B_law _ = _ from st) ?_
  have hb := hp.2
  obtain ⟨o2, o4, o5, n2, n4, n5, sf⟩ := flat1 (.frz (xs.map D.int)) hb none NE.none
  have fi := flat_iff ps
  generalize (ps.all fun p => (ps.take 4).all fun q => ps.all fun r => Hull.cr p q r == 0) = flat at sf fi
  have s0 : bSet (gN 3) (eC (.bl true)) (E0 (.frz (xs.map D.int)) ps) = some (.nx (EF (.frz (xs.map D.int)) ps true none none none)) := rfl
  refine (bSeq_nx s0).trans ((bSeq_nx sf).trans ?_)
  have kq := kept_eq hb (by have := hp.1; omega)
  have ke : eCall F__law_kept_hull_of 1 (aCons (eCB listD (aCons (eVar 1) aNil)) aNil) (EF (.frz (xs.map D.int)) ps flat o2 o4 o5) = F__law_kept_hull_of [.lst (ps.map pD)] := rfl
  rw [← ke] at kq
  by_cases hc : (Hull.hullP (ord ps)).length < 3
  · rw [if_pos hc] at kq
    have ft : flat = true := fi.mpr hc
    subst ft
    refine bSeq_ret ?_
    have e1 := bSet_err (g := gN 6) kq
    unfold bTryAs
    rw [noExc_EF _ _ _ n2 n4 n5, e1]
    simp only
    rw [noExc_EF _ _ _ n2 n4 n5]
    rfl
  · rw [if_neg hc] at kq
    have ff : flat = false := by
      cases flat with
      | false => rfl
      | true => exact absurd (fi.mp rfl) hc
    subst ff
    have P := Hull.hull_poly (ord_sorted ps) (by omega)
    have lenf : (Hull.hullP (ord ps)).length < 1000 := by
      have := hp.1
      have a0 := ord_len ps
      have a1 := chain_len (ord ps) []
      have a2 := chain_len (ord ps).reverse []
      simp only [List.length_reverse, List.length_nil] at a1 a2
      rw [Hull.hull_len]
      unfold Hull.chainR
      omega
    generalize Hull.hullP (ord ps) = f at *
    have e1 := bSet_ok (i := 6) (d := .lst (f.map pD)) (e := eCall F__law_kept_hull_of 1 (aCons (eCB listD (aCons (eVar 1) aNil)) aNil)) (δ := EF (.frz (xs.map D.int)) ps false o2 o4 o5) kq
    have s1 : bTryAs 7 tab_PortolanError (bSet (gN 6) (eCall F__law_kept_hull_of 1 (aCons (eCB listD (aCons (eVar 1) aNil)) aNil))) (fun _ => (bRet (eAnd (eIsE 7 tab_NoHalves) (eVar 3)))) (EF (.frz (xs.map D.int)) ps false o2 o4 o5) =
        some (.nx [some (.val (.frz (xs.map D.int))), some (.val (.lst (ps.map pD))), o2, some (.val (.bl false)), o4, o5, some (.val (.lst (f.map pD))), none, none, none, none]) := by
      unfold bTryAs
      rw [noExc_EF _ _ _ n2 n4 n5, e1]
      simp only
      refine congrArg (fun z => some (SR.nx z)) ?_
      refine noExc_id (δ := [some (.val (.frz (xs.map D.int))), some (.val (.lst (ps.map pD))), o2, some (.val (.bl false)), o4, o5, some (.val (.lst (f.map pD))), none, none, none, none]) fun o ho => ?_
      simp only [List.mem_cons, List.not_mem_nil, or_false] at ho
      rcases ho with rfl | rfl | rfl | rfl | rfl | rfl | rfl | rfl | rfl | rfl | rfl <;> first | assumption | exact NE.val _ | exact NE.none
    refine (bSeq_nx s1).trans ?_
    have s2 : bIf (tOrD (tVal (eVar 3)) (tOrD (tNotD (tVal (eCB isiD (aCons (eVar 6) (aCons (eC (.ty "list")) aNil))))) (tVal (eOp ltD (eCB lenD (aCons (eVar 6) aNil)) (eC (.int 3)))))) (bRet (eC (.bl false))) bNil [some (.val (.frz (xs.map D.int))), some (.val (.lst (ps.map pD))), o2, some (.val (.bl false)), o4, o5, some (.val (.lst (f.map pD))), none, none, none, none] =
        some (.nx [some (.val (.frz (xs.map D.int))), some (.val (.lst (ps.map pD))), o2, some (.val (.bl false)), o4, o5, some (.val (.lst (f.map pD))), none, none, none, none]) := by
      refine (bIf_f ?_).trans rfl
      refine tOr_ok (c := false) (k := false) rfl fun _ => tOr_ok (c := false) (k := false) rfl fun _ => tVal_ok ?_
      show some (Except.ok (D.bl (decide ((((f.map pD).length : Nat) : Int) < 3)))) = _
      rw [List.length_map, decide_eq_false (by omega)]
    refine (bSeq_nx s2).trans ?_
    -- the least place
    cases f with
    | nil => exact absurd hc (by simp)
    | cons l f =>
      obtain ⟨ml, least⟩ := P.least l rfl
      have ml' := ord_mem.mp ml
      cases ps with
      | nil => exact absurd ml' (by simp)
      | cons p0 ps =>
        have em : minP (ps.map sw) (sw p0) = sw l := min_least ml' fun s hs => least s (ord_mem.mpr hs)
        have s3 : bSet (gN 8) (eCB minPD (aCons (eLC (iD (eVar 1)) [2] (gN 2) tYesD (eTup (aCons (eOp ixD (eVar 2) (eC (.int 1))) (aCons (eOp ixD (eVar 2) (eC (.int 0))) aNil)))) aNil)) [some (.val (.frz (xs.map D.int))), some (.val (.lst ((p0 :: ps).map pD))), o2, some (.val (.bl false)), o4, o5, some (.val (.lst ((l :: f).map pD))), none, none, none, none] =
            some (.nx [some (.val (.frz (xs.map D.int))), some (.val (.lst ((p0 :: ps).map pD))), o2, some (.val (.bl false)), o4, o5, some (.val (.lst ((l :: f).map pD))), none, some (.val (pD (sw l))), none, none]) := by
          refine bSet_ok (i := 8) (eCB_ok (aCons_ok (lc_small (p0 :: ps) (fun p => pD (sw p)) rfl (by have := hp.1; omega) fun x _ => ⟨_, rfl, rfl⟩) rfl) ?_)
          have : ((p0 :: ps).map fun p => pD (sw p)) = ((p0 :: ps).map sw).map pD := by rw [List.map_map]; rfl
          rw [this]
          unfold minPD
          simp only
          rw [pairsD_pD]
          show some (Except.ok (pD (minP (ps.map sw) (sw p0)))) = _
          rw [em]
        refine (bSeq_nx s3).trans ?_
        have al := alike_pair 4 l l
        rw [decide_eq_true rfl] at al
        have s4 : bIf (tNotD (tVal (eCall (F__law_alike 6) 2 (aCons (eOp ixD (eVar 6) (eC (.int 0))) (aCons (eTup (aCons (eOp ixD (eVar 8) (eC (.int 1))) (aCons (eOp ixD (eVar 8) (eC (.int 0))) aNil))) aNil))))) (bRet (eC (.bl false))) bNil [some (.val (.frz (xs.map D.int))), some (.val (.lst ((p0 :: ps).map pD))), o2, some (.val (.bl false)), o4, o5, some (.val (.lst ((l :: f).map pD))), none, some (.val (pD (sw l))), none, none] =
            some (.nx [some (.val (.frz (xs.map D.int))), some (.val (.lst ((p0 :: ps).map pD))), o2, some (.val (.bl false)), o4, o5, some (.val (.lst ((l :: f).map pD))), none, some (.val (pD (sw l))), none, none]) :=
          (bIf_f (tNot_ok (c := true) (tVal_ok (eCall_ok (xs := [pD l, pD l]) (aCons_ok (eOp_ok rfl rfl (ixD_lst (k := 0) rfl)) (aCons_ok rfl rfl)) rfl al)))).trans rfl
        refine (bSeq_nx s4).trans ((bSeq_nx rfl).trans ?_)
        obtain ⟨o2', o4', o5', o10', s5⟩ := last_loop (.frz (xs.map D.int)) hb (sw l) P (by omega) lenf o2 o4 o5
        exact (bSeq_nx s5).trans rfl
end K67
end DL

namespace DL
namespace K67
open PySem PySem.Spec L2
def fn : List He.DefD := [dd "_law_numbers" s__law_numbers, dd "_law_corners" s__law_corners, dd "_law_copied" s__law_copied, dd "cross" s_cross, dd "chain" s_chain, dd "hull_of" s_hull_of, dd "_law_kept_hull_of" s__law_kept_hull_of, dd "_law_alike" s__law_alike, dd "_law_cell" s__law_cell, dd "_law_side" s__law_side, dd "law" s_law]
def fa : List He.Fa := [.glo "_law_numbers", .glo "_law_corners", .glo "_law_copied", .glo "cross", .glo "chain", .glo "hull_of", .glo "_law_kept_hull_of", .glo "_law_alike", .glo "_law_cell", .glo "_law_side", .glo "law", .glo "NoHalves", .glo "PortolanError", .free "abs", .free "bool", .free "dict", .free "int", .free "isinstance", .free "len", .free "list", .free "min", .free "range", .free "set", .free "sorted", .free "str", .free "tuple", .exc "NoHalves", .exm "PortolanError" "PortolanError" true, .exm "NoHalves" "PortolanError" true]
def ex (K : PySem.W.Frag) : Bool := isxs K "NoHalves" rows_NoHalves
abbrev Rw : PySem.W.OpenRow := PySem.W.OpenLaw.row PySem.Challenge.rw_portolan_k67_hulls_of_points
abbrev hk : PySem.W.Hook := He.hookX 4 fa fn [] [] ex
def ob (s : PySem.W.SharedT) : He.AlX := He.obsX 4 fa fn [] [] ex (HandSHeadRun.getT s)
theorem ob_eq (s : PySem.W.SharedT) : ob s = hk.obs s.abs := He.obsX_eq (HandSHeadRun.getT_eq s)
def loose0 : List Str := ["PortolanError", "NoHalves", "cross", "chain", "hull_of", "_law_copied", "_law_kept_hull_of", "_law_alike", "_law_is_integer", "_law_cell", "_law_numbers", "_law_corners", "_law_around", "_law_side", "_law_between", "_law_meet", "_law_simple"]
abbrev loose : List Str := loose0
theorem run (w : World) : HandSHeadRun.RunEq Rw (PySem.W.view Rw.prog [20]) hk ob 4000 loose w := by
  intro os
  kernel_rfl
theorem txt {K : PySem.W.Frag} {h : Heap} {mg : Str → Option Value} (X : K.In h) (G : h.Ns mainGlobals mg) (c : He.SaysD fa fn K) (e : ex K = true) : Txt K mg :=
  ⟨free_of X G c (List.mem_of_getElem? (i := 13) rfl),
  free_of X G c (List.mem_of_getElem? (i := 14) rfl),
  free_of X G c (List.mem_of_getElem? (i := 15) rfl),
  free_of X G c (List.mem_of_getElem? (i := 16) rfl),
  free_of X G c (List.mem_of_getElem? (i := 17) rfl),
  free_of X G c (List.mem_of_getElem? (i := 18) rfl),
  free_of X G c (List.mem_of_getElem? (i := 19) rfl),
  free_of X G c (List.mem_of_getElem? (i := 20) rfl),
  free_of X G c (List.mem_of_getElem? (i := 21) rfl),
  free_of X G c (List.mem_of_getElem? (i := 22) rfl),
  free_of X G c (List.mem_of_getElem? (i := 23) rfl),
  free_of X G c (List.mem_of_getElem? (i := 24) rfl),
  free_of X G c (List.mem_of_getElem? (i := 25) rfl),
  err_of X G c (List.mem_of_getElem? (i := 11) rfl) (List.mem_of_getElem? (i := 26) rfl),
  catch_of X G c rows_PortolanError (List.mem_of_getElem? (i := 12) rfl) (List.forall_mem_cons.mpr ⟨⟨(List.mem_of_getElem? (i := 12) rfl), (List.mem_of_getElem? (i := 27) rfl)⟩, List.forall_mem_cons.mpr ⟨⟨(List.mem_of_getElem? (i := 11) rfl), (List.mem_of_getElem? (i := 28) rfl)⟩, List.forall_mem_nil _⟩⟩),
  is_of X G c rows_NoHalves (List.mem_of_getElem? (i := 11) rfl) (List.forall_mem_cons.mpr ⟨(List.mem_of_getElem? (i := 12) rfl), List.forall_mem_cons.mpr ⟨(List.mem_of_getElem? (i := 11) rfl), List.forall_mem_nil _⟩⟩) e⟩
theorem law_ok {P : Program} {w : World} {K : PySem.W.Frag} {h : Heap} {mg : Str → Option Value} {base : Heap} {fd : FuncData} (X : K.In h) (G : h.Ns mainGlobals mg) (c : He.SaysD fa fn K) (e : ex K = true) (Fd : FunD K "law" "law" (defArgs s_law) (defBody s_law) (defScope s_law) [] [] (He.fAd K ("law", none)) fd) : FnOk P w K mg base (L2.CX P w) 9 (He.fAd K ("law", none)) fd ["script"] (spD K mg 1 F_law) := by
  have T := txt X G c e
  have h__law_numbers := ok__law_numbers (P := P) (w := w) (base := base) T (def_of X G c (x := "_law_numbers") (s := s__law_numbers) (List.mem_of_getElem? (i := 0) rfl) (List.mem_of_getElem? (i := 0) rfl)) 
  have h__law_corners := ok__law_corners (P := P) (w := w) (base := base) T (def_of X G c (x := "_law_corners") (s := s__law_corners) (List.mem_of_getElem? (i := 1) rfl) (List.mem_of_getElem? (i := 1) rfl)) h__law_numbers
  have h__law_copied := ok__law_copied (P := P) (w := w) (base := base) T (def_of X G c (x := "_law_copied") (s := s__law_copied) (List.mem_of_getElem? (i := 2) rfl) (List.mem_of_getElem? (i := 2) rfl))  6
  have h_cross := ok_cross (P := P) (w := w) (base := base) T (def_of X G c (x := "cross") (s := s_cross) (List.mem_of_getElem? (i := 3) rfl) (List.mem_of_getElem? (i := 3) rfl)) 
  have h_chain := ok_chain (P := P) (w := w) (base := base) T (def_of X G c (x := "chain") (s := s_chain) (List.mem_of_getElem? (i := 4) rfl) (List.mem_of_getElem? (i := 4) rfl)) h_cross
  have h_hull_of := ok_hull_of (P := P) (w := w) (base := base) T (def_of X G c (x := "hull_of") (s := s_hull_of) (List.mem_of_getElem? (i := 5) rfl) (List.mem_of_getElem? (i := 5) rfl)) h_chain
  have h__law_kept_hull_of := ok__law_kept_hull_of (P := P) (w := w) (base := base) T (def_of X G c (x := "_law_kept_hull_of") (s := s__law_kept_hull_of) (List.mem_of_getElem? (i := 6) rfl) (List.mem_of_getElem? (i := 6) rfl)) h__law_copied h_hull_of
  have h__law_alike := ok__law_alike (P := P) (w := w) (base := base) T (def_of X G c (x := "_law_alike") (s := s__law_alike) (List.mem_of_getElem? (i := 7) rfl) (List.mem_of_getElem? (i := 7) rfl))  6
  have h__law_cell := ok__law_cell (P := P) (w := w) (base := base) T (def_of X G c (x := "_law_cell") (s := s__law_cell) (List.mem_of_getElem? (i := 8) rfl) (List.mem_of_getElem? (i := 8) rfl)) 
  have h__law_side := ok__law_side (P := P) (w := w) (base := base) T (def_of X G c (x := "_law_side") (s := s__law_side) (List.mem_of_getElem? (i := 9) rfl) (List.mem_of_getElem? (i := 9) rfl)) 
  exact fn_law T Fd h__law_alike h__law_cell h__law_corners h__law_kept_hull_of h__law_side
theorem law_holds (hF : ∀ ns : List Int, ns.length ≤ 63 → F_law [.frz (ns.map D.int)] = some (.ok (.bl true))) : PySem.Challenge.rw_portolan_k67_hulls_of_points.Holds := by
  w_on; o_law
  refine HandSHeadRun.head_any (r := PySem.W.OpenLaw.row PySem.Challenge.rw_portolan_k67_hulls_of_points) (q := PySem.W.view (PySem.W.OpenLaw.row PySem.Challenge.rw_portolan_k67_hulls_of_points).prog [20]) (H := hk) (ob := ob) (M := 4000) (loose := loose) (d := HandSHeadRun.topDef (PySem.W.OpenLaw.row PySem.Challenge.rw_portolan_k67_hulls_of_points).prog 20) (kwd := []) ob_eq
    (by kernel_rfl) (fun s => by kernel_rfl) run (by kernel_rfl) (by kernel_rfl) (by kernel_rfl) (by rfl) (by first | assumption | decide +kernel) (by decide +kernel) ⟨rfl, rfl, rfl, rfl, rfl, by decide +kernel⟩ ?hw ?hc
  case hw => w_witness2
  case hc =>
    refine walk_ofW (l := PySem.Challenge.rw_portolan_k67_hulls_of_points) (n := 63) (k := 9) (x := "script") rfl (by decide) (by kernel_rfl) ⟨rfl, by decide, by decide⟩ ?F
    intro w mg fa0 h Y G hmg0
    obtain ⟨K, KX, c⟩ := Y
    have hmg : mg ("law" : PySem.Str) = some (.ref fa0) := by
      have e : (HandSHeadRun.topDef (PySem.W.OpenLaw.row PySem.Challenge.rw_portolan_k67_hulls_of_points).prog 20).name = ("law" : PySem.Str) := by kernel_rfl
      rw [← e]
      exact hmg0
    obtain ⟨fd, Fd⟩ := c.t.d.defs (d := dd "law" s_law) (List.mem_of_getElem? (i := 10) rfl)
    have e := hmg.symm.trans (glo_of KX G c.t.d (x := "law") (List.mem_of_getElem? (i := 10) rfl))
    cases e
    have b := FunD.bindsA (ps := ["script"]) Fd fun _ _ _ _ _ _ us hl => match us, hl with | [_], _ => rfl
    exact ⟨K, fd, _, KX, fun s v => b s [v] rfl, fun H a ns hl _ hS => law_sp hF H a ns hl hS, fun base _ _ => law_ok KX G c.t.d c.more Fd⟩

end K67
end DL

theorem PySem.Challenge.cw_portolan_k67_hulls_of_points_holds : PySem.Challenge.rw_portolan_k67_hulls_of_points.Holds := by
  exact DL.K67.law_holds DL.K67.law_eq
