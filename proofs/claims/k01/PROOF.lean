import PyProof.Rows.All
import Wide.All
import OpenK.AllK
import Wide.FinOn
import HandS.ForMost
import HandS.ForExc
import HandS.Walk
import HandS.IsInst
import HandS.Evl
import HandS.CallSlots
import HandS.Wide
import HandS.TupAny
import HandS.TupLe
import HandS.TupMul
import HandS.Style
import KE.GoesEnum
import HandS.SortInts
import HandS.Conv
import HandS.Deep
import KE.DataMinMax
import KE.SortData
import HandS.AnyAll
import HandS.ExcInit
import KE.KExcSuper
import HandS.ExcField
import HandS.ExcIs
import KE.KExcIs
import PySem.Challenge.RW_tillsteps_k01_steps_refused
set_option Elab.async false
set_option linter.all false
set_option maxRecDepth 100000
set_option maxHeartbeats 4000000
/-! The layer of data: a def is told by a plain function over data; each construct of the text has one rule that keeps this. -/
namespace TS
open PySem L2
open Evl (Ex)

/-- data; `gen` is the one source of draws that a law makes -/
inductive D where
  | non | bl (b : Bool) | int (i : Int) | str (x : Str) | tup (xs : List D) | lst (xs : List D) | gen | scr (ns : List Int)
/-- the state of the source of draws: the number, the cells, the index -/
structure GS where
  st : Int
  cells : List Int
  ix : Int
abbrev G := Option GS

/-- what stands still (S), and where the source of draws lies -/
structure Om where
  S : Hp
  ga : Option (Addr × Addr)

def Om.Own (Ω : Om) (a : Addr) : Prop := ∃ p, Ω.ga = some p ∧ (a = p.1 ∨ a = p.2)

mutual
def Rep (K : PySem.W.Frag) (Ω : Om) : D → V → Prop
  | .non, v => v = .non
  | .bl b, v => v = .bl b
  | .int i, v => v = .int i
  | .str x, v => v = .str x
  | .tup ds, v => ∃ a xs, v = .ref a ∧ SqT K Ω.S a xs ∧ RepL K Ω ds xs
  | .lst ds, v => ∃ a xs, v = .ref a ∧ Ω.S a = some (.lst xs) ∧ RepL K Ω ds xs
  | .gen, v => ∃ p, Ω.ga = some p ∧ v = .ref p.1
  | .scr ns, v => ∃ a, v = .ref a ∧ SqL K Ω.S a (ns.map V.int)
def RepL (K : PySem.W.Frag) (Ω : Om) : List D → List V → Prop
  | [], vs => vs = []
  | d :: ds, vs => ∃ v r, vs = v :: r ∧ Rep K Ω d v ∧ RepL K Ω ds r
end

structure Gr (Ω Ω' : Om) : Prop where
  s : Ex Ω.S Ω'.S
  g : ∀ p, Ω.ga = some p → Ω'.ga = some p
theorem Gr.refl (Ω : Om) : Gr Ω Ω := ⟨Ex.refl _, fun _ h => h⟩
theorem Gr.trans {Ω Ω1 Ω2 : Om} (a : Gr Ω Ω1) (b : Gr Ω1 Ω2) : Gr Ω Ω2 := ⟨a.s.trans b.s, fun p h => b.g p (a.g p h)⟩

mutual
theorem Rep.mono {K : PySem.W.Frag} {Ω Ω' : Om} (e : Gr Ω Ω') : ∀ (d : D) (v : V), Rep K Ω d v → Rep K Ω' d v
  | .non, _, h => by unfold Rep at *; exact h
  | .bl _, _, h => by unfold Rep at *; exact h
  | .int _, _, h => by unfold Rep at *; exact h
  | .str _, _, h => by unfold Rep at *; exact h
  | .tup ds, v, h => by
    unfold Rep at *
    obtain ⟨a, xs, h1, h2, h3⟩ := h
    exact ⟨a, xs, h1, Evl.ex_t e.s h2, RepL.mono e ds xs h3⟩
  | .lst ds, v, h => by
    unfold Rep at *
    obtain ⟨a, xs, h1, h2, h3⟩ := h
    exact ⟨a, xs, h1, e.s _ _ h2, RepL.mono e ds xs h3⟩
  | .gen, v, h => by
    unfold Rep at *
    obtain ⟨p, h1, h2⟩ := h
    exact ⟨p, e.g p h1, h2⟩
  | .scr ns, v, h => by
    unfold Rep at *
    obtain ⟨a, h1, h2⟩ := h
    exact ⟨a, h1, Evl.ex_l e.s h2⟩
theorem RepL.mono {K : PySem.W.Frag} {Ω Ω' : Om} (e : Gr Ω Ω') : ∀ (ds : List D) (vs : List V), RepL K Ω ds vs → RepL K Ω' ds vs
  | [], _, h => by unfold RepL at *; exact h
  | d :: ds, vs, h => by
    unfold RepL at *
    obtain ⟨v, r, h1, h2, h3⟩ := h
    exact ⟨v, r, h1, Rep.mono e d v h2, RepL.mono e ds r h3⟩
end

section
variable {K : PySem.W.Frag} {Ω : Om}
theorem rep_non {v : V} : Rep K Ω .non v ↔ v = .non := by unfold Rep; exact Iff.rfl
theorem rep_bl {b : Bool} {v : V} : Rep K Ω (.bl b) v ↔ v = .bl b := by unfold Rep; exact Iff.rfl
theorem rep_int {i : Int} {v : V} : Rep K Ω (.int i) v ↔ v = .int i := by unfold Rep; exact Iff.rfl
theorem rep_str {x : Str} {v : V} : Rep K Ω (.str x) v ↔ v = .str x := by unfold Rep; exact Iff.rfl
theorem rep_tup {ds : List D} {v : V} : Rep K Ω (.tup ds) v ↔ ∃ a xs, v = .ref a ∧ SqT K Ω.S a xs ∧ RepL K Ω ds xs := by
  constructor <;> (intro h; unfold Rep at *; exact h)
theorem rep_lst {ds : List D} {v : V} : Rep K Ω (.lst ds) v ↔ ∃ a xs, v = .ref a ∧ Ω.S a = some (.lst xs) ∧ RepL K Ω ds xs := by
  constructor <;> (intro h; unfold Rep at *; exact h)
theorem rep_gen {v : V} : Rep K Ω .gen v ↔ ∃ p, Ω.ga = some p ∧ v = .ref p.1 := by
  constructor <;> (intro h; unfold Rep at *; exact h)
theorem rep_scr {ns : List Int} {v : V} : Rep K Ω (.scr ns) v ↔ ∃ a, v = .ref a ∧ SqL K Ω.S a (ns.map V.int) := by
  constructor <;> (intro h; unfold Rep at *; exact h)
theorem repL_nil {vs : List V} : RepL K Ω [] vs ↔ vs = [] := by unfold RepL; exact Iff.rfl
theorem repL_cons {d : D} {ds : List D} {vs : List V} : RepL K Ω (d :: ds) vs ↔ ∃ v r, vs = v :: r ∧ Rep K Ω d v ∧ RepL K Ω ds r := Iff.of_eq (by rw [RepL])
theorem RepL.nil : RepL K Ω [] [] := repL_nil.mpr rfl
theorem RepL.cons {d : D} {ds : List D} {v : V} {vs : List V} (h : Rep K Ω d v) (r : RepL K Ω ds vs) : RepL K Ω (d :: ds) (v :: vs) := repL_cons.mpr ⟨v, vs, rfl, h, r⟩
theorem RepL.length : ∀ {ds : List D} {vs : List V}, RepL K Ω ds vs → ds.length = vs.length
  | [], vs, h => by rw [repL_nil.mp h]; rfl
  | d :: ds, vs, h => by
    obtain ⟨v, r, rfl, _, h3⟩ := repL_cons.mp h
    simp [RepL.length h3]
theorem RepL.get : ∀ {ds : List D} {vs : List V} {i : Nat} {d : D}, RepL K Ω ds vs → ds[i]? = some d → ∃ v, vs[i]? = some v ∧ Rep K Ω d v
  | [], vs, i, d, h, e => by simp at e
  | x :: ds, vs, 0, d, h, e => by
    obtain ⟨v, r, rfl, h2, _⟩ := repL_cons.mp h
    simp at e; subst e
    exact ⟨v, rfl, h2⟩
  | x :: ds, vs, i + 1, d, h, e => by
    obtain ⟨v, r, rfl, _, h3⟩ := repL_cons.mp h
    obtain ⟨u, q1, q2⟩ := RepL.get (i := i) (d := d) h3 (by simpa using e)
    exact ⟨u, by simpa using q1, q2⟩
theorem RepL.getv : ∀ {ds : List D} {vs : List V} {i : Nat} {v : V}, RepL K Ω ds vs → vs[i]? = some v → ∃ d, ds[i]? = some d ∧ Rep K Ω d v := by
  intro ds vs i v h e
  have hl := h.length
  have hi : i < ds.length := by rw [hl]; exact (List.getElem?_eq_some_iff.mp e).1
  obtain ⟨u, q1, q2⟩ := h.get (d := ds[i]) (List.getElem?_eq_getElem hi)
  rw [e] at q1; cases q1
  exact ⟨_, List.getElem?_eq_getElem hi, q2⟩
theorem RepL.app : ∀ {ds es : List D} {vs us : List V}, RepL K Ω ds vs → RepL K Ω es us → RepL K Ω (ds ++ es) (vs ++ us)
  | [], es, vs, us, h, q => by rw [repL_nil.mp h]; exact q
  | d :: ds, es, vs, us, h, q => by
    obtain ⟨v, r, rfl, h2, h3⟩ := repL_cons.mp h
    exact .cons h2 (RepL.app h3 q)
theorem RepL.take : ∀ {ds : List D} {vs : List V} (n : Nat), RepL K Ω ds vs → RepL K Ω (ds.take n) (vs.take n)
  | _, _, 0, _ => by simp; exact .nil
  | [], vs, n + 1, h => by rw [repL_nil.mp h]; exact .nil
  | d :: ds, vs, n + 1, h => by
    obtain ⟨v, r, rfl, h2, h3⟩ := repL_cons.mp h
    exact .cons h2 (RepL.take n h3)
theorem RepL.drop : ∀ {ds : List D} {vs : List V} (n : Nat), RepL K Ω ds vs → RepL K Ω (ds.drop n) (vs.drop n)
  | _, _, 0, h => h
  | [], vs, n + 1, h => by rw [repL_nil.mp h]; exact .nil
  | d :: ds, vs, n + 1, h => by
    obtain ⟨v, r, rfl, h2, h3⟩ := repL_cons.mp h
    exact RepL.drop n h3
theorem RepL.set {d : D} {v : V} (q : Rep K Ω d v) : ∀ {ds : List D} {vs : List V} (n : Nat), RepL K Ω ds vs → RepL K Ω (ds.set n d) (vs.set n v)
  | [], vs, n, h => by rw [repL_nil.mp h]; simp; exact .nil
  | x :: ds, vs, 0, h => by
    obtain ⟨u, r, rfl, h2, h3⟩ := repL_cons.mp h
    exact .cons q h3
  | x :: ds, vs, n + 1, h => by
    obtain ⟨u, r, rfl, h2, h3⟩ := repL_cons.mp h
    exact .cons h2 (RepL.set q n h3)
theorem RepL.ints : ∀ (ns : List Int), RepL K Ω (ns.map D.int) (ns.map V.int)
  | [] => .nil
  | n :: ns => .cons (rep_int.mpr rfl) (RepL.ints ns)
theorem RepL.ints_of : ∀ {ns : List Int} {vs : List V}, RepL K Ω (ns.map D.int) vs → vs = ns.map V.int
  | [], vs, h => repL_nil.mp h
  | n :: ns, vs, h => by
    obtain ⟨v, r, rfl, h2, h3⟩ := repL_cons.mp h
    rw [rep_int.mp h2, RepL.ints_of h3]; rfl
theorem RepL.bls_of : ∀ {ns : List Bool} {vs : List V}, RepL K Ω (ns.map D.bl) vs → vs = ns.map V.bl
  | [], vs, h => repL_nil.mp h
  | n :: ns, vs, h => by
    obtain ⟨v, r, rfl, h2, h3⟩ := repL_cons.mp h
    rw [rep_bl.mp h2, RepL.bls_of h3]; rfl
theorem RepL.strs_of : ∀ {ns : List Str} {vs : List V}, RepL K Ω (ns.map D.str) vs → vs = ns.map V.str
  | [], vs, h => repL_nil.mp h
  | n :: ns, vs, h => by
    obtain ⟨v, r, rfl, h2, h3⟩ := repL_cons.mp h
    rw [rep_str.mp h2, RepL.strs_of h3]; rfl
end

/-- what a piece of a run does to the heap: what is told of the old still stands; only the source of draws may change -/
structure Tr (Ω : Om) (H : Hp) (Ω' : Om) (H' : Hp) : Prop where
  gr : Gr Ω Ω'
  new : ∀ a o, Ω'.S a = some o → Ω.S a = some o ∨ H a = none
  gnew : ∀ p, Ω'.ga = some p → Ω.ga = some p ∨ (H p.1 = none ∧ H p.2 = none)
  keep : ∀ a o, H a = some o → ¬ Ω.Own a → H' a = some o
  there : ∀ a o, H a = some o → ∃ o', H' a = some o'
theorem Tr.refl (Ω : Om) (H : Hp) : Tr Ω H Ω H := ⟨.refl _, fun _ _ h => .inl h, fun _ h => .inl h, fun _ _ h _ => h, fun _ o h => ⟨o, h⟩⟩
theorem Tr.none_of {Ω Ω' : Om} {H H' : Hp} (t : Tr Ω H Ω' H') {a : Addr} (h : H' a = none) : H a = none := by
  cases e : H a with
  | none => rfl
  | some o =>
    obtain ⟨o', q⟩ := t.there a o e
    rw [h] at q; cases q
theorem Tr.own {Ω Ω' : Om} {H H' : Hp} (t : Tr Ω H Ω' H') {a : Addr} {o : HO} (h : H a = some o) (n : ¬ Ω.Own a) : ¬ Ω'.Own a := by
  rintro ⟨p, hp, ha⟩
  rcases t.gnew p hp with q | ⟨q1, q2⟩
  · exact n ⟨p, q, ha⟩
  · rcases ha with z | z
    · rw [z, q1] at h; cases h
    · rw [z, q2] at h; cases h
theorem Tr.trans {Ω Ω1 Ω2 : Om} {H H1 H2 : Hp} (a : Tr Ω H Ω1 H1) (b : Tr Ω1 H1 Ω2 H2) : Tr Ω H Ω2 H2 where
  gr := a.gr.trans b.gr
  new := fun x o h => by
    rcases b.new x o h with q | q
    · exact a.new x o q
    · exact .inr (a.none_of q)
  gnew := fun p h => by
    rcases b.gnew p h with q | ⟨q1, q2⟩
    · exact a.gnew p q
    · exact .inr ⟨a.none_of q1, a.none_of q2⟩
  keep := fun x o h n => b.keep x o (a.keep x o h n) (a.own h n)
  there := fun x o h => by
    obtain ⟨o1, h1⟩ := a.there x o h
    exact b.there x o1 h1

/-- where the source of draws lies, and what it holds -/
def GenAt (S H : Hp) : G → Option (Addr × Addr) → Prop
  | none, none => True
  | some γ, some ab => H ab.1 = some (.lst [.int γ.st, .ref ab.2, .int γ.ix]) ∧ H ab.2 = some (.lst (γ.cells.map V.int)) ∧ ab.1 ≠ ab.2 ∧ S ab.1 = none ∧ S ab.2 = none
  | none, some _ => False
  | some _, none => False
/-- the heap and the source of draws are as told -/
structure Wf (g : G) (Ω : Om) (H : Hp) : Prop where
  sub : Ex Ω.S H
  gen : GenAt Ω.S H g Ω.ga
theorem GenAt.change {S H S' H' : Hp} {g : G} {q : Option (Addr × Addr)} (h : GenAt S H g q) (k : ∀ ab a, q = some ab → (a = ab.1 ∨ a = ab.2) → H' a = H a ∧ (S a = none → S' a = none)) : GenAt S' H' g q := by
  cases g with
  | none =>
    cases q with
    | none => trivial
    | some ab => exact h.elim
  | some γ =>
    cases q with
    | none => exact h.elim
    | some ab =>
      obtain ⟨q1, q2, q3, q4, q5⟩ := h
      obtain ⟨e1, f1⟩ := k ab ab.1 rfl (.inl rfl)
      obtain ⟨e2, f2⟩ := k ab ab.2 rfl (.inr rfl)
      exact ⟨e1.trans q1, e2.trans q2, q3, f1 q4, f2 q5⟩
theorem Wf.ownSome {g : G} {Ω : Om} {H : Hp} (w : Wf g Ω H) {a : Addr} (h : Ω.Own a) : ∃ o, H a = some o := by
  obtain ⟨p, hp, ha⟩ := h
  obtain ⟨_, q⟩ := w
  rw [hp] at q
  cases g with
  | none => exact q.elim
  | some γ =>
    obtain ⟨q1, q2, _⟩ := q
    rcases ha with rfl | rfl
    · exact ⟨_, q1⟩
    · exact ⟨_, q2⟩

/-- a new object that stands still -/
def Om.add (Ω : Om) (p : Addr) (o : HO) : Om := ⟨upd Ω.S p o, Ω.ga⟩
theorem Ex.upd2 {S H : Hp} {p : Addr} {o : HO} (e : Ex S H) : Ex (upd S p o) (upd H p o) := fun a u h => by
  by_cases z : a = p
  · subst z; rw [upd_same] at h ⊢; exact h
  · rw [upd_ne z] at h ⊢; exact e a u h
theorem Tr.alloc {Ω : Om} {H : Hp} {p : Addr} {o : HO} (w : Ex Ω.S H) (hp : H p = none) : Tr Ω H (Ω.add p o) (upd H p o) where
  gr := ⟨Evl.Ex.new (by
    cases e : Ω.S p with
    | none => rfl
    | some u => rw [w p u e] at hp; cases hp), fun _ h => h⟩
  new := fun a u h => by
    by_cases z : a = p
    · subst z; exact .inr hp
    · left
      have q : upd Ω.S p o a = some u := h
      rw [upd_ne z] at q; exact q
  gnew := fun _ h => .inl h
  keep := fun a u h _ => by rw [upd_ne (ne_of_none h hp)]; exact h
  there := fun a u h => ⟨u, by rw [upd_ne (ne_of_none h hp)]; exact h⟩
theorem Wf.alloc {g : G} {Ω : Om} {H : Hp} {p : Addr} {o : HO} (w : Wf g Ω H) (hp : H p = none) : Wf g (Ω.add p o) (upd H p o) := by
  refine ⟨Ex.upd2 w.sub, w.gen.change fun ab a e h => ?_⟩
  obtain ⟨u, hu⟩ := w.ownSome ⟨ab, e, h⟩
  have n : a ≠ p := ne_of_none hu hp
  exact ⟨upd_ne n, fun z => by show upd Ω.S p o a = none; rw [upd_ne n]; exact z⟩
/-- a new object that does not stand still -/
theorem Tr.loose {Ω : Om} {H : Hp} {p : Addr} {o : HO} (hp : H p = none) : Tr Ω H Ω (upd H p o) :=
  ⟨.refl _, fun _ _ h => .inl h, fun _ h => .inl h, fun a u h _ => by rw [upd_ne (ne_of_none h hp)]; exact h, fun a u h => ⟨u, by rw [upd_ne (ne_of_none h hp)]; exact h⟩⟩
theorem Wf.upd {g : G} {Ω : Om} {H : Hp} {p : Addr} {o : HO} (w : Wf g Ω H) (hs : Ω.S p = none) (hn : ¬ Ω.Own p) : Wf g Ω (upd H p o) := by
  refine ⟨fun a u h => by rw [upd_ne (ne_of_none h hs)]; exact w.sub a u h, w.gen.change fun ab a e h => ?_⟩
  have n : a ≠ p := fun z => hn ⟨ab, e, z ▸ h⟩
  exact ⟨upd_ne n, fun z => z⟩
theorem Wf.loose {g : G} {Ω : Om} {H : Hp} {p : Addr} {o : HO} (w : Wf g Ω H) (hp : H p = none) : Wf g Ω (L2.upd H p o) := by
  refine Wf.upd w ?_ ?_
  · cases e : Ω.S p with
    | none => rfl
    | some u => rw [w.sub p u e] at hp; cases hp
  · intro z
    obtain ⟨o, q⟩ := w.ownSome z
    rw [hp] at q; cases q
/-- what was loose stands still from here on -/
theorem Wf.freeze {g : G} {Ω : Om} {H : Hp} {p : Addr} {o : HO} (w : Wf g Ω H) (hp : H p = some o) (hn : ¬ Ω.Own p) : Wf g (Ω.add p o) H := by
  refine ⟨fun a u h => ?_, w.gen.change fun ab a e h => ?_⟩
  · have h' : L2.upd Ω.S p o a = some u := h
    by_cases z : a = p
    · subst z; rw [upd_same] at h'; rw [hp]; exact h'
    · rw [upd_ne z] at h'; exact w.sub a u h'
  · have n : a ≠ p := fun z => hn ⟨ab, e, z ▸ h⟩
    exact ⟨rfl, fun z => by show L2.upd Ω.S p o a = none; rw [upd_ne n]; exact z⟩
theorem Gr.add {Ω : Om} {p : Addr} {o : HO} (hs : Ω.S p = none) : Gr Ω (Ω.add p o) := ⟨Evl.Ex.new hs, fun _ h => h⟩
theorem add_get {Ω : Om} {p : Addr} {o : HO} : (Ω.add p o).S p = some o := upd_same

/-! ### the slots of a frame -/
inductive SV where
  | dat (d : D)
  /-- a list that this slot alone holds -/
  | own (ds : List D)
abbrev Rho := List (Option SV)
def SlotOk (K : PySem.W.Frag) (H0 : Hp) (Ω : Om) (H : Hp) : SV → V → Prop
  | .dat d, v => Rep K Ω d v
  | .own ds, v => ∃ p vs, v = .ref p ∧ H p = some (.lst vs) ∧ RepL K Ω ds vs ∧ Ω.S p = none ∧ ¬ Ω.Own p ∧ H0 p = none
structure Slots (K : PySem.W.Frag) (H0 : Hp) (ρ : Rho) (Ω : Om) (H : Hp) (σ : St) : Prop where
  len : ρ.length = σ.length
  get : ∀ (i : Nat) (x : SV), ρ[i]? = some (some x) → ∃ v, σ[i]? = some (some v) ∧ SlotOk K H0 Ω H x v
  ne : ∀ (i j : Nat) (x y : List D) (v : V), ρ[i]? = some (some (.own x)) → ρ[j]? = some (some (.own y)) → σ[i]? = some (some v) → σ[j]? = some (some v) → i = j
section
variable {K : PySem.W.Frag} {H0 : Hp} {ρ : Rho} {Ω Ω' : Om} {H H' : Hp} {σ : St}
theorem SlotOk.tr {x : SV} {v : V} (h : SlotOk K H0 Ω H x v) (t : Tr Ω H Ω' H') : SlotOk K H0 Ω' H' x v := by
  cases x with
  | dat d => exact Rep.mono t.gr d v h
  | own ds =>
    obtain ⟨p, vs, e, h1, h2, h3, h4, h5⟩ := h
    refine ⟨p, vs, e, t.keep p _ h1 h4, RepL.mono t.gr ds vs h2, ?_, t.own h1 h4, h5⟩
    cases q : Ω'.S p with
    | none => rfl
    | some o =>
      rcases t.new p o q with z | z
      · rw [h3] at z; cases z
      · rw [h1] at z; cases z
theorem Slots.tr (s : Slots K H0 ρ Ω H σ) (t : Tr Ω H Ω' H') : Slots K H0 ρ Ω' H' σ :=
  ⟨s.len, fun i x h => by
    obtain ⟨v, h1, h2⟩ := s.get i x h
    exact ⟨v, h1, h2.tr t⟩, s.ne⟩
theorem Slots.set {i : Nat} {d : D} {v : V} (s : Slots K H0 ρ Ω H σ) (r : Rep K Ω d v) : Slots K H0 (ρ.set i (some (.dat d))) Ω H (σ.set i (some v)) := by
  refine ⟨by simp [s.len], fun j x h => ?_, fun j k x y u h1 h2 h3 h4 => ?_⟩
  · by_cases z : i = j
    · subst z
      have hi : i < ρ.length := by
        have := (List.getElem?_eq_some_iff.mp h).1
        simpa using this
      rw [List.getElem?_set_self hi] at h
      cases h
      exact ⟨v, by rw [List.getElem?_set_self (by rw [← s.len]; exact hi)], r⟩
    · rw [List.getElem?_set_ne z] at h ⊢
      exact s.get j x h
  · have n1 : i ≠ j := by
      intro z; subst z
      have hi : i < ρ.length := by
        have := (List.getElem?_eq_some_iff.mp h1).1
        simpa using this
      rw [List.getElem?_set_self hi] at h1; cases h1
    have n2 : i ≠ k := by
      intro z; subst z
      have hi : i < ρ.length := by
        have := (List.getElem?_eq_some_iff.mp h2).1
        simpa using this
      rw [List.getElem?_set_self hi] at h2; cases h2
    rw [List.getElem?_set_ne n1] at h1 h3
    rw [List.getElem?_set_ne n2] at h2 h4
    exact s.ne j k x y u h1 h2 h3 h4
theorem Slots.wipe1 {i : Nat} (s : Slots K H0 ρ Ω H σ) : Slots K H0 (ρ.set i none) Ω H (σ.set i none) := by
  have key : ∀ (j : Nat) (x : SV), (ρ.set i none)[j]? = some (some x) → i ≠ j ∧ ρ[j]? = some (some x) := fun j x h => by
    by_cases z : i = j
    · subst z
      have hi : i < ρ.length := by
        have := (List.getElem?_eq_some_iff.mp h).1
        simpa using this
      rw [List.getElem?_set_self hi] at h; cases h
    · rw [List.getElem?_set_ne z] at h; exact ⟨z, h⟩
  refine ⟨by simp [s.len], fun j x h => ?_, fun j k x y u h1 h2 h3 h4 => ?_⟩
  · obtain ⟨z, h⟩ := key j x h
    rw [List.getElem?_set_ne z]
    exact s.get j x h
  · obtain ⟨z1, h1⟩ := key j _ h1
    obtain ⟨z2, h2⟩ := key k _ h2
    rw [List.getElem?_set_ne z1] at h3
    rw [List.getElem?_set_ne z2] at h4
    exact s.ne j k x y u h1 h2 h3 h4
def wipeR (ρ : Rho) : List Nat → Rho
  | [] => ρ
  | v :: vs => (wipeR ρ vs).set v none
theorem Slots.wipe (s : Slots K H0 ρ Ω H σ) : ∀ vs : List Nat, Slots K H0 (wipeR ρ vs) Ω H (L2.wipe σ vs)
  | [] => s
  | v :: vs => by unfold wipeR L2.wipe; exact (s.wipe vs).wipe1
end

/-! ### what a piece of the text gives -/
/-- an error: the class's name and its fields -/
structure Xc where
  cls : Str
  fs : List (Str × D)
inductive Res (α : Type) where
  | ok (a : α) (g : G)
  | err (x : Xc) (g : G)
  | bad
inductive SRes where
  | nx (ρ : Rho) (g : G)
  | rt (d : D) (g : G)
  | bk (ρ : Rho) (g : G)
  | ct (ρ : Rho) (g : G)
  | err (x : Xc) (ρ : Rho) (g : G)
  | bad
abbrev DE := Rho → G → Res D
abbrev DT := Rho → G → Res Bool
abbrev DA := Rho → G → Res (List D)
abbrev DS := Rho → G → SRes
def Res.bind {α β : Type} (r : Res α) (f : α → G → Res β) : Res β := match r with
  | .ok a g => f a g
  | .err x g => .err x g
  | .bad => .bad

/-- how an error lies: which classes stand for which name (told by C) -/
structure Ax where
  /-- the class objects by name -/
  cls : Str → Value
def RepX (K : PySem.W.Frag) (C : Ax) (Ω : Om) (H : Hp) (x : Xc) (cls : Value) (dd : Option Addr) : Prop :=
  cls = C.cls x.cls ∧ match x.fs with
    | [] => True
    | fs => ∃ d vs, dd = some d ∧ H d = some (.xd ((fs.map (·.1)).zip vs)) ∧ RepL K Ω (fs.map (·.2)) vs

/-- the ground of a judgement: what stood at the def's entry, how errors lie -/
structure Gd where
  Ω0 : Om
  H0 : Hp
  C : Ax
abbrev SI := St
section
variable (K : PySem.W.Frag) (B : Gd)
/-- a state as told -/
structure At (ρ : Rho) (Ω : Om) (g : G) (σ : St) (H : Hp) : Prop where
  tr : Tr B.Ω0 B.H0 Ω H
  wf : Wf g Ω H
  sl : Slots K B.H0 ρ Ω H σ
def PostE (W : WX) (ρ : Rho) (Ω : Om) (σ : St) (H : Hp) (Q : VK) : Res D → Prop
  | .ok d g' => ∀ v Ω' H', Tr Ω H Ω' H' → Wf g' Ω' H' → Rep K Ω' d v → Q v H'
  | .err x g' => ∀ cls dd Ω' H', Tr Ω H Ω' H' → Wf g' Ω' H' → RepX K B.C Ω' H' x cls dd → W cls dd σ H'
  | .bad => False
def PostT (W : WX) (ρ : Rho) (Ω : Om) (σ : St) (H : Hp) (Q : Bool → Hp → Prop) : Res Bool → Prop
  | .ok b g' => ∀ Ω' H', Tr Ω H Ω' H' → Wf g' Ω' H' → Q b H'
  | .err x g' => ∀ cls dd Ω' H', Tr Ω H Ω' H' → Wf g' Ω' H' → RepX K B.C Ω' H' x cls dd → W cls dd σ H'
  | .bad => False
def PostA (W : WX) (ρ : Rho) (Ω : Om) (σ : St) (H : Hp) (Q : List V → Hp → Prop) : Res (List D) → Prop
  | .ok ds g' => ∀ vs Ω' H', Tr Ω H Ω' H' → Wf g' Ω' H' → RepL K Ω' ds vs → Q vs H'
  | .err x g' => ∀ cls dd Ω' H', Tr Ω H Ω' H' → Wf g' Ω' H' → RepX K B.C Ω' H' x cls dd → W cls dd σ H'
  | .bad => False
def PostS (W : WX) (Ω : Om) (D : Ends) : SRes → Prop
  | .nx ρ' g' => ∀ σ' Ω' H', Gr Ω Ω' → At K B ρ' Ω' g' σ' H' → D.nx σ' H'
  | .bk ρ' g' => ∀ σ' Ω' H', Gr Ω Ω' → At K B ρ' Ω' g' σ' H' → D.bk σ' H'
  | .ct ρ' g' => ∀ σ' Ω' H', Gr Ω Ω' → At K B ρ' Ω' g' σ' H' → D.ct σ' H'
  | .rt d g' => ∀ v Ω' H', Gr Ω Ω' → Tr B.Ω0 B.H0 Ω' H' → Wf g' Ω' H' → Rep K Ω' d v → D.rt v H'
  | .err x ρ' g' => ∀ cls dd σ' Ω' H', Gr Ω Ω' → At K B ρ' Ω' g' σ' H' → RepX K B.C Ω' H' x cls dd → W cls dd σ' H'
  | .bad => False
def wE (W : WX) (f : DE) : TE := fun σ H Q => ∃ ρ Ω g, At K B ρ Ω g σ H ∧ PostE K B W ρ Ω σ H Q (f ρ g)
def wT (W : WX) (f : DT) : TT := fun σ H Q => ∃ ρ Ω g, At K B ρ Ω g σ H ∧ PostT K B W ρ Ω σ H Q (f ρ g)
def wA (W : WX) (f : DA) : TA := fun σ H Q => ∃ ρ Ω g, At K B ρ Ω g σ H ∧ PostA K B W ρ Ω σ H Q (f ρ g)
def wS (W : WX) (f : DS) : TS := fun D σ H => ∃ ρ Ω g, At K B ρ Ω g σ H ∧ PostS K B W Ω D (f ρ g)
end
theorem At.go {K : PySem.W.Frag} {B : Gd} {ρ : Rho} {Ω Ω' : Om} {g g' : G} {σ : St} {H H' : Hp} (a : At K B ρ Ω g σ H) (t : Tr Ω H Ω' H') (w : Wf g' Ω' H') : At K B ρ Ω' g' σ H' := ⟨a.tr.trans t, w, a.sl.tr t⟩

/-- an expression, a test, arguments, a statement, a block: told by a function over data -/
def PD (X : Cx) (B : Gd) (W : WX) (e : Expr) (f : DE) : Prop := PE X e (wE X.K B W f)
def PDT (X : Cx) (B : Gd) (W : WX) (e : Expr) (f : DT) : Prop := PT X e (wT X.K B W f)
def PDW (X : Cx) (B : Gd) (W : WX) (e : Expr) (f : DT) : Prop := PW X e (wT X.K B W f)
def PDA (X : Cx) (B : Gd) (W : WX) (es : List Expr) (f : DA) : Prop := PA X es (wA X.K B W f)
def PDS (X : Cx) (B : Gd) (W : WX) (s : Stmt) (f : DS) : Prop := PS X s (wS X.K B W f)
def PDSs (X : Cx) (B : Gd) (W : WX) (s : List Stmt) (f : DS) : Prop := PSs X s (wS X.K B W f)

section
variable {X : Cx}
theorem PE.weak {e : Expr} {t t' : TE} (h : PE X e t) (k : ∀ σ H Q, t' σ H Q → t σ H Q) : PE X e t' := ⟨fun pins s σ H Q I q => h.run pins s σ H Q I (k σ H Q q)⟩
theorem PT.weak {e : Expr} {t t' : TT} (h : PT X e t) (k : ∀ σ H Q, t' σ H Q → t σ H Q) : PT X e t' := ⟨fun pins s σ H Q I q => h.run pins s σ H Q I (k σ H Q q)⟩
theorem PW.weak {e : Expr} {t t' : TT} (h : PW X e t) (k : ∀ σ H Q, t' σ H Q → t σ H Q) : PW X e t' := ⟨fun w pins s σ H Q I q => h.run w pins s σ H Q I (k σ H Q q)⟩
theorem PA.weak {es : List Expr} {t t' : TA} (h : PA X es t) (k : ∀ σ H Q, t' σ H Q → t σ H Q) : PA X es t' := ⟨fun pos pins s σ H Q I q => h.run pos pins s σ H Q I (k σ H Q q)⟩
theorem PS.weak {st : Stmt} {t t' : TS} (h : PS X st t) (k : ∀ D σ H, t' D σ H → t D σ H) : PS X st t' := ⟨fun pins s σ H D I q => h.run pins s σ H D I (k D σ H q)⟩
theorem PSs.weak {st : List Stmt} {t t' : TS} (h : PSs X st t) (k : ∀ D σ H, t' D σ H → t D σ H) : PSs X st t' := ⟨fun pins s σ H D I q => h.run pins s σ H D I (k D σ H q)⟩
end
end TS
namespace TS
open PySem L2
open Evl (Ex)

/-! ### rules of values -/
abbrev RP2 := V → V → Hp → VK → Prop
/-- an operation on two values gives what o gives on data -/
def OpD (K : PySem.W.Frag) (r : R2) (o : D → D → Option D) : Prop := ∀ (d1 d2 d : D) (Ω : Om) (g : G) (H : Hp) (x y : V) (Q : VK), o d1 d2 = some d → Wf g Ω H → Rep K Ω d1 x → Rep K Ω d2 y →
  (∀ v Ω' H', Tr Ω H Ω' H' → Wf g Ω' H' → Rep K Ω' d v → Q v H') → r x y H Q
def UnD (K : PySem.W.Frag) (r : V → Hp → VK → Prop) (o : D → Option D) : Prop := ∀ (d1 d : D) (Ω : Om) (g : G) (H : Hp) (x : V) (Q : VK), o d1 = some d → Wf g Ω H → Rep K Ω d1 x →
  (∀ v Ω' H', Tr Ω H Ω' H' → Wf g Ω' H' → Rep K Ω' d v → Q v H') → r x H Q
def ClD (K : PySem.W.Frag) (r : List V → Hp → VK → Prop) (o : List D → Option D) : Prop := ∀ (ds : List D) (d : D) (Ω : Om) (g : G) (H : Hp) (xs : List V) (Q : VK), o ds = some d → Wf g Ω H → RepL K Ω ds xs →
  (∀ v Ω' H', Tr Ω H Ω' H' → Wf g Ω' H' → Rep K Ω' d v → Q v H') → r xs H Q
theorem OpR.or {X : Cx} {f : Value → Value → Sem Value} {r r' : R2} (a : OpR X f r) (b : OpR X f r') : OpR X f (fun x y H Q => r x y H Q ∨ r' x y H Q) := fun pins s σ H x y v u Q I rx ry h => by
  rcases h with h | h
  · exact a pins s σ H x y v u Q I rx ry h
  · exact b pins s σ H x y v u Q I rx ry h
theorem CallR.or {X : Cx} {f : Value} {r r' : List V → Hp → VK → Prop} (a : CallR X f r) (b : CallR X f r') : CallR X f (fun xs H Q => r xs H Q ∨ r' xs H Q) := fun pins s σ H xs us Q I rx h => by
  rcases h with h | h
  · exact a pins s σ H xs us Q I rx h
  · exact b pins s σ H xs us Q I rx h
/-- the first that gives something -/
def alt2 (a b : D → D → Option D) : D → D → Option D := fun x y => match a x y with
  | some d => some d
  | none => b x y
def altL (a b : List D → Option D) : List D → Option D := fun x => match a x with
  | some d => some d
  | none => b x
theorem OpD.or {K : PySem.W.Frag} {r r' : R2} {a b : D → D → Option D} (h : OpD K r a) (h' : OpD K r' b) : OpD K (fun x y H Q => r x y H Q ∨ r' x y H Q) (alt2 a b) := fun d1 d2 d Ω g H x y Q e w r1 r2 k => by
  unfold alt2 at e
  cases q : a d1 d2 with
  | some d' => rw [q] at e; cases e; exact .inl (h d1 d2 d Ω g H x y Q q w r1 r2 k)
  | none => rw [q] at e; exact .inr (h' d1 d2 d Ω g H x y Q e w r1 r2 k)
theorem ClD.or {K : PySem.W.Frag} {r r' : List V → Hp → VK → Prop} {a b : List D → Option D} (h : ClD K r a) (h' : ClD K r' b) : ClD K (fun xs H Q => r xs H Q ∨ r' xs H Q) (altL a b) := fun ds d Ω g H xs Q e w r1 k => by
  unfold altL at e
  cases q : a ds with
  | some d' => rw [q] at e; cases e; exact .inl (h ds d Ω g H xs Q q w r1 k)
  | none => rw [q] at e; exact .inr (h' ds d Ω g H xs Q e w r1 k)

/-! ### expressions -/
def varE (i : Nat) : DE := fun ρ g => match ρ[i]? with
  | some (some (.dat d)) => .ok d g
  | _ => .bad
def cE (d : D) : DE := fun _ g => .ok d g
def lift {α β : Type} (o : α → Option β) (a : α) (g : G) : Res β := match o a with
  | some d => .ok d g
  | none => .bad
def opE (o : D → D → Option D) (fa fb : DE) : DE := fun ρ g => (fa ρ g).bind fun a g1 => (fb ρ g1).bind fun b g2 => match o a b with
  | some d => .ok d g2
  | none => .bad
def unE (o : D → Option D) (fa : DE) : DE := fun ρ g => (fa ρ g).bind fun a g1 => match o a with
  | some d => .ok d g1
  | none => .bad
def nilA : DA := fun _ g => .ok [] g
def consA (fa : DE) (fr : DA) : DA := fun ρ g => (fa ρ g).bind fun a g1 => (fr ρ g1).bind fun r g2 => .ok (a :: r) g2
def clE (o : List D → Option D) (fa : DA) : DE := fun ρ g => (fa ρ g).bind fun a g1 => match o a with
  | some d => .ok d g1
  | none => .bad
def toT (f : DE) : DT := fun ρ g => (f ρ g).bind fun a g1 => match a with
  | .bl b => .ok b g1
  | _ => .bad
def notT (f : DT) : DT := fun ρ g => (f ρ g).bind fun b g1 => .ok (!b) g1
def andT (f h : DT) : DT := fun ρ g => (f ρ g).bind fun b g1 => if b = true then h ρ g1 else .ok false g1
def orT (f h : DT) : DT := fun ρ g => (f ρ g).bind fun b g1 => if b = true then .ok true g1 else h ρ g1
def notE (f : DE) : DE := fun ρ g => (f ρ g).bind fun a g1 => match a with
  | .bl b => .ok (.bl (!b)) g1
  | _ => .bad
def andE (f h : DE) : DE := fun ρ g => (f ρ g).bind fun a g1 => match a with
  | .bl b => if b = true then h ρ g1 else .ok (.bl false) g1
  | _ => .bad
def orE (f h : DE) : DE := fun ρ g => (f ρ g).bind fun a g1 => match a with
  | .bl b => if b = true then .ok (.bl true) g1 else h ρ g1
  | _ => .bad
def ifE (t : DT) (fa fb : DE) : DE := fun ρ g => (t ρ g).bind fun b g1 => if b = true then fa ρ g1 else fb ρ g1
/-- x op y op' z -/
def chE (o o' : D → D → Option D) (fa fb fc : DE) : DE := fun ρ g => (fa ρ g).bind fun a g1 => (fb ρ g1).bind fun b g2 => match o a b with
  | some (.bl true) => (fc ρ g2).bind fun c g3 => (match o' b c with
    | some d => .ok d g3
    | none => .bad)
  | some (.bl false) => .ok (.bl false) g2
  | _ => .bad

section
variable {X : Cx} {B : Gd} {W : WX} {a b c e : Expr} {es : List Expr} {fa fb fc : DE} {pos : Pos}

/-- the reading of a part is followed by what is to be shown of what it gives -/
theorem wE.run {K : PySem.W.Frag} {ρ : Rho} {Ω : Om} {g : G} {σ : St} {H : Hp} {f : DE} {Q : VK} (A : At K B ρ Ω g σ H)
    (k1 : ∀ d g' v Ω' H', f ρ g = .ok d g' → Tr Ω H Ω' H' → Wf g' Ω' H' → Rep K Ω' d v → Q v H')
    (k2 : ∀ x g' cls dd Ω' H', f ρ g = .err x g' → Tr Ω H Ω' H' → Wf g' Ω' H' → RepX K B.C Ω' H' x cls dd → W cls dd σ H') (k3 : f ρ g ≠ .bad) : wE K B W f σ H Q := by
  refine ⟨ρ, Ω, g, A, ?_⟩
  cases h : f ρ g with
  | ok d g' => exact fun v Ω' H' t w r => k1 d g' v Ω' H' h t w r
  | err x g' => exact fun cls dd Ω' H' t w r => k2 x g' cls dd Ω' H' h t w r
  | bad => exact k3 h
theorem wT.run {K : PySem.W.Frag} {ρ : Rho} {Ω : Om} {g : G} {σ : St} {H : Hp} {f : DT} {Q : Bool → Hp → Prop} (A : At K B ρ Ω g σ H)
    (k1 : ∀ d g' Ω' H', f ρ g = .ok d g' → Tr Ω H Ω' H' → Wf g' Ω' H' → Q d H')
    (k2 : ∀ x g' cls dd Ω' H', f ρ g = .err x g' → Tr Ω H Ω' H' → Wf g' Ω' H' → RepX K B.C Ω' H' x cls dd → W cls dd σ H') (k3 : f ρ g ≠ .bad) : wT K B W f σ H Q := by
  refine ⟨ρ, Ω, g, A, ?_⟩
  cases h : f ρ g with
  | ok d g' => exact fun Ω' H' t w => k1 d g' Ω' H' h t w
  | err x g' => exact fun cls dd Ω' H' t w r => k2 x g' cls dd Ω' H' h t w r
  | bad => exact k3 h
theorem wA.run {K : PySem.W.Frag} {ρ : Rho} {Ω : Om} {g : G} {σ : St} {H : Hp} {f : DA} {Q : List V → Hp → Prop} (A : At K B ρ Ω g σ H)
    (k1 : ∀ d g' v Ω' H', f ρ g = .ok d g' → Tr Ω H Ω' H' → Wf g' Ω' H' → RepL K Ω' d v → Q v H')
    (k2 : ∀ x g' cls dd Ω' H', f ρ g = .err x g' → Tr Ω H Ω' H' → Wf g' Ω' H' → RepX K B.C Ω' H' x cls dd → W cls dd σ H') (k3 : f ρ g ≠ .bad) : wA K B W f σ H Q := by
  refine ⟨ρ, Ω, g, A, ?_⟩
  cases h : f ρ g with
  | ok d g' => exact fun v Ω' H' t w r => k1 d g' v Ω' H' h t w r
  | err x g' => exact fun cls dd Ω' H' t w r => k2 x g' cls dd Ω' H' h t w r
  | bad => exact k3 h

theorem pd_var (i : Nat) {x : Str} (h : PE X (.Name x pos) (tVar i)) : PD X B W (.Name x pos) (varE i) := by
  refine PE.weak h fun σ H Q q => ?_
  obtain ⟨ρ, Ω, g, A, p⟩ := q
  unfold varE at p
  split at p
  · rename_i d hd
    obtain ⟨v, h1, h2⟩ := A.sl.get i _ hd
    exact ⟨v, h1, p v Ω H (.refl _ _) A.wf h2⟩
  · exact p.elim
theorem pd_c {d : D} {v : V} (h : PE X e (tC v)) (r : ∀ Ω, Rep X.K Ω d v) : PD X B W e (cE d) := by
  refine PE.weak h fun σ H Q q => ?_
  obtain ⟨ρ, Ω, g, A, p⟩ := q
  exact p v Ω H (.refl _ _) A.wf (r Ω)
theorem pd_int {i : Int} {j} : PD X B W (.Constant (.int i) j pos) (cE (.int i)) := pd_c pe_int fun _ => rep_int.mpr rfl
theorem pd_bl {i : Bool} {j} : PD X B W (.Constant (.bool i) j pos) (cE (.bl i)) := pd_c pe_bl fun _ => rep_bl.mpr rfl
theorem pd_non {j} : PD X B W (.Constant .none j pos) (cE .non) := pd_c pe_non fun _ => rep_non.mpr rfl
theorem pd_str {x : Str} {j} : PD X B W (.Constant (.str x) j pos) (cE (.str x)) := pd_c pe_str fun _ => rep_str.mpr rfl

/-- two operands, then r -/
theorem opE_weak {r : R2} {o : D → D → Option D} (hr : OpD X.K r o) {σ : St} {H : Hp} {Q : VK} (q : wE X.K B W (opE o fa fb) σ H Q) : tOp r (wE X.K B W fa) (wE X.K B W fb) σ H Q := by
  obtain ⟨ρ, Ω, g, A, p⟩ := q
  unfold opE at p
  refine wE.run A (fun d1 g1 v1 Ω1 H1 e1 t1 w1 r1 => ?_) (fun x g1 cls dd Ω1 H1 e1 t1 w1 rx => ?_) (fun e1 => ?_)
  · rw [e1] at p
    refine wE.run (A.go t1 w1) (fun d2 g2 v2 Ω2 H2 e2 t2 w2 r2 => ?_) (fun x g2 cls dd Ω2 H2 e2 t2 w2 rx => ?_) (fun e2 => ?_)
    · simp only [Res.bind, e2] at p
      cases e : o d1 d2 with
      | none => rw [e] at p; exact p.elim
      | some d =>
        rw [e] at p
        exact hr d1 d2 d Ω2 g2 H2 v1 v2 Q e w2 (Rep.mono t2.gr _ _ r1) r2 fun v Ω' H' t w r => p v Ω' H' ((t1.trans t2).trans t) w r
    · simp only [Res.bind, e2] at p
      exact p cls dd Ω2 H2 (t1.trans t2) w2 rx
    · simp only [Res.bind, e2] at p
      exact p.elim
  · rw [e1] at p
    exact p cls dd Ω1 H1 t1 w1 rx
  · rw [e1] at p
    exact p.elim
theorem pd_bin {op : Operator} {r : R2} {o : D → D → Option D} (ho : OpR X (binaryOp op) r) (hr : OpD X.K r o) (ha : PD X B W a fa) (hb : PD X B W b fb) : PD X B W (.BinOp a op b pos) (opE o fa fb) :=
  PE.weak (pe_op ho ha hb) fun _ _ _ q => opE_weak hr q
theorem pd_cmp {op : CmpOp} {r : R2} {o : D → D → Option D} (ho : OpR X (compareOp op) r) (hr : OpD X.K r o) (ha : PD X B W a fa) (hb : PD X B W b fb) (hm : behindInMarks op b = false) : PD X B W (.Compare a [op] [b] pos) (opE o fa fb) :=
  PE.weak (pe_cmpR ho ha hb hm) fun _ _ _ q => opE_weak hr q
theorem toT_weak {t : TE} {f : DE} (hw : ∀ σ H Q, wE X.K B W f σ H Q → t σ H Q) {σ : St} {H : Hp} {Q : Bool → Hp → Prop} (q : wT X.K B W (toT f) σ H Q) : tTest t σ H Q := by
  obtain ⟨ρ, Ω, g, A, p⟩ := q
  unfold toT at p
  refine hw _ _ _ (wE.run A (fun d1 g1 v1 Ω1 H1 e1 t1 w1 r1 => ?_) (fun x g1 cls dd Ω1 H1 e1 t1 w1 rx => ?_) (fun e1 => ?_))
  · rw [e1] at p
    cases d1 with
    | bl k => exact ⟨k, rep_bl.mp r1, p Ω1 H1 t1 w1⟩
    | _ => exact p.elim
  · rw [e1] at p
    exact p cls dd Ω1 H1 t1 w1 rx
  · rw [e1] at p
    exact p.elim
theorem pdt_cmp {op : CmpOp} {r : R2} {o : D → D → Option D} (ho : OpR X (compareOp op) r) (hr : OpD X.K r o) (ha : PD X B W a fa) (hb : PD X B W b fb) (hm : behindInMarks op b = false) : PDT X B W (.Compare a [op] [b] pos) (toT (opE o fa fb)) :=
  PT.weak (pt_cmpR ho ha hb hm) fun _ _ _ q => toT_weak (fun _ _ _ q => opE_weak hr q) q
theorem pdt_val (h : PD X B W e fa) (he : ∀ whole, isTrue e X.env whole = (do let v ← whole; standAt e.pos; holding [v] (truthy v)) := by intro _; rfl) : PDT X B W e (toT fa) :=
  PT.weak (pt_val h he) fun _ _ _ q => toT_weak (fun _ _ _ q => q) q
theorem chE_weak {r r' : R2} {o o' : D → D → Option D} (hr : OpD X.K r o) (hr' : OpD X.K r' o') {σ : St} {H : Hp} {Q : VK} (q : wE X.K B W (chE o o' fa fb fc) σ H Q) : tChain r r' (wE X.K B W fa) (wE X.K B W fb) (wE X.K B W fc) σ H Q := by
  obtain ⟨ρ, Ω, g, A, p⟩ := q
  unfold chE at p
  refine wE.run A (fun d1 g1 v1 Ω1 H1 e1 t1 w1 r1 => ?_) (fun x g1 cls dd Ω1 H1 e1 t1 w1 rx => by rw [e1] at p; exact p cls dd Ω1 H1 t1 w1 rx) (fun e1 => by rw [e1] at p; exact p.elim)
  rw [e1] at p
  refine wE.run (A.go t1 w1) (fun d2 g2 v2 Ω2 H2 e2 t2 w2 r2 => ?_) (fun x g2 cls dd Ω2 H2 e2 t2 w2 rx => by simp only [Res.bind, e2] at p; exact p cls dd Ω2 H2 (t1.trans t2) w2 rx) (fun e2 => by simp only [Res.bind, e2] at p; exact p.elim)
  simp only [Res.bind, e2] at p
  cases e : o d1 d2 with
  | none => rw [e] at p; exact p.elim
  | some d =>
    rw [e] at p
    cases d with
    | bl k =>
      refine hr d1 d2 _ Ω2 g2 H2 v1 v2 _ e w2 (Rep.mono t2.gr _ _ r1) r2 fun v Ω3 H3 t3 w3 r3 => ⟨k, rep_bl.mp r3, ?_⟩
      cases k with
      | false =>
        show Q (V.bl false) H3
        exact p _ Ω3 H3 ((t1.trans t2).trans t3) w3 (rep_bl.mpr rfl)
      | true =>
        refine wE.run ((A.go t1 w1).go (t2.trans t3) w3) (fun d4 g4 v4 Ω4 H4 e4 t4 w4 r4 => ?_) (fun x g4 cls dd Ω4 H4 e4 t4 w4 rx => by simp only [e4] at p; exact p cls dd Ω4 H4 (((t1.trans t2).trans t3).trans t4) w4 rx) (fun e4 => by simp only [e4] at p; exact p.elim)
        simp only [e4] at p
        cases e5 : o' d2 d4 with
        | none => rw [e5] at p; exact p.elim
        | some d5 =>
          rw [e5] at p
          exact hr' d2 d4 d5 Ω4 g4 H4 v2 v4 Q e5 w4 (Rep.mono (t3.trans t4).gr _ _ r2) r4 fun v Ω' H' t w r => p v Ω' H' ((((t1.trans t2).trans t3).trans t4).trans t) w r
    | _ => exact p.elim
theorem pd_chain {op op' : CmpOp} {r r' : R2} {o o' : D → D → Option D} (ho : OpR X (compareOp op) r) (ho' : OpR X (compareOp op') r') (hr : OpD X.K r o) (hr' : OpD X.K r' o') (ha : PD X B W a fa) (hb : PD X B W b fb) (hc : PD X B W c fc)
    (hm : lastMarks [op, op'] [b, c] = false := by with_unfolding_all rfl) : PD X B W (.Compare a [op, op'] [b, c] pos) (chE o o' fa fb fc) :=
  PE.weak (pe_chain ho ho' ha hb hc hm) fun _ _ _ q => chE_weak hr hr' q
theorem pdt_chain {op op' : CmpOp} {r r' : R2} {o o' : D → D → Option D} (ho : OpR X (compareOp op) r) (ho' : OpR X (compareOp op') r') (hr : OpD X.K r o) (hr' : OpD X.K r' o') (ha : PD X B W a fa) (hb : PD X B W b fb) (hc : PD X B W c fc)
    (hm : lastMarks [op, op'] [b, c] = false := by with_unfolding_all rfl) : PDT X B W (.Compare a [op, op'] [b, c] pos) (toT (chE o o' fa fb fc)) :=
  PT.weak (pt_chain ho ho' ha hb hc hm) fun _ _ _ q => toT_weak (fun _ _ _ q => chE_weak hr hr' q) q
theorem pd_un {op : UnaryOp} {r : V → Hp → VK → Prop} {o : D → Option D} (ho : UnR X (unaryOp op) r) (hr : UnD X.K r o) (ha : PD X B W a fa) : PD X B W (.UnaryOp op a pos) (unE o fa) := by
  refine PE.weak (pe_un ho ha) fun σ H Q q => ?_
  obtain ⟨ρ, Ω, g, A, p⟩ := q
  unfold unE at p
  refine wE.run A (fun d1 g1 v1 Ω1 H1 e1 t1 w1 r1 => ?_) (fun x g1 cls dd Ω1 H1 e1 t1 w1 rx => by rw [e1] at p; exact p cls dd Ω1 H1 t1 w1 rx) (fun e1 => by rw [e1] at p; exact p.elim)
  rw [e1] at p
  simp only [Res.bind] at p
  cases e : o d1 with
  | none => rw [e] at p; exact p.elim
  | some d =>
    rw [e] at p
    exact hr d1 d Ω1 g1 H1 v1 Q e w1 r1 fun v Ω' H' t w r => p v Ω' H' (t1.trans t) w r
end

section
variable {X : Cx} {B : Gd} {W : WX} {a b c e : Expr} {es rest : List Expr} {fa fb fc : DE} {ft fu : DT} {fr : DA} {pos : Pos}
/-! ### and, or, not, if -/
theorem pdt_not (h : PDT X B W a ft) : PDT X B W (.UnaryOp .Not a pos) (notT ft) := by
  refine PT.weak (pt_not h) fun σ H Q q => ?_
  obtain ⟨ρ, Ω, g, A, p⟩ := q
  unfold notT at p
  refine wT.run A (fun d1 g1 Ω1 H1 e1 t1 w1 => ?_) (fun x g1 cls dd Ω1 H1 e1 t1 w1 rx => by rw [e1] at p; exact p cls dd Ω1 H1 t1 w1 rx) (fun e1 => by rw [e1] at p; exact p.elim)
  rw [e1] at p
  exact p Ω1 H1 t1 w1
theorem andT_weak {σ : St} {H : Hp} {Q : Bool → Hp → Prop} (q : wT X.K B W (andT ft fu) σ H Q) : tAnd (wT X.K B W ft) (wT X.K B W fu) σ H Q := by
  obtain ⟨ρ, Ω, g, A, p⟩ := q
  unfold andT at p
  refine wT.run A (fun d1 g1 Ω1 H1 e1 t1 w1 => ?_) (fun x g1 cls dd Ω1 H1 e1 t1 w1 rx => by rw [e1] at p; exact p cls dd Ω1 H1 t1 w1 rx) (fun e1 => by rw [e1] at p; exact p.elim)
  rw [e1] at p
  cases d1 with
  | false => exact p Ω1 H1 t1 w1
  | true =>
    refine wT.run (A.go t1 w1) (fun d2 g2 Ω2 H2 e2 t2 w2 => ?_) (fun x g2 cls dd Ω2 H2 e2 t2 w2 rx => ?_) (fun e2 => ?_)
    all_goals (simp only [Res.bind, if_true, e2] at p)
    · exact p Ω2 H2 (t1.trans t2) w2
    · exact p cls dd Ω2 H2 (t1.trans t2) w2 rx
    · exact p.elim
theorem orT_weak {σ : St} {H : Hp} {Q : Bool → Hp → Prop} (q : wT X.K B W (orT ft fu) σ H Q) : tOr (wT X.K B W ft) (wT X.K B W fu) σ H Q := by
  obtain ⟨ρ, Ω, g, A, p⟩ := q
  unfold orT at p
  refine wT.run A (fun d1 g1 Ω1 H1 e1 t1 w1 => ?_) (fun x g1 cls dd Ω1 H1 e1 t1 w1 rx => by rw [e1] at p; exact p cls dd Ω1 H1 t1 w1 rx) (fun e1 => by rw [e1] at p; exact p.elim)
  rw [e1] at p
  cases d1 with
  | true => exact p Ω1 H1 t1 w1
  | false =>
    refine wT.run (A.go t1 w1) (fun d2 g2 Ω2 H2 e2 t2 w2 => ?_) (fun x g2 cls dd Ω2 H2 e2 t2 w2 rx => ?_) (fun e2 => ?_)
    all_goals (simp only [Res.bind, Bool.false_eq_true, if_false, e2] at p)
    · exact p Ω2 H2 (t1.trans t2) w2
    · exact p cls dd Ω2 H2 (t1.trans t2) w2 rx
    · exact p.elim
theorem pdw_and1 (h : PDT X B W a ft) : PDW X B W (.BoolOp .And [a] pos) ft := pw_and1 h
theorem pdw_or1 (h : PDT X B W a ft) : PDW X B W (.BoolOp .Or [a] pos) ft := pw_or1 h
theorem pdw_and (h : PDT X B W a ft) (h2 : PDW X B W (.BoolOp .And (b :: rest) pos) fu) : PDW X B W (.BoolOp .And (a :: b :: rest) pos) (andT ft fu) := PW.weak (pw_and h h2) fun _ _ _ q => andT_weak q
theorem pdw_or (h : PDT X B W a ft) (h2 : PDW X B W (.BoolOp .Or (b :: rest) pos) fu) : PDW X B W (.BoolOp .Or (a :: b :: rest) pos) (orT ft fu) := PW.weak (pw_or h h2) fun _ _ _ q => orT_weak q
theorem pdt_w (h : PDW X B W e ft) : PDT X B W e ft := h.pt
theorem pd_one {op} (h : PD X B W a fa) : PD X B W (.BoolOp op [a] pos) fa := pe_one h
theorem pd_and (h : PD X B W a fa) (h2 : PD X B W (.BoolOp .And (b :: rest) pos) fb) : PD X B W (.BoolOp .And (a :: b :: rest) pos) (andE fa fb) := by
  refine PE.weak (pe_and h h2) fun σ H Q q => ?_
  obtain ⟨ρ, Ω, g, A, p⟩ := q
  unfold andE at p
  refine wE.run A (fun d1 g1 v1 Ω1 H1 e1 t1 w1 r1 => ?_) (fun x g1 cls dd Ω1 H1 e1 t1 w1 rx => by rw [e1] at p; exact p cls dd Ω1 H1 t1 w1 rx) (fun e1 => by rw [e1] at p; exact p.elim)
  rw [e1] at p
  simp only [Res.bind] at p
  cases d1 with
  | bl k =>
    refine ⟨k, rep_bl.mp r1, ?_⟩
    cases k with
    | false => exact p (.bl false) Ω1 H1 t1 w1 (rep_bl.mpr rfl)
    | true =>
      refine wE.run (A.go t1 w1) (fun d2 g2 v2 Ω2 H2 e2 t2 w2 r2 => ?_) (fun x g2 cls dd Ω2 H2 e2 t2 w2 rx => ?_) (fun e2 => ?_)
      all_goals (simp only [if_true, e2] at p)
      · exact p v2 Ω2 H2 (t1.trans t2) w2 r2
      · exact p cls dd Ω2 H2 (t1.trans t2) w2 rx
      · exact p.elim
  | _ => exact p.elim
theorem pd_or (h : PD X B W a fa) (h2 : PD X B W (.BoolOp .Or (b :: rest) pos) fb) : PD X B W (.BoolOp .Or (a :: b :: rest) pos) (orE fa fb) := by
  refine PE.weak (pe_or h h2) fun σ H Q q => ?_
  obtain ⟨ρ, Ω, g, A, p⟩ := q
  unfold orE at p
  refine wE.run A (fun d1 g1 v1 Ω1 H1 e1 t1 w1 r1 => ?_) (fun x g1 cls dd Ω1 H1 e1 t1 w1 rx => by rw [e1] at p; exact p cls dd Ω1 H1 t1 w1 rx) (fun e1 => by rw [e1] at p; exact p.elim)
  rw [e1] at p
  simp only [Res.bind] at p
  cases d1 with
  | bl k =>
    refine ⟨k, rep_bl.mp r1, ?_⟩
    cases k with
    | true => exact p (.bl true) Ω1 H1 t1 w1 (rep_bl.mpr rfl)
    | false =>
      refine wE.run (A.go t1 w1) (fun d2 g2 v2 Ω2 H2 e2 t2 w2 r2 => ?_) (fun x g2 cls dd Ω2 H2 e2 t2 w2 rx => ?_) (fun e2 => ?_)
      all_goals (simp only [Bool.false_eq_true, if_false, e2] at p)
      · exact p v2 Ω2 H2 (t1.trans t2) w2 r2
      · exact p cls dd Ω2 H2 (t1.trans t2) w2 rx
      · exact p.elim
  | _ => exact p.elim
theorem pd_not (h : PD X B W a fa) : PD X B W (.UnaryOp .Not a pos) (notE fa) := by
  refine PE.weak (pe_not h) fun σ H Q q => ?_
  obtain ⟨ρ, Ω, g, A, p⟩ := q
  unfold notE at p
  refine wE.run A (fun d1 g1 v1 Ω1 H1 e1 t1 w1 r1 => ?_) (fun x g1 cls dd Ω1 H1 e1 t1 w1 rx => by rw [e1] at p; exact p cls dd Ω1 H1 t1 w1 rx) (fun e1 => by rw [e1] at p; exact p.elim)
  rw [e1] at p
  simp only [Res.bind] at p
  cases d1 with
  | bl k => exact ⟨k, rep_bl.mp r1, p (.bl (!k)) Ω1 H1 t1 w1 (rep_bl.mpr rfl)⟩
  | _ => exact p.elim
theorem pd_if (h : PDT X B W c ft) (ha : PD X B W a fa) (hb : PD X B W b fb) : PD X B W (.IfExp c a b pos) (ifE ft fa fb) := by
  refine PE.weak (pe_ifExp h ha hb) fun σ H Q q => ?_
  obtain ⟨ρ, Ω, g, A, p⟩ := q
  unfold ifE at p
  refine wT.run A (fun d1 g1 Ω1 H1 e1 t1 w1 => ?_) (fun x g1 cls dd Ω1 H1 e1 t1 w1 rx => by rw [e1] at p; exact p cls dd Ω1 H1 t1 w1 rx) (fun e1 => by rw [e1] at p; exact p.elim)
  rw [e1] at p
  cases d1 with
  | true =>
    refine wE.run (A.go t1 w1) (fun d2 g2 v2 Ω2 H2 e2 t2 w2 r2 => ?_) (fun x g2 cls dd Ω2 H2 e2 t2 w2 rx => ?_) (fun e2 => ?_)
    all_goals (simp only [Res.bind, if_true, e2] at p)
    · exact p v2 Ω2 H2 (t1.trans t2) w2 r2
    · exact p cls dd Ω2 H2 (t1.trans t2) w2 rx
    · exact p.elim
  | false =>
    refine wE.run (A.go t1 w1) (fun d2 g2 v2 Ω2 H2 e2 t2 w2 r2 => ?_) (fun x g2 cls dd Ω2 H2 e2 t2 w2 rx => ?_) (fun e2 => ?_)
    all_goals (simp only [Res.bind, Bool.false_eq_true, if_false, e2] at p)
    · exact p v2 Ω2 H2 (t1.trans t2) w2 r2
    · exact p cls dd Ω2 H2 (t1.trans t2) w2 rx
    · exact p.elim

/-! ### arguments, displays, calls -/
theorem pda_nil : PDA X B W [] nilA := PA.weak pa_nil fun σ H Q q => by
  obtain ⟨ρ, Ω, g, A, p⟩ := q
  exact p [] Ω H (.refl _ _) A.wf .nil
theorem pda_cons (h : PD X B W a fa) (h2 : PDA X B W es fr) (hs : starEach (a :: es) X.env = (false, eval a X.env) :: starEach es X.env := by rfl) : PDA X B W (a :: es) (consA fa fr) := by
  refine PA.weak (pa_cons h h2 hs) fun σ H Q q => ?_
  obtain ⟨ρ, Ω, g, A, p⟩ := q
  unfold consA at p
  refine wE.run A (fun d1 g1 v1 Ω1 H1 e1 t1 w1 r1 => ?_) (fun x g1 cls dd Ω1 H1 e1 t1 w1 rx => by rw [e1] at p; exact p cls dd Ω1 H1 t1 w1 rx) (fun e1 => by rw [e1] at p; exact p.elim)
  rw [e1] at p
  refine wA.run (A.go t1 w1) (fun d2 g2 v2 Ω2 H2 e2 t2 w2 r2 => ?_) (fun x g2 cls dd Ω2 H2 e2 t2 w2 rx => ?_) (fun e2 => ?_)
  all_goals (simp only [Res.bind, e2] at p)
  · exact p _ Ω2 H2 (t1.trans t2) w2 (.cons (Rep.mono t2.gr _ _ r1) r2)
  · exact p cls dd Ω2 H2 (t1.trans t2) w2 rx
  · exact p.elim
def tupO (ds : List D) : Option D := if ds.length ≤ 100000 then some (.tup ds) else none
def lstO (ds : List D) : Option D := if ds.length ≤ sizeLine then some (.lst ds) else none
theorem sizeBig {n : Nat} (h : n ≤ 100000) : n ≤ sizeLine := Evl.sz_of h
theorem clE_weak {r : List V → Hp → VK → Prop} {o : List D → Option D} (hr : ClD X.K r o) {σ : St} {H : Hp} {Q : VK} (q : wE X.K B W (clE o fr) σ H Q) : tCB r (wA X.K B W fr) σ H Q := by
  obtain ⟨ρ, Ω, g, A, p⟩ := q
  unfold clE at p
  refine wA.run A (fun d1 g1 v1 Ω1 H1 e1 t1 w1 r1 => ?_) (fun x g1 cls dd Ω1 H1 e1 t1 w1 rx => by rw [e1] at p; exact p cls dd Ω1 H1 t1 w1 rx) (fun e1 => by rw [e1] at p; exact p.elim)
  rw [e1] at p
  simp only [Res.bind] at p
  cases e : o d1 with
  | none => rw [e] at p; exact p.elim
  | some d =>
    rw [e] at p
    exact hr d1 d Ω1 g1 H1 v1 Q e w1 r1 fun v Ω' H' t w r => p v Ω' H' (t1.trans t) w r
theorem cl_tup {K : PySem.W.Frag} : ClD K (fun xs H Q => xs.length ≤ sizeLine ∧ ∀ p, H p = none → Q (.ref p) (upd H p (.tup xs))) tupO := fun ds d Ω g H xs Q e w r k => by
  unfold tupO at e
  split at e
  · rename_i hl
    cases e
    refine ⟨by rw [← r.length]; exact sizeBig hl, fun p hp => k _ (Ω.add p (.tup xs)) _ (.alloc w.sub hp) (w.alloc hp) (rep_tup.mpr ⟨p, xs, rfl, .inl (.inl add_get), ?_⟩)⟩
    exact RepL.mono (Tr.alloc w.sub hp).gr _ _ r
  · cases e
theorem cl_lst {K : PySem.W.Frag} : ClD K (fun xs H Q => xs.length ≤ sizeLine ∧ ∀ p, H p = none → Q (.ref p) (upd H p (.lst xs))) lstO := fun ds d Ω g H xs Q e w r k => by
  unfold lstO at e
  split at e
  · rename_i hl
    cases e
    refine ⟨by rw [← r.length]; exact hl, fun p hp => k _ (Ω.add p (.lst xs)) _ (.alloc w.sub hp) (w.alloc hp) (rep_lst.mpr ⟨p, xs, rfl, add_get, ?_⟩)⟩
    exact RepL.mono (Tr.alloc w.sub hp).gr _ _ r
  · cases e
theorem pd_tup {x1} (h : PDA X B W es fr) : PD X B W (.Tuple es x1 pos) (clE tupO fr) := PE.weak (pe_tup h) fun _ _ _ q => clE_weak cl_tup q
theorem pd_lst (h : PDA X B W es fr) : PD X B W (.List es pos) (clE lstO fr) := PE.weak (pe_lst h) fun _ _ _ q => clE_weak cl_lst q
/-- a built-in function, a built-in class, called -/
theorem pd_blt {r : List V → Hp → VK → Prop} {o : List D → Option D} {id : String} {x : Str} {p : Pos} (hr : ClD X.K r o) (hc : CallR X (.builtin id) r) (hg : Gl X x) (hm : X.mg x = none) (hv : bootBuiltins x = some (.builtin id)) (ha : PDA X B W (e :: es) fr)
    (hn : x ≠ "__name__" := by decide) (hdb : (x == ("__debug__" : Str)) = false := by decide) (he : starEach (e :: es) X.env = (false, eval e X.env) :: starEach es X.env := by rfl) (hpl : (backTo pos (starEach es X.env)).any (·.1) = false := by rfl) : PD X B W (.Call (.Name x p) (e :: es) [] pos) (clE o fr) :=
  PE.weak (pe_callB hc hg hm hv ha hn hdb he hpl) fun _ _ _ q => clE_weak hr q
theorem pd_bty {r : List V → Hp → VK → Prop} {o : List D → Option D} {T : String} {x : Str} {p : Pos} (hr : ClD X.K r o) (hc : CallR X (.type T) r) (hg : Gl X x) (hm : X.mg x = none) (hv : bootBuiltins x = some (.type T)) (ha : PDA X B W (e :: es) fr)
    (hn : x ≠ "__name__" := by decide) (hdb : (x == ("__debug__" : Str)) = false := by decide) (he : starEach (e :: es) X.env = (false, eval e X.env) :: starEach es X.env := by rfl) (hpl : (backTo pos (starEach es X.env)).any (·.1) = false := by rfl) : PD X B W (.Call (.Name x p) (e :: es) [] pos) (clE o fr) :=
  PE.weak (pe_callTy hc hg hm hv ha hn hdb he hpl) fun _ _ _ q => clE_weak hr q
/-- x[i] -/
theorem pd_ix {r : R2} {o : D → D → Option D} (ho : IxR X r) (hr : OpD X.K r o) (ha : PD X B W a fa) (hb : PD X B W b fb) (hs : PlainIx b := by intro _ _; rfl) : PD X B W (.Subscript a b pos) (opE o fa fb) :=
  PE.weak (pe_ix ho ha hb hs) fun _ _ _ q => opE_weak hr q
end

/-! ### calls of the text's own defs -/
abbrev DF := List D → G → Res D
/-- the promise of a def that is told by f -/
def spD (K : PySem.W.Frag) (C : Ax) (n : Nat) (f : DF) : Sp := fun vs H Q E => ∃ ds Ω g, RepL K Ω ds vs ∧ Wf g Ω H ∧ ds.length = n ∧ (match f ds g with
  | .ok d g' => ∀ v Ω' H', Tr Ω H Ω' H' → Wf g' Ω' H' → Rep K Ω' d v → Q v H'
  | .err x g' => ∀ cls dd Ω' H', Tr Ω H Ω' H' → Wf g' Ω' H' → RepX K C Ω' H' x cls dd → E cls dd H'
  | .bad => False)
def callE (n : Nat) (f : DF) (fr : DA) : DE := fun ρ g => (fr ρ g).bind fun ds g1 => if ds.length = n then f ds g1 else .bad
section
variable {X : Cx} {B : Gd} {W : WX} {e : Expr} {es : List Expr} {fr : DA} {pos p : Pos} {k n : Nat} {f : Addr} {fd : FuncData} {ps : List Str} {F : DF} {x : Str}
/-- a def of the text as the callers know it -/
structure Has (P : Program) (w : World) (K : PySem.W.Frag) (mg : Str → Option Value) (base : Heap) (C : Ax) (k : Nat) (x : Str) (ps : List Str) (F : DF) : Prop where
  ex : ∃ (f : Addr) (fd : FuncData), mg x = some (.ref f) ∧ PySem.W.keepIn K (.ref f) = true ∧ Binds K fd ps [] ∧ FnOk P w K mg base (L2.CX P w) k f fd ps (spD K C ps.length F)
theorem tCall_weak {σ : St} {H : Hp} {Q : VK} {t : TA} (ht : ∀ Q', wA X.K B W fr σ H Q' → t σ H Q') (q : wE X.K B W (callE n F fr) σ H Q) : tCallSD (spD X.K B.C n F) [] (fun σ cls dd H' => W cls dd σ H') t σ H Q := by
  obtain ⟨ρ, Ω, g, A, p⟩ := q
  unfold callE at p
  refine ht _ (wA.run A (fun d1 g1 v1 Ω1 H1 e1 t1 w1 r1 => ?_) (fun x g1 cls dd Ω1 H1 e1 t1 w1 rx => by rw [e1] at p; exact p cls dd Ω1 H1 t1 w1 rx) (fun e1 => by rw [e1] at p; exact p.elim))
  rw [e1] at p
  simp only [Res.bind] at p
  split at p
  · rename_i hl
    rw [List.append_nil]
    refine ⟨d1, Ω1, g1, r1, w1, hl, ?_⟩
    cases e2 : F d1 g1 with
    | ok d g' => rw [e2] at p; exact fun v Ω' H' t w r => p v Ω' H' (t1.trans t) w r
    | err x g' => rw [e2] at p; exact fun cls dd Ω' H' t w r => p cls dd Ω' H' (t1.trans t) w r
    | bad => rw [e2] at p; exact p.elim
  · exact p.elim
theorem passD (tk : Takes X W) (σ : St) : PassesAt (L2.CX X.prog X.w) X σ (fun cls dd H' => W cls dd σ H') := passAt tk σ
theorem pd_call (Hf : Has X.prog X.w X.K X.mg X.base B.C k x ps F) (hr : Room k X.A) (tk : Takes X W) (hg : Gl X x) (ha : PDA X B W (e :: es) fr)
    (hdb : (x == ("__debug__" : Str)) = false := by decide) (he : starEach (e :: es) X.env = (false, eval e X.env) :: starEach es X.env := by rfl) (hpl : (backTo pos (starEach es X.env)).any (·.1) = false := by rfl) :
    PD X B W (.Call (.Name x p) (e :: es) [] pos) (callE ps.length F fr) := by
  obtain ⟨f, fd, h1, h2, h3, h4⟩ := Hf.ex
  exact PE.weak (pe_callSD h4 hr hg h1 h2 h3 .nil (fun σ => passD tk σ) ha hdb he hpl) fun σ H Q q => tCall_weak (fun _ q => q) q
end
end TS
namespace TS
open PySem L2
open Evl (Ex)

/-! ### targets -/
inductive Tg where
  | one (i : Nat)
  | many (is : List Nat)
def putAll : List Nat → List D → Rho → Rho
  | i :: is, d :: ds, ρ => putAll is ds (ρ.set i (some (.dat d)))
  | _, _, ρ => ρ
def Tg.put : Tg → D → Rho → Option Rho
  | .one i, d, ρ => some (ρ.set i (some (.dat d)))
  | .many is, .tup ds, ρ => if is.length = ds.length then some (putAll is ds ρ) else none
  | .many _, _, _ => none
def Tg.names : Tg → List Nat
  | .one i => [i]
  | .many is => is
def gNames : List Nat → TGs
  | [] => gNil
  | i :: is => gCons (gName i) (gNames is)
def gT (K : PySem.W.Frag) : Tg → TG
  | .one i => gName i
  | .many is => gTup K is.length (gNames is)
def PDG (X : Cx) (tg : Expr) (t : Tg) : Prop := PG X tg (gT X.K t)
theorem wipe_set {σ : St} {i : Nat} {v : Option V} : ∀ {vs : List Nat}, i ∈ vs → wipe (σ.set i v) vs = wipe σ vs
  | [], h => by cases h
  | w :: vs, h => by
    unfold wipe
    by_cases z : w = i
    · subst z
      by_cases hm : w ∈ vs
      · rw [wipe_set hm]
      · have key : ∀ (us : List Nat), w ∉ us → wipe (σ.set w v) us = (wipe σ us).set w v := by
          intro us
          induction us with
          | nil => intro _; rfl
          | cons u us ih =>
            intro hu
            unfold wipe
            rw [ih (fun q => hu (List.mem_cons_of_mem _ q)), List.set_comm _ _ (fun q => hu (by rw [q]; exact List.mem_cons_self))]
        rw [key vs hm, List.set_set]
    · rw [wipe_set (by rcases List.mem_cons.mp h with q | q; exact absurd q.symm z; exact q)]
theorem gNames_ok {K : PySem.W.Frag} {H0 : Hp} {Ω : Om} {H : Hp} {Q : St → Hp → Prop} : ∀ (is : List Nat) (ds : List D) (vs : List V) (ρ : Rho) (σ : St), Slots K H0 ρ Ω H σ → RepL K Ω ds vs → is.length = ds.length →
    (∀ σ', Slots K H0 (putAll is ds ρ) Ω H σ' → (∀ us, (∀ i ∈ is, i ∈ us) → wipe σ' us = wipe σ us) → Q σ' H) → gNames is vs σ H Q
  | [], [], vs, ρ, σ, s, r, _, k => ⟨repL_nil.mp r, k σ s fun _ _ => rfl⟩
  | i :: is, d :: ds, vs, ρ, σ, s, r, hl, k => by
    obtain ⟨v, r', rfl, h2, h3⟩ := repL_cons.mp r
    refine ⟨v, r', rfl, ?_⟩
    show gNames is r' (σ.set i (some v)) H Q
    refine gNames_ok is ds r' _ _ (s.set h2) h3 (by simpa using hl) fun σ' s' q => k σ' s' fun us hu => ?_
    rw [q us fun j hj => hu j (List.mem_cons_of_mem _ hj), wipe_set (hu i List.mem_cons_self)]
  | [], _ :: _, _, _, _, _, _, hl, _ => by cases hl
  | _ :: _, [], _, _, _, _, _, hl, _ => by cases hl
theorem gT_ok {K : PySem.W.Frag} {H0 : Hp} {Ω : Om} {g : G} {H : Hp} {Q : St → Hp → Prop} {t : Tg} {d : D} {v : V} {ρ ρ' : Rho} {σ : St} (w : Wf g Ω H) (s : Slots K H0 ρ Ω H σ) (r : Rep K Ω d v) (e : t.put d ρ = some ρ')
    (k : ∀ σ', Slots K H0 ρ' Ω H σ' → (∀ us, (∀ i ∈ t.names, i ∈ us) → wipe σ' us = wipe σ us) → Q σ' H) : gT K t v σ H Q := by
  cases t with
  | one i =>
    cases e
    exact k _ (s.set r) fun us hu => wipe_set (hu i List.mem_cons_self)
  | many is =>
    cases d with
    | tup ds =>
      have e : (if is.length = ds.length then some (putAll is ds ρ) else none) = some ρ' := e
      split at e
      · rename_i hl
        cases e
        obtain ⟨a, xs, rfl, h2, h3⟩ := rep_tup.mp r
        refine ⟨a, xs, rfl, Evl.ex_t w.sub h2, by rw [← h3.length, hl], ?_⟩
        exact gNames_ok is ds xs ρ σ s h3 hl k
      · cases e
    | _ => cases e

/-! ### statements -/
def nxS : DS := fun ρ g => .nx ρ g
def seqS (f h : DS) : DS := fun ρ g => match f ρ g with
  | .nx ρ' g' => h ρ' g'
  | r => r
def ifS (t : DT) (f h : DS) : DS := fun ρ g => match t ρ g with
  | .ok b g1 => if b = true then f ρ g1 else h ρ g1
  | .err x g1 => .err x ρ g1
  | .bad => .bad
def retS (f : DE) : DS := fun ρ g => match f ρ g with
  | .ok d g1 => .rt d g1
  | .err x g1 => .err x ρ g1
  | .bad => .bad
def dropS (f : DE) : DS := fun ρ g => match f ρ g with
  | .ok _ g1 => .nx ρ g1
  | .err x g1 => .err x ρ g1
  | .bad => .bad
def asgS (t : Tg) (f : DE) : DS := fun ρ g => match f ρ g with
  | .ok d g1 => (match t.put d ρ with
    | some ρ' => .nx ρ' g1
    | none => .bad)
  | .err x g1 => .err x ρ g1
  | .bad => .bad
def badS : DS := fun _ _ => .bad
/-- x op= e -/
def augS (i : Nat) (o : D → D → Option D) (f : DE) : DS := fun ρ g => match ρ[i]? with
  | some (some (.dat a)) => (match f ρ g with
    | .ok d g1 => (match o a d with
      | some z => .nx (ρ.set i (some (.dat z))) g1
      | none => .bad)
    | .err x g1 => .err x ρ g1
    | .bad => .bad)
  | _ => .bad
@[irreducible] def forL (t : Tg) (b : DS) : List D → DS
  | [], ρ, g => .nx ρ g
  | d :: ds, ρ, g => match t.put d ρ with
    | none => .bad
    | some ρ1 => match b ρ1 g with
      | .nx ρ2 g2 => forL t b ds ρ2 g2
      | .ct ρ2 g2 => forL t b ds ρ2 g2
      | .bk ρ2 g2 => .nx ρ2 g2
      | r => r
def forS (fi : DA) (t : Tg) (b : DS) : DS := fun ρ g => match fi ρ g with
  | .ok ds g1 => forL t b ds ρ g1
  | .err x g1 => .err x ρ g1
  | .bad => .bad
def whileF (t : DT) (b : DS) : Nat → DS
  | 0, _, _ => .bad
  | n + 1, ρ, g => match t ρ g with
    | .ok c g1 => if c = true then (match b ρ g1 with
      | .nx ρ2 g2 => whileF t b n ρ2 g2
      | .ct ρ2 g2 => whileF t b n ρ2 g2
      | .bk ρ2 g2 => .nx ρ2 g2
      | r => r) else .nx ρ g1
    | .err x g1 => .err x ρ g1
    | .bad => .bad
theorem whileF_succ {t : DT} {b : DS} (n : Nat) (ρ : Rho) (g : G) : whileF t b (n + 1) ρ g = (match t ρ g with
    | .ok c g1 => if c = true then (match b ρ g1 with
      | .nx ρ2 g2 => whileF t b n ρ2 g2
      | .ct ρ2 g2 => whileF t b n ρ2 g2
      | .bk ρ2 g2 => .nx ρ2 g2
      | r => r) else .nx ρ g1
    | .err x g1 => .err x ρ g1
    | .bad => .bad) := rfl
theorem forL_nil {t : Tg} {b : DS} (ρ : Rho) (g : G) : forL t b [] ρ g = .nx ρ g := by rw [forL]
theorem forL_cons {t : Tg} {b : DS} (d : D) (ds : List D) (ρ : Rho) (g : G) : forL t b (d :: ds) ρ g = (match t.put d ρ with
    | none => .bad
    | some ρ1 => match b ρ1 g with
      | .nx ρ2 g2 => forL t b ds ρ2 g2
      | .ct ρ2 g2 => forL t b ds ρ2 g2
      | .bk ρ2 g2 => .nx ρ2 g2
      | r => r) := by rw [forL]
open Classical in
noncomputable def whileS (t : DT) (b : DS) : DS := fun ρ g => if h : ∃ n, whileF t b n ρ g ≠ .bad then whileF t b (Classical.choose h) ρ g else .bad
theorem whileF_more {t : DT} {b : DS} : ∀ (n : Nat) (ρ : Rho) (g : G), whileF t b n ρ g ≠ .bad → whileF t b (n + 1) ρ g = whileF t b n ρ g
  | 0, ρ, g, h => absurd rfl h
  | n + 1, ρ, g, h => by
    rw [whileF_succ] at h
    rw [whileF_succ, whileF_succ n]
    split
    · rename_i c g1 e
      rw [e] at h
      simp only at h
      split
      · rename_i hc
        rw [if_pos hc] at h
        split
        · rename_i ρ2 g2 e2
          rw [e2] at h
          exact whileF_more n ρ2 g2 h
        · rename_i ρ2 g2 e2
          rw [e2] at h
          exact whileF_more n ρ2 g2 h
        · rfl
        · rfl
      · rfl
    · rfl
    · rfl
theorem whileF_le {t : DT} {b : DS} {ρ : Rho} {g : G} {n : Nat} (h : whileF t b n ρ g ≠ .bad) : ∀ k, whileF t b (n + k) ρ g = whileF t b n ρ g
  | 0 => rfl
  | k + 1 => by
    have e := whileF_le h k
    rw [← e, Nat.add_succ]
    exact whileF_more _ _ _ (by rw [e]; exact h)
theorem whileS_eq {t : DT} {b : DS} {ρ : Rho} {g : G} {n : Nat} {r : SRes} (h : whileF t b n ρ g = r) (hr : r ≠ .bad) : whileS t b ρ g = r := by
  have ex : ∃ n, whileF t b n ρ g ≠ .bad := ⟨n, by rw [h]; exact hr⟩
  unfold whileS
  rw [dif_pos ex]
  have h1 := Classical.choose_spec ex
  have h2 : whileF t b n ρ g ≠ .bad := by rw [h]; exact hr
  rw [← whileF_le h1 n, Nat.add_comm, whileF_le h2]
  exact h
theorem whileS_ex {t : DT} {b : DS} {ρ : Rho} {g : G} (h : whileS t b ρ g ≠ .bad) : ∃ n, whileF t b n ρ g = whileS t b ρ g := by
  unfold whileS at h ⊢
  split
  · exact ⟨_, rfl⟩
  · rename_i q
    rw [dif_neg q] at h
    exact absurd rfl h
/-- one turn -/
theorem whileS_step {t : DT} {b : DS} {ρ : Rho} {g g1 : G} {ρ2 : Rho} {g2 : G} (h : t ρ g = .ok true g1) (hb : b ρ g1 = .nx ρ2 g2) : whileS t b ρ g = whileS t b ρ2 g2 := by
  by_cases q : ∃ n, whileF t b n ρ2 g2 ≠ .bad
  · obtain ⟨n, hn⟩ := q
    rw [whileS_eq (n := n) rfl hn]
    refine whileS_eq (n := n + 1) ?_ hn
    rw [whileF_succ, h]
    simp only [if_true, hb]
  · have q1 : ¬ ∃ n, whileF t b n ρ g ≠ .bad := by
      rintro ⟨n, hn⟩
      cases n with
      | zero => exact hn rfl
      | succ n =>
        apply q
        refine ⟨n, ?_⟩
        rw [whileF_succ, h] at hn
        simp only [if_true, hb] at hn
        exact hn
    unfold whileS
    rw [dif_neg q, dif_neg q1]
theorem whileS_end {t : DT} {b : DS} {ρ : Rho} {g g1 : G} (h : t ρ g = .ok false g1) : whileS t b ρ g = .nx ρ g1 := by
  refine whileS_eq (n := 1) ?_ (by intro z; cases z)
  rw [whileF_succ, h]
  simp

section
variable {X : Cx} {B : Gd} {W : WX} {st : Stmt} {rest sa sb : List Stmt} {e c a b : Expr} {f h : DS} {fe : DE} {ft : DT} {fr : DA} {pos : Pos}
theorem wS.run {K : PySem.W.Frag} {ρ : Rho} {Ω : Om} {g : G} {σ : St} {H : Hp} {f : DS} {D : Ends} (A : At K B ρ Ω g σ H) (k : PostS K B W Ω D (f ρ g)) : wS K B W f D σ H := ⟨ρ, Ω, g, A, k⟩
theorem PostS.gr {K : PySem.W.Frag} {Ω Ω' : Om} {D : Ends} {r : SRes} (e : Gr Ω Ω') (p : PostS K B W Ω D r) : PostS K B W Ω' D r := by
  cases r with
  | nx ρ g => exact fun σ' Ω'' H' q A => p σ' Ω'' H' (e.trans q) A
  | bk ρ g => exact fun σ' Ω'' H' q A => p σ' Ω'' H' (e.trans q) A
  | ct ρ g => exact fun σ' Ω'' H' q A => p σ' Ω'' H' (e.trans q) A
  | rt d g => exact fun v Ω'' H' q t w r => p v Ω'' H' (e.trans q) t w r
  | err x ρ g => exact fun cls dd σ' Ω'' H' q A r => p cls dd σ' Ω'' H' (e.trans q) A r
  | bad => exact p
/-- an expression ahead of the rest of a statement -/
theorem stE {K : PySem.W.Frag} {ρ : Rho} {Ω : Om} {g : G} {σ : St} {H : Hp} {Q : VK} (A : At K B ρ Ω g σ H) (hb : fe ρ g ≠ .bad) (hx : ∀ x g', fe ρ g = .err x g' → ∀ cls dd σ' Ω' H', Gr Ω Ω' → At K B ρ Ω' g' σ' H' → RepX K B.C Ω' H' x cls dd → W cls dd σ' H')
    (hk : ∀ d g' v Ω' H', fe ρ g = .ok d g' → Gr Ω Ω' → At K B ρ Ω' g' σ H' → Rep K Ω' d v → Q v H') : wE K B W fe σ H Q :=
  wE.run A (fun d g' v Ω' H' e t w r => hk d g' v Ω' H' e t.gr (A.go t w) r) (fun x g' cls dd Ω' H' e t w r => hx x g' e cls dd σ Ω' H' t.gr (A.go t w) r) hb
theorem stT {K : PySem.W.Frag} {ρ : Rho} {Ω : Om} {g : G} {σ : St} {H : Hp} {Q : Bool → Hp → Prop} (A : At K B ρ Ω g σ H) (hb : ft ρ g ≠ .bad) (hx : ∀ x g', ft ρ g = .err x g' → ∀ cls dd σ' Ω' H', Gr Ω Ω' → At K B ρ Ω' g' σ' H' → RepX K B.C Ω' H' x cls dd → W cls dd σ' H')
    (hk : ∀ d g' Ω' H', ft ρ g = .ok d g' → Gr Ω Ω' → At K B ρ Ω' g' σ H' → Q d H') : wT K B W ft σ H Q :=
  wT.run A (fun d g' Ω' H' e t w => hk d g' Ω' H' e t.gr (A.go t w)) (fun x g' cls dd Ω' H' e t w r => hx x g' e cls dd σ Ω' H' t.gr (A.go t w) r) hb

theorem pds_nil : PDSs X B W [] nxS := PSs.weak pss_nil fun D σ H q => by
  obtain ⟨ρ, Ω, g, A, p⟩ := q
  exact p σ Ω H (.refl _) A
theorem pds_one (h : PDS X B W st f) : PDSs X B W [st] f := pss_one h
theorem pds_cons (h1 : PDS X B W st f) (h2 : PDSs X B W rest h) : PDSs X B W (st :: rest) (seqS f h) := PSs.weak (pss_cons h1 h2) fun D σ H q => by
  obtain ⟨ρ, Ω, g, A, p⟩ := q
  refine wS.run A ?_
  unfold seqS at p
  cases e : f ρ g with
  | nx ρ' g' =>
    rw [e] at p
    exact fun σ' Ω' H' gr A' => wS.run A' (p.gr gr)
  | _ => rw [e] at p; exact p
theorem pds_if (hc : PDT X B W c ft) (ha : PDSs X B W sa f) (hb : PDSs X B W sb h) : PDS X B W (.If c sa sb pos) (ifS ft f h) := PS.weak (ps_if hc ha hb) fun D σ H q => by
  obtain ⟨ρ, Ω, g, A, p⟩ := q
  unfold ifS at p
  refine stT A (fun e => by rw [e] at p; exact p) (fun x g' e => by rw [e] at p; exact p) fun d g' Ω' H' e gr A' => ?_
  rw [e] at p
  cases d with
  | true => exact wS.run A' (p.gr gr)
  | false => exact wS.run A' (p.gr gr)
theorem pds_ret (he : PD X B W e fe) : PDS X B W (.Return (some e) pos) (retS fe) := PS.weak (ps_ret he) fun D σ H q => by
  obtain ⟨ρ, Ω, g, A, p⟩ := q
  unfold retS at p
  refine stE A (fun e => by rw [e] at p; exact p) (fun x g' e => by rw [e] at p; exact p) fun d g' v Ω' H' e gr A' r => ?_
  rw [e] at p
  exact p v Ω' H' gr A'.tr A'.wf r
theorem pds_expr (he : PD X B W e fe) (hs : swapsWith e none pos.line X.env = pure false := by rfl) : PDS X B W (.Expr e pos) (dropS fe) := PS.weak (ps_expr he hs) fun D σ H q => by
  obtain ⟨ρ, Ω, g, A, p⟩ := q
  unfold dropS at p
  refine stE A (fun e => by rw [e] at p; exact p) (fun x g' e => by rw [e] at p; exact p) fun d g' v Ω' H' e gr A' r => ?_
  rw [e] at p
  exact p σ Ω' H' gr A'
theorem pds_pass : PDS X B W (.Pass pos) nxS := PS.weak ps_pass fun D σ H q => by
  obtain ⟨ρ, Ω, g, A, p⟩ := q
  exact p σ Ω H (.refl _) A
/-- a statement that is never come to -/
theorem pds_never : PDS X B W st badS := PS.weak ps_never fun D σ H q => by
  obtain ⟨ρ, Ω, g, A, p⟩ := q
  exact p
theorem asg_weak {t : Tg} {D : Ends} {σ : St} {H : Hp} {te : TE} (hw : ∀ Q, wE X.K B W fe σ H Q → te σ H Q) (q : wS X.K B W (asgS t fe) D σ H) : tAsg te (gT X.K t) D σ H := by
  obtain ⟨ρ, Ω, g, A, p⟩ := q
  unfold asgS at p
  refine hw _ (stE A (fun e => by rw [e] at p; exact p) (fun x g' e => by rw [e] at p; exact p) fun d g' v Ω' H' e gr A' r => ?_)
  rw [e] at p
  simp only at p
  cases e2 : t.put d ρ with
  | none => rw [e2] at p; exact p.elim
  | some ρ' =>
    rw [e2] at p
    exact gT_ok A'.wf A'.sl r e2 fun σ' s' _ => p σ' Ω' H' gr ⟨A'.tr, A'.wf, s'⟩
theorem pds_asg {tg : Expr} {t : Tg} (he : PD X B W e fe) (hg : PDG X tg t) (hs : swapsWithSole [tg] e pos.line X.env = pure false := by rfl) (hw : swappedStores [tg] e X.env = pure none := by rfl) (h1 : (assignEach [tg] X.env).map (·.2) = [assign tg X.env] := by rfl) : PDS X B W (.Assign [tg] e pos) (asgS t fe) :=
  PS.weak (ps_asg he hg hs hw h1) fun D σ H q => asg_weak (fun _ q => q) q
/-- a, b = x, y -/
theorem pds_par {i j : Nat} {x y : Str} {px py pt : Pos} {kt k2 pt2} (hc : X.calm = true) (hN : X.N.Nodup) (hi : X.N[i]? = some x) (hj : X.N[j]? = some y) (hij : i ≠ j)
    (hx : X.env.scope.names.lookup x = some .local) (hy : X.env.scope.names.lookup y = some .local) (ha : PDA X B W [a, b] fr)
    (hw : swappedStores [.Tuple [.Name x px, .Name y py] kt pt] (.Tuple [a, b] k2 pt2) X.env = pure (some [x, y]))
    (hs : swapsWithSole [.Tuple [.Name x px, .Name y py] kt pt] (.Tuple [a, b] k2 pt2) pos.line X.env = pure false := by rfl) :
    PDS X B W (.Assign [.Tuple [.Name x px, .Name y py] kt pt] (.Tuple [a, b] k2 pt2) pos) (asgS (.many [i, j]) (clE tupO fr)) := PS.weak (ps_par hc hN hi hj hij hx hy ha hw hs) fun D σ H q => by
  obtain ⟨ρ, Ω, g, A, p⟩ := q
  unfold asgS clE at p
  refine wA.run A (fun ds g1 vs Ω1 H1 e1 t1 w1 r1 => ?_) (fun x g1 cls dd Ω1 H1 e1 t1 w1 rx => ?_) (fun e1 => by rw [e1] at p; exact p.elim)
  · rw [e1] at p
    simp only [Res.bind] at p
    cases e2 : tupO ds with
    | none => rw [e2] at p; exact p.elim
    | some d =>
      have ed : d = .tup ds := by
        unfold tupO at e2
        split at e2
        · cases e2; rfl
        · cases e2
      subst ed
      rw [e2] at p
      simp only [Tg.put] at p
      split at p
      · rename_i ρ' e3
        split at e3
        · rename_i hl
          cases e3
          match ds, hl, r1 with
          | [d1, d2], _, r1 =>
            obtain ⟨v1, r', rfl, h1, h2⟩ := repL_cons.mp r1
            obtain ⟨v2, r'', rfl, h3, h4⟩ := repL_cons.mp h2
            obtain rfl := repL_nil.mp h4
            have A1 := A.go t1 w1
            exact ⟨v1, v2, rfl, p _ Ω1 H1 t1.gr ⟨A1.tr, A1.wf, (A1.sl.set h1).set h3⟩⟩
        · cases e3
      · exact p.elim
  · rw [e1] at p
    exact p cls dd σ Ω1 H1 t1.gr (A.go t1 w1) rx
theorem pds_aug {i : Nat} {x : Str} {op : Operator} {ti : TIp} {o : D → D → Option D} {pos' : Pos} (hN : X.N.Nodup) (hi : X.N[i]? = some x) (hx : Loc X.env.scope x) (he : PD X B W e fe) (ho : PIp X op ti) (hr : OpD X.K ti o)
    (hf : X.fn x = true ∨ X.env.scope.names.lookup x = some .local) : PDS X B W (.AugAssign (.Name x pos') op e pos) (augS i o fe) := PS.weak (ps_aug hN hi hx he ho hf) fun D σ H q => by
  obtain ⟨ρ, Ω, g, A, p⟩ := q
  unfold augS at p
  split at p
  · rename_i a ha
    obtain ⟨v, h1, h2⟩ := A.sl.get i _ ha
    have h2 : Rep X.K Ω a v := h2
    refine ⟨v, h1, stE A (fun e => by rw [e] at p; exact p) (fun x g' e => by rw [e] at p; exact p) fun d g' u Ω' H' e gr A' r => ?_⟩
    rw [e] at p
    simp only at p
    cases e2 : o a d with
    | none => rw [e2] at p; exact p.elim
    | some z =>
      rw [e2] at p
      refine hr a d z Ω' g' H' v u _ e2 A'.wf (Rep.mono gr _ _ h2) r fun w Ω2 H2 t2 w2 r2 => ?_
      have A2 := A'.go t2 w2
      exact p _ Ω2 H2 (gr.trans t2.gr) ⟨A2.tr, A2.wf, A2.sl.set r2⟩
  · exact p.elim
end

/-! ### what is walked -/
structure WalkD (K : PySem.W.Frag) (J : It) (ds : List D) (Ω : Om) : Prop where
  goes : ∀ i H, i < ds.length → Ex Ω.S H → J.go i H
  stops : ∀ H, Ex Ω.S H → J.stop ds.length H
  yields : ∀ (i : Nat) H x H' d, ds[i]? = some d → Ex Ω.S H → J.yld i H x H' → ∀ Ω1 g1, Gr Ω Ω1 → Wf g1 Ω1 H → ∃ Ω2, Tr Ω1 H Ω2 H' ∧ Wf g1 Ω2 H' ∧ Rep K Ω2 d x
def wI (K : PySem.W.Frag) (B : Gd) (W : WX) (fi : DA) : TI := fun σ H R => ∃ ρ Ω g, At K B ρ Ω g σ H ∧ (match fi ρ g with
  | .ok ds g' => ∀ J Ω' H', Tr Ω H Ω' H' → Wf g' Ω' H' → WalkD K J ds Ω' → R J H'
  | .err x g' => ∀ cls dd Ω' H', Tr Ω H Ω' H' → Wf g' Ω' H' → RepX K B.C Ω' H' x cls dd → W cls dd σ H'
  | .bad => False)
def PDI (X : Cx) (B : Gd) (W : WX) (tg iter : Expr) (fi : DA) : Prop := PI X tg iter (wI X.K B W fi)
theorem PI.weak {X : Cx} {tg e : Expr} {t t' : TI} (h : PI X tg e t) (k : ∀ σ H R, t' σ H R → t σ H R) : PI X tg e t' := ⟨fun pins s σ H R I q => h.run pins s σ H R I (k σ H R q)⟩
/-- the items of a list or tuple -/
def seqI (f : DE) : DA := fun ρ g => (f ρ g).bind fun a g1 => match a with
  | .lst ds => .ok ds g1
  | .tup ds => .ok ds g1
  | .scr ns => .ok (ns.map D.int) g1
  | _ => .bad
def rngInts (lo : Int) (n : Nat) : List D := (List.range n).map fun i => .int (lo + (i : Nat))
def rngO : List D → Option (List D)
  | [.int j] => if -(2 ^ 62) ≤ j ∧ j < 2 ^ 62 then some (rngInts 0 j.toNat) else none
  | [.int i, .int j] => if -(2 ^ 62) ≤ i ∧ i < 2 ^ 62 ∧ -(2 ^ 62) ≤ j ∧ j < 2 ^ 62 then some (rngInts i (j - i).toNat) else none
  | _ => none
def rngI (fr : DA) : DA := fun ρ g => (fr ρ g).bind fun ds g1 => match rngO ds with
  | some r => .ok r g1
  | none => .bad
section
variable {X : Cx} {B : Gd} {W : WX} {tg e a b : Expr} {fe : DE} {fr : DA} {pos p : Pos}
def iSeq (K : PySem.W.Frag) (tl : TE) : TI := fun σ H R => tl σ H fun x H1 => ∃ a, x = .ref a ∧ (((∃ xs, SqL K H1 a xs) ∧ R (Itl K a) H1) ∨ ((∃ xs, SqT K H1 a xs) ∧ R (Itt K a) H1))
theorem pi_seq {tl : TE} (hl : PE X e tl) : PI X tg e (iSeq X.K tl) := by
  refine ⟨fun pins s σ H R I h => ?_⟩
  refine thn (hl.run pins s σ H _ I h) fun v s1 ⟨x, H1, I1, r1, q1⟩ => ?_
  obtain ⟨a, e, q1⟩ := q1
  subst e
  cases r1
  rcases q1 with ⟨⟨xs, hq⟩, q⟩ | ⟨⟨xs, hq⟩, q⟩
  · obtain ⟨its, rv, p, hz⟩ := I1.list hq
    refine wpAny_pyIter_list p.isList ?_
    refine ⟨s1.heap.objs.size, [s1.heap.objs.size], _, _, H1, rfl, I1.kept (t' := s1.toks) fun b o e => Heap.get?_push_of_some _ e, turn_list a _, ⟨_, Heap.get?_push_size _ rfl, rfl, rfl⟩, fun b hb => ?_, q⟩
    have e : b = s1.heap.objs.size := by simpa using hb
    subst e
    exact I1.fpOk (Nat.le_refl _) (I1.hok.fresh (Nat.le_refl _))
  · obtain ⟨its, rv, p, hz⟩ := I1.tuple hq
    refine wpAny_pyIter_tuple (show s1.heap.IsTuple a its.toArray from p) ?_
    refine ⟨s1.heap.objs.size, [s1.heap.objs.size], _, _, H1, rfl, I1.kept (t' := s1.toks) fun b o e => Heap.get?_push_of_some _ e, turn_tuple a _, ⟨_, Heap.get?_push_size _ rfl, rfl, rfl⟩, fun b hb => ?_, q⟩
    have e : b = s1.heap.objs.size := by simpa using hb
    subst e
    exact I1.fpOk (Nat.le_refl _) (I1.hok.fresh (Nat.le_refl _))
theorem walkD_list {K : PySem.W.Frag} {a : Addr} {xs : List V} {ds : List D} {Ω : Om} (h : SqL K Ω.S a xs) (r : RepL K Ω ds xs) : WalkD K (Itl K a) ds Ω :=
  ⟨fun i H hi e => walk_list.goes i H (by rw [← r.length]; exact hi) (Evl.ex_l e h), fun H e => by rw [r.length]; exact walk_list.stops H (Evl.ex_l e h),
   fun i H x H' d hd e y Ω1 g1 gr w => by
    obtain ⟨e1, e2⟩ := y
    subst e1
    obtain ⟨v, hv, rv⟩ := r.get hd
    have := e2 xs (Evl.ex_l e h)
    rw [hv] at this
    cases this
    exact ⟨Ω1, .refl _ _, w, Rep.mono gr _ _ rv⟩⟩
theorem walkD_tup {K : PySem.W.Frag} {a : Addr} {xs : List V} {ds : List D} {Ω : Om} (h : SqT K Ω.S a xs) (r : RepL K Ω ds xs) : WalkD K (Itt K a) ds Ω :=
  ⟨fun i H hi e => walk_tup.goes i H (by rw [← r.length]; exact hi) (Evl.ex_t e h), fun H e => by rw [r.length]; exact walk_tup.stops H (Evl.ex_t e h),
   fun i H x H' d hd e y Ω1 g1 gr w => by
    obtain ⟨e1, e2⟩ := y
    subst e1
    obtain ⟨v, hv, rv⟩ := r.get hd
    have := e2 xs (Evl.ex_t e h)
    rw [hv] at this
    cases this
    exact ⟨Ω1, .refl _ _, w, Rep.mono gr _ _ rv⟩⟩
theorem rngInts_length (lo : Int) (n : Nat) : (rngInts lo n).length = n := by simp [rngInts]
theorem walkD_rng {K : PySem.W.Frag} {lo : Int} {n : Nat} {Ω : Om} : WalkD K (Itr lo n) (rngInts lo n) Ω :=
  ⟨fun i H hi e => by rw [rngInts_length] at hi; exact hi, fun H e => by rw [rngInts_length]; exact Nat.le_refl _,
   fun i H x H' d hd e y Ω1 g1 gr w => by
    obtain ⟨e1, e2⟩ := y
    subst e1 e2
    refine ⟨Ω1, .refl _ _, w, ?_⟩
    unfold rngInts at hd
    rw [List.getElem?_map] at hd
    have hi : i < n := by
      cases q : (List.range n)[i]? with
      | none => rw [q] at hd; cases hd
      | some z => have := (List.getElem?_eq_some_iff.mp q).1; simpa using this
    rw [List.getElem?_eq_getElem (by simpa using hi)] at hd
    simp at hd
    rw [← hd]
    exact rep_int.mpr rfl⟩
theorem pdi_seq (h : PD X B W e fe) : PDI X B W tg e (seqI fe) := PI.weak (pi_seq h) fun σ H R q => by
  obtain ⟨ρ, Ω, g, A, p⟩ := q
  unfold seqI at p
  refine wE.run A (fun d1 g1 v1 Ω1 H1 e1 t1 w1 r1 => ?_) (fun x g1 cls dd Ω1 H1 e1 t1 w1 rx => by rw [e1] at p; exact p cls dd Ω1 H1 t1 w1 rx) (fun e1 => by rw [e1] at p; exact p.elim)
  rw [e1] at p
  cases d1 with
  | lst ds =>
    obtain ⟨a, xs, rfl, h2, h3⟩ := rep_lst.mp r1
    exact ⟨a, rfl, .inl ⟨⟨xs, Evl.ex_l w1.sub (.inl (.inl h2))⟩, p _ Ω1 H1 t1 w1 (walkD_list (.inl (.inl h2)) h3)⟩⟩
  | tup ds =>
    obtain ⟨a, xs, rfl, h2, h3⟩ := rep_tup.mp r1
    exact ⟨a, rfl, .inr ⟨⟨xs, Evl.ex_t w1.sub h2⟩, p _ Ω1 H1 t1 w1 (walkD_tup h2 h3)⟩⟩
  | scr ns =>
    obtain ⟨a, rfl, h2⟩ := rep_scr.mp r1
    exact ⟨a, rfl, .inl ⟨⟨_, Evl.ex_l w1.sub h2⟩, p _ Ω1 H1 t1 w1 (walkD_list h2 (RepL.ints ns))⟩⟩
  | _ => exact p.elim
theorem rng_ints {K : PySem.W.Frag} {Ω : Om} {ds : List D} {vs : List V} {r : List D} (h : RepL K Ω ds vs) (e : rngO ds = some r) :
    (∃ j : Int, vs = [.int j] ∧ (-(2 ^ 62) ≤ j ∧ j < 2 ^ 62) ∧ r = rngInts 0 j.toNat ∧ ds.length = 1) ∨ (∃ i j : Int, vs = [.int i, .int j] ∧ (-(2 ^ 62) ≤ i ∧ i < 2 ^ 62 ∧ -(2 ^ 62) ≤ j ∧ j < 2 ^ 62) ∧ r = rngInts i (j - i).toNat ∧ ds.length = 2) := by
  unfold rngO at e
  split at e
  · rename_i j
    split at e
    · rename_i hj
      cases e
      obtain ⟨v, r', rfl, h1, h2⟩ := repL_cons.mp h
      obtain rfl := repL_nil.mp h2
      rw [rep_int.mp h1]
      exact .inl ⟨j, rfl, hj, rfl, rfl⟩
    · cases e
  · rename_i i j
    split at e
    · rename_i hj
      cases e
      obtain ⟨v, r', rfl, h1, h2⟩ := repL_cons.mp h
      obtain ⟨v2, r'', rfl, h3, h4⟩ := repL_cons.mp h2
      obtain rfl := repL_nil.mp h4
      rw [rep_int.mp h1, rep_int.mp h3]
      exact .inr ⟨i, j, rfl, hj, rfl, rfl⟩
    · cases e
  · cases e
theorem pdi_rng1 (hg : Gl X "range") (hm : X.mg "range" = none) (ha : PDA X B W [a] fr) (hs : starEach [a] X.env = [(false, eval a X.env)] := by rfl) (hl : ∀ ρ g ds g1, fr ρ g = .ok ds g1 → ds.length = 1) : PDI X B W tg (.Call (.Name "range" p) [a] [] pos) (rngI fr) :=
  PI.weak (pi_range1 hg hm ha hs) fun σ H R q => by
  obtain ⟨ρ, Ω, g, A, p⟩ := q
  unfold rngI at p
  refine wA.run A (fun d1 g1 v1 Ω1 H1 e1 t1 w1 r1 => ?_) (fun x g1 cls dd Ω1 H1 e1 t1 w1 rx => by rw [e1] at p; exact p cls dd Ω1 H1 t1 w1 rx) (fun e1 => by rw [e1] at p; exact p.elim)
  have hl1 := hl _ _ _ _ e1
  rw [e1] at p
  simp only [Res.bind] at p
  cases e2 : rngO d1 with
  | none => rw [e2] at p; exact p.elim
  | some r =>
    rw [e2] at p
    rcases rng_ints r1 e2 with ⟨j, rfl, hj, rfl, _⟩ | ⟨i, j, _, _, _, z⟩
    · exact ⟨j, rfl, hj.1, hj.2, p _ Ω1 H1 t1 w1 walkD_rng⟩
    · rw [hl1] at z; cases z
theorem pdi_rng2 (hg : Gl X "range") (hm : X.mg "range" = none) (ha : PDA X B W [a, b] fr) (hs : starEach [a, b] X.env = [(false, eval a X.env), (false, eval b X.env)] := by rfl) (hs2 : starEach [b] X.env = [(false, eval b X.env)] := by rfl) (hl : ∀ ρ g ds g1, fr ρ g = .ok ds g1 → ds.length = 2) : PDI X B W tg (.Call (.Name "range" p) [a, b] [] pos) (rngI fr) :=
  PI.weak (pi_range2 hg hm ha hs hs2) fun σ H R q => by
  obtain ⟨ρ, Ω, g, A, p⟩ := q
  unfold rngI at p
  refine wA.run A (fun d1 g1 v1 Ω1 H1 e1 t1 w1 r1 => ?_) (fun x g1 cls dd Ω1 H1 e1 t1 w1 rx => by rw [e1] at p; exact p cls dd Ω1 H1 t1 w1 rx) (fun e1 => by rw [e1] at p; exact p.elim)
  have hl1 := hl _ _ _ _ e1
  rw [e1] at p
  simp only [Res.bind] at p
  cases e2 : rngO d1 with
  | none => rw [e2] at p; exact p.elim
  | some r =>
    rw [e2] at p
    rcases rng_ints r1 e2 with ⟨j, _, _, _, z⟩ | ⟨i, j, rfl, hj, rfl, _⟩
    · rw [hl1] at z; cases z
    · exact ⟨i, j, rfl, hj, p _ Ω1 H1 t1 w1 walkD_rng⟩
theorem len1 {fa : DE} {ρ : Rho} {g : G} {ds : List D} {g1 : G} (h : consA fa nilA ρ g = .ok ds g1) : ds.length = 1 := by
  unfold consA nilA at h
  cases e : fa ρ g with
  | ok d g' => rw [e] at h; simp only [Res.bind] at h; cases h; rfl
  | err x g' => rw [e] at h; cases h
  | bad => rw [e] at h; cases h
theorem len2 {fa fb : DE} {ρ : Rho} {g : G} {ds : List D} {g1 : G} (h : consA fa (consA fb nilA) ρ g = .ok ds g1) : ds.length = 2 := by
  unfold consA at h
  cases e : fa ρ g with
  | ok d g' =>
    rw [e] at h
    simp only [Res.bind] at h
    cases e2 : fb ρ g' with
    | ok d2 g2 => simp only [e2, nilA] at h; cases h; rfl
    | err x g2 => simp only [e2] at h; cases h
    | bad => simp only [e2] at h; cases h
  | err x g' => rw [e] at h; cases h
  | bad => rw [e] at h; cases h
end

/-! ### for, while -/
section
variable {X : Cx} {B : Gd} {W : WX} {tg iter c : Expr} {body : List Stmt} {fi : DA} {t : Tg} {f : DS} {ft : DT} {pos : Pos}
theorem pds_for (hp : PassesOwn (model X.prog X.w) X.A X.env X.xe) (hc : X.calm = true) (hi : PDI X B W tg iter fi) (hg : PDG X tg t) (hb : PDSs X B W body f) (hs : ∀ x, foldedSetIterable iter X.env x = pure x := by intro _; rfl) :
    PDS X B W (.For tg iter body [] pos) (forS fi t f) := PS.weak (ps_for hp hc hi hg hb hs) fun D σ H q => by
  obtain ⟨ρ, Ω, g, A, p⟩ := q
  unfold forS at p
  refine ⟨ρ, Ω, g, A, ?_⟩
  cases e : fi ρ g with
  | bad => rw [e] at p; exact p.elim
  | err x g1 => rw [e] at p; exact fun cls dd Ω' H' t w r => p cls dd σ Ω' H' t.gr (A.go t w) r
  | ok ds g1 =>
    rw [e] at p
    simp only at p ⊢
    intro J Ω1 H1 t1 w1 wk
    have p := p.gr t1.gr
    -- the invariant: what is left of the walk gives what the whole gives
    refine ⟨fun i m σ' H' => m = ds.length - i ∧ i ≤ ds.length ∧ ∃ ρ' Ω' g', Gr Ω1 Ω' ∧ At X.K B ρ' Ω' g' σ' H' ∧ PostS X.K B W Ω1 D (forL t f (ds.drop i) ρ' g'), ⟨ds.length, by simp, Nat.zero_le _, ρ, Ω1, g1, .refl _, A.go t1 w1, p⟩, ?_⟩
    rintro i m σ2 H2 ⟨rfl, hi, ρ2, Ω2, g2, gr2, A2, p2⟩
    have ex2 : Ex Ω1.S H2 := gr2.s.trans A2.wf.sub
    by_cases hlt : i < ds.length
    · refine .inr ⟨wk.goes i H2 hlt ex2, fun σ' H' => ∃ ρ' Ω' g', Gr Ω1 Ω' ∧ At X.K B ρ' Ω' g' σ' H' ∧ PostS X.K B W Ω1 D (forL t f (ds.drop (i + 1)) ρ' g'), fun σ' H' h => ⟨ds.length - (i + 1), by omega, rfl, hlt, h⟩, fun x H' y => ?_⟩
      have hd : ds[i]? = some ds[i] := List.getElem?_eq_getElem hlt
      obtain ⟨Ω3, t3, w3, r3⟩ := wk.yields i H2 x H' _ hd ex2 y Ω2 g2 gr2 A2.wf
      rw [List.drop_eq_getElem_cons hlt] at p2
      rw [forL_cons] at p2
      cases e3 : t.put ds[i] ρ2 with
      | none => rw [e3] at p2; exact p2.elim
      | some ρ3 =>
        rw [e3] at p2
        simp only at p2
        have A3 := A2.go t3 w3
        refine gT_ok A3.wf A3.sl r3 e3 fun σ3 s3 _ => ?_
        refine ⟨ρ3, Ω3, g2, ⟨A3.tr, A3.wf, s3⟩, ?_⟩
        have gr3 : Gr Ω1 Ω3 := gr2.trans t3.gr
        cases e4 : f ρ3 g2 with
        | nx ρ4 g4 => rw [e4] at p2; exact fun σ' Ω' H' gr A' => ⟨ρ4, Ω', g4, gr3.trans gr, A', p2⟩
        | ct ρ4 g4 => rw [e4] at p2; exact fun σ' Ω' H' gr A' => ⟨ρ4, Ω', g4, gr3.trans gr, A', p2⟩
        | bk ρ4 g4 => rw [e4] at p2; exact fun σ' Ω' H' gr A' => p2 σ' Ω' H' (gr3.trans gr) A'
        | rt d g4 => rw [e4] at p2; exact fun v Ω' H' gr tr w r => p2 v Ω' H' (gr3.trans gr) tr w r
        | err x ρ4 g4 => rw [e4] at p2; exact fun cls dd σ' Ω' H' gr A' r => p2 cls dd σ' Ω' H' (gr3.trans gr) A' r
        | bad => rw [e4] at p2; exact p2.elim
    · have e5 : i = ds.length := by omega
      subst e5
      rw [List.drop_length, forL_nil] at p2
      exact .inl ⟨wk.stops H2 ex2, p2 σ2 Ω2 H2 gr2 A2⟩
theorem pds_while (hp : PassesOwn (model X.prog X.w) X.A X.env X.xe) (hc : PDT X B W c ft) (hb : PDSs X B W body f) : PDS X B W (.While c body [] pos) (whileS ft f) := PS.weak (ps_while hp hc hb) fun D σ H q => by
  obtain ⟨ρ, Ω, g, A, p⟩ := q
  have hne : whileS ft f ρ g ≠ .bad := fun z => by rw [z] at p; exact p
  obtain ⟨n, hn⟩ := whileS_ex hne
  rw [← hn] at p
  refine ⟨fun m σ' H' => ∃ ρ' Ω' g', Gr Ω Ω' ∧ At X.K B ρ' Ω' g' σ' H' ∧ PostS X.K B W Ω D (whileF ft f m ρ' g'), ⟨n, ρ, Ω, g, .refl _, A, p⟩, ?_⟩
  rintro m σ1 H1 ⟨ρ1, Ω1, g1, gr1, A1, p1⟩
  cases m with
  | zero => exact p1.elim
  | succ m =>
    rw [whileF_succ] at p1
    refine stT A1 (fun e => by rw [e] at p1; exact p1) (fun x g' e cls dd σ' Ω' H' gr A' r => by rw [e] at p1; exact p1 cls dd σ' Ω' H' (gr1.trans gr) A' r) fun d g' Ω' H' e gr A' => ?_
    rw [e] at p1
    cases d with
    | false => exact p1 σ1 Ω' H' (gr1.trans gr) A'
    | true =>
      refine ⟨fun σ' H' => ∃ ρ' Ω' g', Gr Ω Ω' ∧ At X.K B ρ' Ω' g' σ' H' ∧ PostS X.K B W Ω D (whileF ft f m ρ' g'), fun σ' H' h => ⟨m, Nat.lt_succ_self _, h⟩, ?_⟩
      refine ⟨ρ1, Ω', g', A', ?_⟩
      have gr3 := gr1.trans gr
      simp only [if_true] at p1
      cases e4 : f ρ1 g' with
      | nx ρ4 g4 => rw [e4] at p1; exact fun σ' Ω' H' gr A' => ⟨ρ4, Ω', g4, gr3.trans gr, A', p1⟩
      | ct ρ4 g4 => rw [e4] at p1; exact fun σ' Ω' H' gr A' => ⟨ρ4, Ω', g4, gr3.trans gr, A', p1⟩
      | bk ρ4 g4 => rw [e4] at p1; exact fun σ' Ω' H' gr A' => p1 σ' Ω' H' (gr3.trans gr) A'
      | rt d g4 => rw [e4] at p1; exact fun v Ω' H' gr tr w r => p1 v Ω' H' (gr3.trans gr) tr w r
      | err x ρ4 g4 => rw [e4] at p1; exact fun cls dd σ' Ω' H' gr A' r => p1 cls dd σ' Ω' H' (gr3.trans gr) A' r
      | bad => rw [e4] at p1; exact p1.elim
end
end TS
namespace TS
open PySem L2
open Evl (Ex)

theorem Tr.mut {Ω Ω' : Om} {H H' : Hp} {p : Addr} {o : HO} (t : Tr Ω H Ω' H') (hp : H p = none) : Tr Ω H Ω' (upd H' p o) :=
  ⟨t.gr, t.new, t.gnew, fun a u h n => by rw [upd_ne (ne_of_none h hp)]; exact t.keep a u h n, fun a u h => by rw [upd_ne (ne_of_none h hp)]; exact t.there a u h⟩
theorem Tr.freeze {Ω Ω' : Om} {H H' : Hp} {p : Addr} {o : HO} (t : Tr Ω H Ω' H') (hp : H p = none) (hs : Ω'.S p = none) : Tr Ω H (Ω'.add p o) H' :=
  ⟨t.gr.trans (Gr.add hs), fun a u h => by
    have h' : upd Ω'.S p o a = some u := h
    by_cases z : a = p
    · subst z; exact .inr hp
    · rw [upd_ne z] at h'; exact t.new a u h', t.gnew, t.keep, t.there⟩
/-- a thing that is not told stays as it is -/
theorem Tr.loosek {Ω Ω' : Om} {H H' : Hp} {p : Addr} {o : HO} (t : Tr Ω H Ω' H') (h : H p = some o) (hs : Ω.S p = none) (hn : ¬ Ω.Own p) : H' p = some o ∧ Ω'.S p = none ∧ ¬ Ω'.Own p := by
  refine ⟨t.keep p o h hn, ?_, t.own h hn⟩
  cases q : Ω'.S p with
  | none => rfl
  | some u =>
    rcases t.new p u q with z | z
    · rw [hs] at z; cases z
    · rw [h] at z; cases z

/-! ### list comprehensions -/
def lcL (t : Tg) (ft : DT) (fe : DE) (ρ : Rho) : List D → G → Res (List D)
  | [], g => .ok [] g
  | d :: ds, g => match t.put d ρ with
    | none => .bad
    | some ρ1 => match ft ρ1 g with
      | .ok true g1 => (match fe ρ1 g1 with
        | .ok y g2 => (match lcL t ft fe ρ ds g2 with
          | .ok r g3 => .ok (y :: r) g3
          | _ => .bad)
        | _ => .bad)
      | .ok false g1 => lcL t ft fe ρ ds g1
      | _ => .bad
theorem lcL_cons {t : Tg} {ft : DT} {fe : DE} {ρ : Rho} (d : D) (ds : List D) (g : G) : lcL t ft fe ρ (d :: ds) g = (match t.put d ρ with
    | none => .bad
    | some ρ1 => match ft ρ1 g with
      | .ok true g1 => (match fe ρ1 g1 with
        | .ok y g2 => (match lcL t ft fe ρ ds g2 with
          | .ok r g3 => .ok (y :: r) g3
          | _ => .bad)
        | _ => .bad)
      | .ok false g1 => lcL t ft fe ρ ds g1
      | _ => .bad) := rfl
def lcE (fi : DA) (vs : List Nat) (t : Tg) (ft : DT) (fe : DE) : DE := fun ρ g => match fi ρ g with
  | .ok ds g1 => (match lcL t ft fe (wipeR ρ vs) ds g1 with
    | .ok r g2 => if r.length ≤ sizeLine then .ok (.lst r) g2 else .bad
    | _ => .bad)
  | .err x g1 => .err x g1
  | .bad => .bad
def yesT : DT := fun _ g => .ok true g
abbrev W0 : WX := fun _ _ _ _ => False
def PDTs (X : Cx) (B : Gd) (W : WX) (ifs : List Expr) (f : DT) : Prop := PTs X ifs (wT X.K B W f)
theorem PTs.weak {X : Cx} {ifs : List Expr} {t t' : TT} (h : PTs X ifs t) (k : ∀ σ H Q, t' σ H Q → t σ H Q) : PTs X ifs t' := ⟨fun pins s σ H Q I q => h.run pins s σ H Q I (k σ H Q q)⟩
theorem pdts_nil {X : Cx} {B : Gd} {W : WX} : PDTs X B W [] yesT := PTs.weak pts_nil fun σ H Q q => by
  obtain ⟨ρ, Ω, g, A, p⟩ := q
  exact p Ω H (.refl _ _) A.wf
theorem pdts_one {X : Cx} {B : Gd} {W : WX} {c : Expr} {f : DT} (h : PDT X B W c f) : PDTs X B W [c] f := pts_one h
section
variable {X : Cx} {B : Gd} {W : WX} {tg iter elt : Expr} {ifs : List Expr} {scope : Scope} {own : List (Str × Nat)} {fi : DA} {t : Tg} {ft : DT} {fe : DE} {pos : Pos}
theorem lc_weak {vs : List Nat} (hv : ∀ i ∈ t.names, i ∈ vs) {σ : St} {H : Hp} {Q : VK} (q : wE X.K B W (lcE fi vs t ft fe) σ H Q) :
    tLc (wI X.K B W fi) (gT X.K t) (wT X.K B W0 ft) (wE X.K B W0 fe) vs σ H Q := by
  obtain ⟨ρ, Ω, g, A, p⟩ := q
  unfold lcE at p
  refine ⟨ρ, Ω, g, A, ?_⟩
  cases e : fi ρ g with
  | bad => rw [e] at p; exact p.elim
  | err x g1 => rw [e] at p; exact p
  | ok ds g1 =>
    rw [e] at p
    simp only at p ⊢
    intro J Ω1 H1 t1 w1 wk L hL
    cases e2 : lcL t ft fe (wipeR ρ vs) ds g1 with
    | bad => rw [e2] at p; exact p.elim
    | err x g2 => rw [e2] at p; exact p.elim
    | ok r g2 =>
      rw [e2] at p
      simp only at p
      split at p
      case isFalse => exact p.elim
      case isTrue hr =>
      have nOwn : ¬ Ω1.Own L := fun z => by
        obtain ⟨o, h⟩ := w1.ownSome z
        rw [hL] at h; cases h
      have nS : Ω1.S L = none := by
        cases q : Ω1.S L with
        | none => rfl
        | some u => rw [w1.sub L u q] at hL; cases hL
      refine ⟨fun i m H' => m = ds.length - i ∧ i ≤ ds.length ∧ ∃ Ω' g' acc accD rest, Tr Ω1 H1 Ω' H' ∧ Wf g' Ω' H' ∧ H' L = some (.lst acc) ∧ Ω'.S L = none ∧ ¬ Ω'.Own L ∧ RepL X.K Ω' accD acc ∧ lcL t ft fe (wipeR ρ vs) (ds.drop i) g' = .ok rest g2 ∧ accD ++ rest = r,
        ⟨ds.length, by simp, Nat.zero_le _, Ω1, g1, [], [], r, .loose hL, w1.loose hL, upd_same, nS, nOwn, .nil, e2, rfl⟩, ?_⟩
      rintro i m H2 ⟨rfl, hi, Ω2, g3, acc, accD, rest, t2, w2, hD, sD, nD, rD, el, er⟩
      have ex2 : Ex Ω1.S H2 := t2.gr.s.trans w2.sub
      by_cases hlt : i < ds.length
      · refine .inr ⟨wk.goes i H2 hlt ex2, fun H' => ∃ Ω' g' acc accD rest, Tr Ω1 H1 Ω' H' ∧ Wf g' Ω' H' ∧ H' L = some (.lst acc) ∧ Ω'.S L = none ∧ ¬ Ω'.Own L ∧ RepL X.K Ω' accD acc ∧ lcL t ft fe (wipeR ρ vs) (ds.drop (i + 1)) g' = .ok rest g2 ∧ accD ++ rest = r,
          fun H' h => ⟨ds.length - (i + 1), by omega, rfl, hlt, h⟩, fun x H3 y => ?_⟩
        have hd : ds[i]? = some ds[i] := List.getElem?_eq_getElem hlt
        obtain ⟨Ω3, t3, w3, r3⟩ := wk.yields i H2 x H3 _ hd ex2 y Ω2 g3 t2.gr w2
        rw [List.drop_eq_getElem_cons hlt, lcL_cons] at el
        cases e3 : t.put ds[i] (wipeR ρ vs) with
        | none => rw [e3] at el; cases el
        | some ρ3 =>
          rw [e3] at el
          simp only at el
          have A3 : At X.K B (wipeR ρ vs) Ω3 g3 (wipe σ vs) H3 := by
            have q := (A.go t1 w1).go (t2.trans t3) w3
            exact ⟨q.tr, q.wf, q.sl.wipe vs⟩
          obtain ⟨hD3, sD3, nD3⟩ := t3.loosek hD sD nD
          refine gT_ok A3.wf A3.sl r3 e3 fun σ3 s3 ws => ⟨?_, ?_⟩
          · rw [ws vs hv]
            have idem : ∀ us : List Nat, (∀ i ∈ us, i ∈ vs) → wipe (wipe σ vs) us = wipe σ vs := by
              intro us
              induction us with
              | nil => intro _; rfl
              | cons u us ih =>
                intro hu
                show (wipe (wipe σ vs) us).set u none = wipe σ vs
                rw [ih fun j hj => hu j (List.mem_cons_of_mem _ hj)]
                have hu' := hu u List.mem_cons_self
                apply List.ext_getElem?
                intro j
                by_cases z : u = j
                · subst z
                  by_cases hlen : u < (wipe σ vs).length
                  · rw [List.getElem?_set_self hlen]
                    cases q : (wipe σ vs)[u]? with
                    | none => rw [List.getElem?_eq_none_iff] at q; omega
                    | some o =>
                      cases o with
                      | none => rfl
                      | some v =>
                        obtain ⟨_, h2⟩ := wipe_some q
                        exact absurd hu' h2
                  · rw [List.set_eq_of_length_le (by omega)]
                · rw [List.getElem?_set_ne z]
            exact idem vs fun _ h => h
          have A3' : At X.K B ρ3 Ω3 g3 σ3 H3 := ⟨A3.tr, A3.wf, s3⟩
          refine wT.run A3' (fun b g4 Ω4 H4 e4 t4 w4 => ?_) (fun x g4 cls dd Ω4 H4 e4 _ _ _ => by rw [e4] at el; cases el) (fun e4 => by rw [e4] at el; cases el)
          obtain ⟨hD4, sD4, nD4⟩ := t4.loosek hD3 sD3 nD3
          rw [e4] at el
          cases b with
          | false => exact ⟨Ω4, g4, acc, accD, rest, t2.trans (t3.trans t4), w4, hD4, sD4, nD4, RepL.mono (t3.trans t4).gr _ _ rD, el, er⟩
          | true =>
            simp only at el
            show wE X.K B W0 fe σ3 H4 _
            refine wE.run (A3'.go t4 w4) (fun y g5 v5 Ω5 H5 e5 t5 w5 r5 => ?_) (fun x g5 cls dd Ω5 H5 e5 _ _ _ => by rw [e5] at el; cases el) (fun e5 => by rw [e5] at el; cases el)
            rw [e5] at el
            simp only at el
            cases e6 : lcL t ft fe (wipeR ρ vs) (ds.drop (i + 1)) g5 with
            | bad => rw [e6] at el; cases el
            | err x g6 => rw [e6] at el; cases el
            | ok r6 g6 =>
              rw [e6] at el
              cases el
              obtain ⟨hD5, sD5, nD5⟩ := t5.loosek hD4 sD4 nD4
              have rD5 := RepL.mono (t3.trans (t4.trans t5)).gr _ _ rD
              have hlen : acc.length < sizeLine := by
                have := rD.length
                have h2 : (accD ++ y :: r6).length = r.length := by rw [er]
                simp at h2
                omega
              refine ⟨acc, hD5, hlen, Ω5, g5, acc ++ [v5], accD ++ [y], r6, (t2.trans (t3.trans (t4.trans t5))).mut hL, w5.upd sD5 nD5, upd_same, sD5, nD5, rD5.app (.cons r5 .nil), e6, ?_⟩
              rw [List.append_assoc]
              exact er
      · have e5 : i = ds.length := by omega
        subst e5
        rw [List.drop_length] at el
        cases el
        rw [List.append_nil] at er
        subst er
        refine .inl ⟨wk.stops H2 ex2, p _ (Ω2.add L (.lst acc)) H2 (t1.trans (t2.freeze hL sD)) (w2.freeze hD nD) (rep_lst.mpr ⟨L, acc, rfl, add_get, RepL.mono (Gr.add sD) _ _ rD⟩)⟩
theorem pd_lc (hc : X.calm = true) (hN : X.N.Nodup) (hi : PDI X B W tg iter fi) (ok : BlkOk X.N X.env.scope scope own)
    (hg : ∀ (s : Shared) (H : Hp) (C : Addr) (cl : List (Str × Addr)) (fp : List Addr), PDG (X.blk s H scope (compEnvC scope cl C X.env) fp) tg t) (ht : ∀ (s : Shared) (H : Hp) (C : Addr) (cl : List (Str × Addr)) (fp : List Addr), PDTs (X.blk s H scope (compEnvC scope cl C X.env) fp) B W0 ifs ft)
    (he : ∀ (s : Shared) (H : Hp) (C : Addr) (cl : List (Str × Addr)) (fp : List Addr), PD (X.blk s H scope (compEnvC scope cl C X.env) fp) B W0 elt fe) (hv : ∀ i ∈ t.names, i ∈ own.map (·.2)) (hs : ∀ x, foldedSetIterable iter X.env x = pure x := by intro _; rfl) :
    PD X B W (.ListComp elt [⟨tg, iter, ifs, 0⟩] scope pos) (lcE fi (own.map (·.2)) t ft fe) :=
  PE.weak (pe_lc (g := gT X.K t) (tt := wT X.K B W0 ft) (te := wE X.K B W0 fe) hc hN hi ok hg ht he hs) fun _ _ _ q => lc_weak hv q
theorem pds_setLc {i : Nat} {y : Str} {py spos : Pos} (hc : X.calm = true) (hN : X.N.Nodup) (hy : X.N[i]? = some y) (hyl : X.env.scope.names.lookup y = some .local)
    (hsw : swapsWith (.ListComp elt [⟨tg, iter, ifs, 0⟩] scope pos) (some (.Name y py)) spos.line X.env = pure true) (hi : PDI X B W tg iter fi) (ok : BlkOk X.N X.env.scope scope own)
    (hg : ∀ (s : Shared) (H : Hp) (C : Addr) (cl : List (Str × Addr)) (fp : List Addr), PDG (X.blk s H scope (compEnvC scope cl C X.env) fp) tg t) (ht : ∀ (s : Shared) (H : Hp) (C : Addr) (cl : List (Str × Addr)) (fp : List Addr), PDTs (X.blk s H scope (compEnvC scope cl C X.env) fp) B W0 ifs ft)
    (he : ∀ (s : Shared) (H : Hp) (C : Addr) (cl : List (Str × Addr)) (fp : List Addr), PD (X.blk s H scope (compEnvC scope cl C X.env) fp) B W0 elt fe) (hv : ∀ i ∈ t.names, i ∈ own.map (·.2)) (hs : ∀ x, foldedSetIterable iter X.env x = pure x := by intro _; rfl) :
    PDS X B W (.Assign [.Name y py] (.ListComp elt [⟨tg, iter, ifs, 0⟩] scope pos) spos) (asgS (.one i) (lcE fi (own.map (·.2)) t ft fe)) :=
  PS.weak (ps_setLc (g := gT X.K t) (tt := wT X.K B W0 ft) (te := wE X.K B W0 fe) hc hN hy hyl hsw hi ok hg ht he hs) fun D σ H q => asg_weak (t := .one i) (fun _ q => lc_weak hv q) q
end

/-! ### lists that a slot alone holds -/
def ownS (i : Nat) (fr : DA) : DS := fun ρ g => match fr ρ g with
  | .ok ds g1 => if ds.length ≤ sizeLine then .nx (ρ.set i (some (.own ds))) g1 else .bad
  | .err x g1 => .err x ρ g1
  | .bad => .bad
def appS (i : Nat) (fe : DE) : DS := fun ρ g => match ρ[i]? with
  | some (some (.own ds)) => (match fe ρ g with
    | .ok d g1 => if ds.length < sizeLine then .nx (ρ.set i (some (.own (ds ++ [d])))) g1 else .bad
    | .err x g1 => .err x ρ g1
    | .bad => .bad)
  | _ => .bad
def extS (i : Nat) (fe : DE) : DS := fun ρ g => match ρ[i]? with
  | some (some (.own ds)) => (match fe ρ g with
    | .ok (.lst es) g1 => if ds.length + es.length ≤ sizeLine then .nx (ρ.set i (some (.own (ds ++ es)))) g1 else .bad
    | .ok _ _ => .bad
    | .err x g1 => .err x ρ g1
    | .bad => .bad)
  | _ => .bad
def frzS (i : Nat) (f : DS) : DS := fun ρ g => match ρ[i]? with
  | some (some (.own ds)) => f (ρ.set i (some (.dat (.lst ds)))) g
  | _ => f ρ g
/-- the list in a slot: its own one, or one that stands still -/
def lstOf : Option SV → Option (List D)
  | some (.own ds) => some ds
  | some (.dat (.lst ds)) => some ds
  | _ => none
def lstAt (ρ : Rho) (i : Nat) : Option (List D) := (ρ[i]?).bind lstOf
theorem lstAt_cases {ρ : Rho} {i : Nat} {ds : List D} (h : lstAt ρ i = some ds) : ρ[i]? = some (some (.own ds)) ∨ ρ[i]? = some (some (.dat (.lst ds))) := by
  unfold lstAt at h
  cases e : ρ[i]? with
  | none => rw [e] at h; cases h
  | some o =>
    rw [e] at h
    cases o with
    | none => cases h
    | some x =>
      cases x with
      | own es => cases h; exact .inl rfl
      | dat d =>
        cases d with
        | lst es => cases h; exact .inr rfl
        | _ => cases h
def ownIxE (i : Nat) (fe : DE) : DE := fun ρ g => match lstAt ρ i with
  | some ds => (fe ρ g).bind fun d g1 => (match d with
    | .int k => (match atI ds k with
      | some x => .ok x g1
      | none => .bad)
    | _ => .bad)
  | none => .bad
def ownLenE (i : Nat) : DE := fun ρ g => match lstAt ρ i with
  | some ds => .ok (.int ds.length) g
  | none => .bad
theorem atI_rep {K : PySem.W.Frag} {Ω : Om} {ds : List D} {vs : List V} {k : Int} {d : D} (r : RepL K Ω ds vs) (h : atI ds k = some d) : ∃ v, atI vs k = some v ∧ Rep K Ω d v := by
  unfold atI at h ⊢
  rw [← r.length]
  cases e : ixN ds.length k with
  | none => rw [e] at h; cases h
  | some j =>
    rw [e] at h
    exact r.get h
section
variable {K : PySem.W.Frag} {B : Gd} {ρ : Rho} {Ω : Om} {g : G} {σ : St} {H : Hp}
/-- the slot's list, its place changed -/
theorem Slots.own {H0 : Hp} {i : Nat} {p : Addr} {vs : List V} {ds : List D} (s : Slots K H0 ρ Ω H σ) (hp : H p = some (.lst vs)) (r : RepL K Ω ds vs) (hs : Ω.S p = none) (hn : ¬ Ω.Own p) (h0 : H0 p = none)
    (ne : ∀ j x, i ≠ j → ρ[j]? = some (some (.own x)) → σ[j]? ≠ some (some (.ref p))) : Slots K H0 (ρ.set i (some (.own ds))) Ω H (σ.set i (some (.ref p))) := by
  have key : ∀ (j : Nat) (x : SV), (ρ.set i (some (.own ds)))[j]? = some (some x) → (i = j ∧ x = .own ds ∧ i < ρ.length) ∨ (i ≠ j ∧ ρ[j]? = some (some x)) := fun j x h => by
    by_cases z : i = j
    · subst z
      have hi : i < ρ.length := by
        have := (List.getElem?_eq_some_iff.mp h).1
        simpa using this
      rw [List.getElem?_set_self hi] at h
      cases h
      exact .inl ⟨rfl, rfl, hi⟩
    · rw [List.getElem?_set_ne z] at h
      exact .inr ⟨z, h⟩
  refine ⟨by simp [s.len], fun j x h => ?_, fun j k x y v h1 h2 h3 h4 => ?_⟩
  · rcases key j x h with ⟨rfl, rfl, hi⟩ | ⟨z, h⟩
    · exact ⟨.ref p, by rw [List.getElem?_set_self (by rw [← s.len]; exact hi)], p, vs, rfl, hp, r, hs, hn, h0⟩
    · rw [List.getElem?_set_ne z]
      exact s.get j x h
  · rcases key j _ h1 with ⟨rfl, _, hi⟩ | ⟨z1, h1⟩
    · rcases key k _ h2 with ⟨rfl, _, _⟩ | ⟨z2, h2⟩
      · rfl
      · rw [List.getElem?_set_self (by rw [← s.len]; exact hi)] at h3
        cases h3
        rw [List.getElem?_set_ne z2] at h4
        exact absurd h4 (ne k y z2 h2)
    · rcases key k _ h2 with ⟨rfl, _, hi⟩ | ⟨z2, h2⟩
      · rw [List.getElem?_set_self (by rw [← s.len]; exact hi)] at h4
        cases h4
        rw [List.getElem?_set_ne z1] at h3
        exact absurd h3 (ne j x z1 h1)
      · rw [List.getElem?_set_ne z1] at h3
        rw [List.getElem?_set_ne z2] at h4
        exact s.ne j k x y v h1 h2 h3 h4
/-- a store to a slot's own list leaves the other slots -/
theorem Slots.store {H0 : Hp} {p : Addr} {o : HO} {i : Nat} {ds : List D} {vs : List V} (s : Slots K H0 ρ Ω H σ) (hi : ρ[i]? = some (some (.own ds))) (hv : σ[i]? = some (some (.ref p))) (r : RepL K Ω ds vs) (es : List D) (us : List V) (re : RepL K Ω es us) :
    Slots K H0 (ρ.set i (some (.own es))) Ω (upd H p (.lst us)) σ := by
  obtain ⟨v, h1, q⟩ := s.get i _ hi
  obtain ⟨p', vs', rfl, h2, h3, h4, h5, h6⟩ := q
  rw [hv] at h1
  cases h1
  have e : σ.set i (some (.ref p)) = σ := by
    apply List.ext_getElem?
    intro j
    by_cases z : i = j
    · subst z
      rw [List.getElem?_set_self (List.getElem?_eq_some_iff.mp hv).1, hv]
    · rw [List.getElem?_set_ne z]
  have s' : Slots K H0 (ρ.set i none) Ω (upd H p (.lst us)) (σ.set i none) := by
    have s0 := s.wipe1 (i := i)
    refine ⟨s0.len, fun j x h => ?_, s0.ne⟩
    obtain ⟨v, q1, q2⟩ := s0.get j x h
    refine ⟨v, q1, ?_⟩
    cases x with
    | dat d => exact q2
    | own xs =>
      obtain ⟨a, ws, rfl, g2, g3, g4, g5, g6⟩ := q2
      refine ⟨a, ws, rfl, ?_, g3, g4, g5, g6⟩
      have zij : i ≠ j := by
        intro z; subst z
        have hl : i < ρ.length := by
          have := (List.getElem?_eq_some_iff.mp h).1
          simpa using this
        rw [List.getElem?_set_self hl] at h; cases h
      rw [List.getElem?_set_ne zij] at h q1
      have nap : a ≠ p := fun z => by
        subst z
        exact zij (s.ne i j _ _ _ hi h hv q1)
      rw [upd_ne nap]
      exact g2
  have fin := Slots.own (i := i) (p := p) (vs := us) (ds := es) s' upd_same re h4 h5 h6 (fun j x zij hj hc => ?_)
  · rw [List.set_set, List.set_set, e] at fin
    exact fin
  · rw [List.getElem?_set_ne zij] at hj hc
    exact zij (s.ne i j _ _ _ hi hj hv hc)
end
section
variable {X : Cx} {B : Gd} {W : WX} {e : Expr} {es : List Expr} {fe : DE} {fr : DA} {pos : Pos} {i : Nat} {x : Str} {rest : List Stmt} {f : DS}
theorem pds_own {pos' lp : Pos} (hN : X.N.Nodup) (hi : X.N[i]? = some x) (hx : Loc X.env.scope x) (ha : PDA X B W es fr) (hf : X.fn x = true ∨ X.env.scope.names.lookup x = some .local) (hs : swapsWith (.List es lp) (some (.Name x pos')) pos.line X.env = pure false := by rfl) :
    PDS X B W (.Assign [.Name x pos'] (.List es lp) pos) (ownS i fr) := PS.weak (ps_set hN hi hx (pe_lst ha) hs hf) fun D σ H q => by
  obtain ⟨ρ, Ω, g, A, p⟩ := q
  unfold ownS at p
  refine wA.run A (fun ds g1 vs Ω1 H1 e1 t1 w1 r1 => ?_) (fun x g1 cls dd Ω1 H1 e1 t1 w1 rx => by rw [e1] at p; exact p cls dd σ Ω1 H1 t1.gr (A.go t1 w1) rx) (fun e1 => by rw [e1] at p; exact p.elim)
  rw [e1] at p
  simp only at p
  split at p
  · rename_i hl
    refine ⟨by rw [← r1.length]; exact hl, fun a ha => ?_⟩
    have A1 := A.go t1 w1
    have t2 := Tr.loose (Ω := Ω1) (o := .lst vs) ha
    have w2 := w1.loose (o := .lst vs) ha
    have A2 := A1.go t2 w2
    refine p _ Ω1 _ t1.gr ⟨A2.tr, A2.wf, A2.sl.own upd_same r1 ?_ ?_ ?_ ?_⟩
    · cases q : Ω1.S a with
      | none => rfl
      | some u => rw [w1.sub a u q] at ha; cases ha
    · intro z
      obtain ⟨o, h⟩ := w1.ownSome z
      rw [ha] at h; cases h
    · exact A1.tr.none_of ha
    · intro j xs _ hj hc
      obtain ⟨v, q1, q2⟩ := A1.sl.get j _ hj
      rw [hc] at q1
      cases q1
      obtain ⟨a', ws, ea, g2, _⟩ := q2
      cases ea
      rw [ha] at g2; cases g2
  · exact p.elim
theorem pds_app {xp ap cp : Pos} (hv : PE X (.Name x xp) (tVar i)) (he : PD X B W e fe)
    (h0 : attributeBase (.Name x xp) "append" X.env (eval (.Name x xp) X.env) = eval (.Name x xp) X.env := by rfl)
    (h1 : PE X (.Call (.Attribute (.Name x xp) "append" ap) [e] [] cp) (tBM X.K "list" rAppend (tVar i) (tCons (wE X.K B W fe) tNil))) (hs : swapsWith (.Call (.Attribute (.Name x xp) "append" ap) [e] [] cp) none pos.line X.env = pure false := by rfl) :
    PDS X B W (.Expr (.Call (.Attribute (.Name x xp) "append" ap) [e] [] cp) pos) (appS i fe) := PS.weak (ps_expr h1 hs) fun D σ H q => by
  obtain ⟨ρ, Ω, g, A, p⟩ := q
  unfold appS at p
  split at p
  · rename_i ds hd
    obtain ⟨v, q1, q2⟩ := A.sl.get i _ hd
    obtain ⟨a, vs, rfl, g2, g3, g4, g5, g6⟩ := q2
    refine ⟨.ref a, q1, .inl ⟨rfl, vs, SqL.of g2⟩, stE A (fun e => by rw [e] at p; exact p) (fun x g' e => by rw [e] at p; exact p) fun d g' u Ω' H' e gr A' r => ?_⟩
    rw [e] at p
    simp only at p
    split at p
    · rename_i hl
      obtain ⟨v', q1', q2'⟩ := A'.sl.get i _ hd
      obtain ⟨a', vs', ea, g2', g3', g4', g5', g6'⟩ := q2'
      rw [q1] at q1'
      cases q1'
      cases ea
      refine ⟨a, vs', u, rfl, rfl, g2', by rw [← g3'.length]; exact hl, ?_⟩
      refine p σ Ω' _ gr ⟨A'.tr.mut g6', A'.wf.upd g4' g5', A'.sl.store (o := .lst vs') hd q1 g3' _ _ (g3'.app (.cons r .nil))⟩
    · exact p.elim
  · exact p.elim
theorem pds_ext {pos' : Pos} (hN : X.N.Nodup) (hi : X.N[i]? = some x) (hx : Loc X.env.scope x) (he : PD X B W e fe) (ho : PIp X .Add rExt2) (hf : X.fn x = true ∨ X.env.scope.names.lookup x = some .local) :
    PDS X B W (.AugAssign (.Name x pos') .Add e pos) (extS i fe) := PS.weak (ps_aug hN hi hx he ho hf) fun D σ H q => by
  obtain ⟨ρ, Ω, g, A, p⟩ := q
  unfold extS at p
  split at p
  · rename_i ds hd
    obtain ⟨v, q1, q2⟩ := A.sl.get i _ hd
    obtain ⟨a, vs, rfl, g2, g3, g4, g5, g6⟩ := q2
    refine ⟨.ref a, q1, stE A (fun e => by rw [e] at p; exact p) (fun x g' e => by rw [e] at p; exact p) fun d g' u Ω' H' e gr A' r => ?_⟩
    rw [e] at p
    cases d with
    | lst es =>
      simp only at p
      split at p
      · rename_i hl
        obtain ⟨v', q1', q2'⟩ := A'.sl.get i _ hd
        obtain ⟨a', vs', ea, g2', g3', g4', g5', g6'⟩ := q2'
        rw [q1] at q1'
        cases q1'
        cases ea
        obtain ⟨b, us, rfl, h2, h3⟩ := rep_lst.mp r
        refine ⟨a, b, vs', us, rfl, rfl, g2', A'.wf.sub _ _ h2, by rw [← g3'.length, ← h3.length]; exact hl, ?_⟩
        have e : σ.set i (some (.ref a)) = σ := by
          apply List.ext_getElem?
          intro j
          by_cases z : i = j
          · subst z
            rw [List.getElem?_set_self (List.getElem?_eq_some_iff.mp q1).1, q1]
          · rw [List.getElem?_set_ne z]
        show D.nx (σ.set i (some (.ref a))) (upd H' a (.lst (vs' ++ us)))
        rw [e]
        refine p σ Ω' _ gr ⟨A'.tr.mut g6', A'.wf.upd g4' g5', A'.sl.store (o := .lst vs') hd q1 g3' _ _ (g3'.app h3)⟩
      · exact p.elim
    | _ => exact p.elim
  · exact p.elim
/-- from here on the slot's list stands still -/
theorem pds_frz (i : Nat) (h : PDSs X B W rest f) : PDSs X B W rest (frzS i f) := PSs.weak h fun D σ H q => by
  obtain ⟨ρ, Ω, g, A, p⟩ := q
  unfold frzS at p
  split at p
  · rename_i ds hd
    obtain ⟨v, q1, q2⟩ := A.sl.get i _ hd
    obtain ⟨a, vs, rfl, g2, g3, g4, g5, g6⟩ := q2
    have gr : Gr Ω (Ω.add a (.lst vs)) := Gr.add g4
    have e : σ.set i (some (.ref a)) = σ := by
      apply List.ext_getElem?
      intro j
      by_cases z : i = j
      · subst z
        rw [List.getElem?_set_self (List.getElem?_eq_some_iff.mp q1).1, q1]
      · rw [List.getElem?_set_ne z]
    have rp : Rep X.K (Ω.add a (.lst vs)) (.lst ds) (.ref a) := rep_lst.mpr ⟨a, vs, rfl, add_get, RepL.mono gr _ _ g3⟩
    have s' : Slots X.K B.H0 (ρ.set i none) (Ω.add a (.lst vs)) H (σ.set i none) := by
      have s0 := A.sl.wipe1 (i := i)
      refine ⟨s0.len, fun j x h => ?_, s0.ne⟩
      obtain ⟨v, w1, w2⟩ := s0.get j x h
      refine ⟨v, w1, ?_⟩
      cases x with
      | dat d => exact Rep.mono gr _ _ w2
      | own xs =>
        obtain ⟨b, ws, rfl, k2, k3, k4, k5, k6⟩ := w2
        have zij : i ≠ j := by
          intro z; subst z
          have hl : i < ρ.length := by
            have := (List.getElem?_eq_some_iff.mp h).1
            simpa using this
          rw [List.getElem?_set_self hl] at h; cases h
        rw [List.getElem?_set_ne zij] at h w1
        have nap : b ≠ a := fun z => by
          subst z
          exact zij (A.sl.ne i j _ _ _ hd h q1 w1)
        refine ⟨b, ws, rfl, k2, RepL.mono gr _ _ k3, ?_, k5, k6⟩
        show upd Ω.S a (.lst vs) b = none
        rw [upd_ne nap]
        exact k4
    have s2 := s'.set (i := i) rp
    rw [List.set_set, List.set_set, e] at s2
    exact ⟨_, Ω.add a (.lst vs), g, ⟨A.tr.freeze g6 g4, A.wf.freeze g2 g5, s2⟩, p.gr gr⟩
  · exact ⟨ρ, Ω, g, A, p⟩
theorem lst_there {ρ : Rho} {Ω : Om} {g : G} {σ : St} {H : Hp} {ds : List D} (A : At X.K B ρ Ω g σ H) (h : lstAt ρ i = some ds) : ∃ a, σ[i]? = some (some (.ref a)) ∧ ∀ Ω1 g1 H1, Tr Ω H Ω1 H1 → Wf g1 Ω1 H1 → ∃ vs, SqL X.K H1 a vs ∧ RepL X.K Ω1 ds vs := by
  rcases lstAt_cases h with hd | hd
  · obtain ⟨v, q1, q2⟩ := A.sl.get i _ hd
    obtain ⟨a, vs, rfl, g2, g3, g4, g5, g6⟩ := q2
    refine ⟨a, q1, fun Ω1 g1 H1 t1 w1 => ?_⟩
    have q3 : SlotOk X.K B.H0 Ω H (.own ds) (.ref a) := ⟨a, vs, rfl, g2, g3, g4, g5, g6⟩
    obtain ⟨a', vs', e, k2, k3, _⟩ := q3.tr t1
    cases e
    exact ⟨vs', SqL.of k2, k3⟩
  · obtain ⟨v, q1, q2⟩ := A.sl.get i _ hd
    have q2 : Rep X.K Ω (.lst ds) v := q2
    obtain ⟨a, xs, rfl, h2, h3⟩ := rep_lst.mp q2
    refine ⟨a, q1, fun Ω1 g1 H1 t1 w1 => ⟨xs, Evl.ex_l (t1.gr.s.trans w1.sub) (.inl (.inl h2)), RepL.mono t1.gr _ _ h3⟩⟩
theorem pd_ownIx {xp : Pos} (hv : PE X (.Name x xp) (tVar i)) (he : PD X B W e fe) (hs : PlainIx e := by intro _ _; rfl) : PD X B W (.Subscript (.Name x xp) e pos) (ownIxE i fe) := PE.weak (pe_ix ix_list hv he hs) fun σ H Q q => by
  obtain ⟨ρ, Ω, g, A, p⟩ := q
  unfold ownIxE at p
  split at p
  · rename_i ds hd
    obtain ⟨a, q1, q2⟩ := lst_there A hd
    refine ⟨.ref a, q1, wE.run A (fun d1 g1 v1 Ω1 H1 e1 t1 w1 r1 => ?_) (fun x g1 cls dd Ω1 H1 e1 t1 w1 rx => by rw [e1] at p; exact p cls dd Ω1 H1 t1 w1 rx) (fun e1 => by rw [e1] at p; exact p.elim)⟩
    obtain ⟨vs, g2, g3⟩ := q2 Ω1 g1 H1 t1 w1
    rw [e1] at p
    cases d1 with
    | int k =>
      simp only [Res.bind] at p
      cases e2 : atI ds k with
      | none => rw [e2] at p; exact p.elim
      | some d =>
        rw [e2] at p
        obtain ⟨u, h1, h2⟩ := atI_rep g3 e2
        exact ⟨a, vs, k, u, rfl, rep_int.mp r1, g2, h1, p u Ω1 H1 t1 w1 h2⟩
    | _ => exact p.elim
  · exact p.elim
theorem pd_ownLen {xp p1 : Pos} (hv : PE X (.Name x xp) (tVar i)) (hg : Gl X "len") (hm : X.mg "len" = none) (hs : starEach ((.Name x xp) :: []) X.env = (false, eval (.Name x xp) X.env) :: starEach [] X.env := by rfl) :
    PD X B W (.Call (.Name "len" p1) [.Name x xp] [] pos) (ownLenE i) := PE.weak (pe_callB call_len_seq hg hm PySem.boot_len (pa_cons hv pa_nil)) fun σ H Q q => by
  obtain ⟨ρ, Ω, g, A, p⟩ := q
  unfold ownLenE at p
  split at p
  · rename_i ds hd
    obtain ⟨a, q1, q2⟩ := lst_there A hd
    obtain ⟨vs, g2, g3⟩ := q2 Ω g H (.refl _ _) A.wf
    refine ⟨.ref a, q1, a, vs, rfl, .inl g2, ?_⟩
    exact p _ Ω H (.refl _ _) A.wf (rep_int.mpr (by rw [g3.length]))
  · exact p.elim
end

/-! ### a def -/
def startR (n : Nat) (ds : List D) : Rho := ds.map (fun d => some (.dat d)) ++ List.replicate (n - ds.length) none
def runD (n : Nat) (fb : DS) : DF := fun ds g => match fb (startR n ds) g with
  | .rt d g' => .ok d g'
  | .nx _ g' => .ok .non g'
  | .err x _ g' => .err x g'
  | _ => .bad
theorem start_slots {K : PySem.W.Frag} {H0 : Hp} {Ω : Om} {H : Hp} {N : List Str} {ds : List D} {vs : List V} (r : RepL K Ω ds vs) : Slots K H0 (startR N.length ds) Ω H (L2.start N vs) := by
  have hl := r.length
  have key : ∀ (i : Nat) (x : SV), (startR N.length ds)[i]? = some (some x) → ∃ d, ds[i]? = some d ∧ x = .dat d := fun i x h => by
    unfold startR at h
    by_cases hi : i < ds.length
    · rw [List.getElem?_append_left (by simpa using hi), List.getElem?_map, List.getElem?_eq_getElem hi] at h
      cases h
      exact ⟨_, List.getElem?_eq_getElem hi, rfl⟩
    · rw [List.getElem?_append_right (by simpa using hi), List.getElem?_replicate] at h
      split at h <;> cases h
  refine ⟨by simp [startR, L2.start, hl], fun i x h => ?_, fun i j x y v h1 => ?_⟩
  · obtain ⟨d, h1, rfl⟩ := key i x h
    obtain ⟨v, h2, h3⟩ := r.get h1
    refine ⟨v, ?_, h3⟩
    unfold L2.start
    rw [List.getElem?_append_left (by have := (List.getElem?_eq_some_iff.mp h2).1; simpa using this), List.getElem?_map, h2]
    rfl
  · obtain ⟨d, _, z⟩ := key i _ h1
    cases z
/-- a world: the program, its written part, the module's names, how errors lie -/
structure Wd where
  P : Program
  w : World
  K : PySem.W.Frag
  mg : Str → Option Value
  base : Heap
  C : Ax
abbrev Wd.has (Z : Wd) (k : Nat) (x : Str) (ps : List Str) (F : DF) : Prop := Has Z.P Z.w Z.K Z.mg Z.base Z.C k x ps F
/-- where a piece of a def's text stands -/
structure Cz (Z : Wd) (N : List Str) (sc : Scope) (fn : Str → Bool) (k : Nat) (X : Cx) (B : Gd) (W : WX) : Prop where
  eP : X.prog = Z.P
  ew : X.w = Z.w
  eK : X.K = Z.K
  emg : X.mg = Z.mg
  ebase : X.base = Z.base
  eC : B.C = Z.C
  eN : X.N = N
  esc : X.env.scope = sc
  efn : X.fn = fn
  calm : X.calm = true
  room : Room k X.A
  tk : Takes X W
  nd : N.Nodup
theorem fn_okD {Z : Wd} {x qual : Str} {st : Stmt} {f : Addr} {fd : FuncData} {N ps : List Str} {k : Nat} {fb : DS} (F : Fun Z.K x qual st f fd) (S : FnScope N ps (defScope st))
    (hb : ∀ X B W, Cz Z N (defScope st) (fun _ => true) k X B W → PassesOwn (model X.prog X.w) X.A X.env X.xe → PDSs X B W (defBody st) fb) :
    FnOk Z.P Z.w Z.K Z.mg Z.base (L2.CX Z.P Z.w) (k + 1) f fd ps (spD Z.K Z.C ps.length (runD N.length fb)) := by
  refine F.okX S (fun vs H Q E h => ?_) (fun cdv A outer s H vs Q E hr h => ?_)
  · obtain ⟨ds, Ω, g, r, _, hl, _⟩ := h
    rw [← r.length, hl]
  · obtain ⟨ds, Ω, g, r, w, hl, q⟩ := h
    have h1 := hb (cxOf (L2.CX Z.P Z.w) Z.P Z.w Z.K Z.mg Z.base N qual (defScope st) f cdv A outer s H E) ⟨Ω, H, Z.C⟩ (fun cls d _ H' => E cls d H')
      ⟨rfl, rfl, rfl, rfl, rfl, rfl, rfl, rfl, rfl, rfl, hr, takes_of rfl rfl rfl rfl, S.nd⟩ (passes_of rfl)
    refine ⟨_, h1, startR N.length ds, Ω, g, ⟨.refl _ _, w, start_slots r⟩, ?_⟩
    unfold runD at q
    cases e : fb (startR N.length ds) g with
    | nx ρ g' => rw [e] at q; exact fun σ' Ω' H' gr A' => q .non Ω' H' A'.tr A'.wf (rep_non.mpr rfl)
    | rt d g' => rw [e] at q; exact fun v Ω' H' gr tr w' r' => q v Ω' H' tr w' r'
    | err x ρ g' => rw [e] at q; exact fun cls dd σ' Ω' H' gr A' rx => q cls dd Ω' H' A'.tr A'.wf rx
    | bk ρ g' => rw [e] at q; exact q.elim
    | ct ρ g' => rw [e] at q; exact q.elim
    | bad => rw [e] at q; exact q.elim
theorem relS_of {scope : Scope} {cl : List (Str × Addr)} {C : Addr} {env : Env} {sc : Scope} (h : env.scope = sc) : (compEnvC scope cl C env).scope = relS scope sc := by
  subst h
  rfl
section
variable {Z : Wd} {N : List Str} {sc : Scope} {fn : Str → Bool} {k : Nat} {X : Cx} {B : Gd} {W : WX}
theorem Cz.blk (c : Cz Z N sc fn k X B W) (scope : Scope) (s : Shared) (H : Hp) (C : Addr) (cl : List (Str × Addr)) (fp : List Addr) :
    Cz Z N (relS scope sc) (fun x => scope.names.lookup x == some .cell) k (X.blk s H scope (compEnvC scope cl C X.env) fp) B W0 :=
  ⟨c.eP, c.ew, c.eK, c.emg, c.ebase, c.eC, c.eN, relS_of c.esc, rfl, c.calm, c.room, takes0, c.nd⟩
theorem Cz.has (c : Cz Z N sc fn k X B W) {j : Nat} {x : Str} {ps : List Str} {F : DF} (h : Z.has j x ps F) : Has X.prog X.w X.K X.mg X.base B.C j x ps F := by
  rw [c.eP, c.ew, c.eK, c.emg, c.ebase, c.eC]
  exact h
def isVis (sc : Scope) (x : Str) : Bool := match sc.names.lookup x with
  | some .local => true
  | some .cell => true
  | some .free => true
  | _ => false
def isLoc (sc : Scope) (x : Str) : Bool := match sc.names.lookup x with
  | some .local => true
  | some .cell => true
  | _ => false
theorem isVis_ok {sc : Scope} {x : Str} (h : isVis sc x = true) : Vis sc x := by
  unfold isVis at h
  unfold Vis
  cases e : sc.names.lookup x with
  | none => rw [e] at h; cases h
  | some k => cases k <;> first | exact .inl rfl | exact .inr (.inl rfl) | exact .inr (.inr rfl) | (rw [e] at h; cases h)
theorem isLoc_ok {sc : Scope} {x : Str} (h : isLoc sc x = true) : Loc sc x := by
  unfold isLoc at h
  unfold L2.Loc
  cases e : sc.names.lookup x with
  | none => rw [e] at h; cases h
  | some k => cases k <;> first | exact .inl rfl | exact .inr rfl | (rw [e] at h; cases h)
/-- a name in slot i -/
def nmB (N : List Str) (sc : Scope) (i : Nat) (x : Str) : Bool := decide (N[i]? = some x) && isVis sc x && !(x == ("__debug__" : Str)) && !(x == ("__classdict__" : Str))
theorem Cz.pe (c : Cz Z N sc fn k X B W) (i : Nat) {x : Str} {pos : Pos} (h : nmB N sc i x = true) : PE X (.Name x pos) (tVar i) := by
  unfold nmB at h
  simp only [Bool.and_eq_true, decide_eq_true_eq, Bool.not_eq_true'] at h
  obtain ⟨⟨⟨h1, h2⟩, h3⟩, h4⟩ := h
  exact pe_var (by rw [c.eN]; exact h1) (by rw [c.esc]; exact isVis_ok h2) h3 h4
theorem Cz.v (c : Cz Z N sc fn k X B W) (i : Nat) {x : Str} {pos : Pos} (h : nmB N sc i x = true) : PD X B W (.Name x pos) (varE i) := pd_var i (c.pe i h)
def glB (sc : Scope) (x : Str) : Bool := match sc.names.lookup x with
  | some .globalImplicit => !(x == ("__debug__" : Str))
  | _ => false
theorem Cz.gl (c : Cz Z N sc fn k X B W) {x : Str} (h : glB sc x = true) : Gl X x ∧ (x == ("__debug__" : Str)) = false := by
  unfold glB at h
  unfold Gl Env.kindOf
  rw [c.esc]
  split at h
  · rename_i e
    exact ⟨e, by simpa using h⟩
  · cases h
/-- f(..), f a def of the text -/
theorem Cz.call (c : Cz Z N sc fn k X B W) {j : Nat} {x : Str} {ps : List Str} {F : DF} {e : Expr} {es : List Expr} {fr : DA} {p pos : Pos} (h : Z.has j x ps F) (hj : Nat.ble j k = true) (hg : glB sc x = true) (ha : PDA X B W (e :: es) fr)
    (he : starEach (e :: es) X.env = (false, eval e X.env) :: starEach es X.env := by rfl) (hpl : (backTo pos (starEach es X.env)).any (·.1) = false := by rfl) : PD X B W (.Call (.Name x p) (e :: es) [] pos) (callE ps.length F fr) :=
  pd_call (c.has h) (c.room.mono (Nat.le_of_ble_eq_true hj)) c.tk (c.gl hg).1 ha (c.gl hg).2 he hpl
/-- a constant of the module -/
theorem Cz.glob (c : Cz Z N sc fn k X B W) {x : Str} {d : D} {v : V} {u : Value} {pos : Pos} (h : Z.mg x = some u) (r : RelV v u) (rd : ∀ Ω, Rep Z.K Ω d v) (hg : glB sc x = true) : PD X B W (.Name x pos) (cE d) :=
  pd_c (pe_glob (c.gl hg).1 (by rw [c.emg]; exact h) r (c.gl hg).2) (by rw [c.eK]; exact rd)
/-- a target's name -/
def tgB (N : List Str) (sc : Scope) (fn : Str → Bool) (i : Nat) (x : Str) : Bool := decide (N[i]? = some x) && isLoc sc x && (fn x || (match sc.names.lookup x with | some .local => true | _ => false))
theorem tgB_ok (c : Cz Z N sc fn k X B W) {i : Nat} {x : Str} (h : tgB N sc fn i x = true) : X.N.Nodup ∧ X.N[i]? = some x ∧ Loc X.env.scope x ∧ (X.fn x = true ∨ X.env.scope.names.lookup x = some .local) := by
  unfold tgB at h
  simp only [Bool.and_eq_true, decide_eq_true_eq, Bool.or_eq_true] at h
  obtain ⟨⟨h1, h2⟩, h3⟩ := h
  refine ⟨by rw [c.eN]; exact c.nd, by rw [c.eN]; exact h1, by rw [c.esc]; exact isLoc_ok h2, ?_⟩
  rcases h3 with h3 | h3
  · exact .inl (by rw [c.efn]; exact h3)
  · right
    rw [c.esc]
    split at h3
    · assumption
    · cases h3
theorem Cz.g1 (c : Cz Z N sc fn k X B W) (i : Nat) {x : Str} {pos : Pos} (h : tgB N sc fn i x = true) : PDG X (.Name x pos) (.one i) := by
  obtain ⟨h1, h2, h3, h4⟩ := tgB_ok c h
  exact pg_name h1 h2 h3 h4
theorem Cz.gc (c : Cz Z N sc fn k X B W) (i : Nat) {x : Str} {pos : Pos} {es : List Expr} {is : List Nat} (h : tgB N sc fn i x = true) (hr : PGs X es (gNames is))
    (hs : (assignEach (.Name x pos :: es) X.env).map (·.2) = assign (.Name x pos) X.env :: (assignEach es X.env).map (·.2) := by rfl) : PGs X (.Name x pos :: es) (gNames (i :: is)) := pgs_cons (c.g1 i h) hr hs
theorem Cz.gm (c : Cz Z N sc fn k X B W) {es : List Expr} {is : List Nat} {j : Nat} {pos : Pos} (h : PGs X es (gNames is)) (hn : (assignEach es X.env).length = is.length := by rfl) (hst : (assignEach es X.env).findIdx? (·.1) = none := by rfl) : PDG X (.Tuple es j pos) (.many is) :=
  pg_tup c.calm h hn hst
/-- x = e -/
theorem Cz.asg (c : Cz Z N sc fn k X B W) (i : Nat) {x : Str} {e : Expr} {fe : DE} {pos pos' : Pos} (h : tgB N sc fn i x = true) (he : PD X B W e fe) (hs : swapsWithSole [.Name x pos'] e pos.line X.env = pure false := by rfl) (hw : swappedStores [.Name x pos'] e X.env = pure none := by rfl)
    (h1 : (assignEach [.Name x pos'] X.env).map (·.2) = [assign (.Name x pos') X.env] := by rfl) : PDS X B W (.Assign [.Name x pos'] e pos) (asgS (.one i) fe) := pds_asg he (c.g1 i h) hs hw h1
theorem Cz.own (c : Cz Z N sc fn k X B W) (i : Nat) {x : Str} {es : List Expr} {fr : DA} {pos pos' lp : Pos} (h : tgB N sc fn i x = true) (ha : PDA X B W es fr) (hs : swapsWith (.List es lp) (some (.Name x pos')) pos.line X.env = pure false := by rfl) :
    PDS X B W (.Assign [.Name x pos'] (.List es lp) pos) (ownS i fr) := by
  obtain ⟨h1, h2, h3, h4⟩ := tgB_ok c h
  exact pds_own h1 h2 h3 ha h4 hs
theorem pip_ext {X : Cx} : PIp X .Add rExt2 := fun pins s σ H x y v u Q I rx ry h => iop_ext pins s σ H x y v u Q I rx ry h
theorem Cz.ext (c : Cz Z N sc fn k X B W) (i : Nat) {x : Str} {e : Expr} {fe : DE} {pos pos' : Pos} (h : tgB N sc fn i x = true) (he : PD X B W e fe) : PDS X B W (.AugAssign (.Name x pos') .Add e pos) (extS i fe) := by
  obtain ⟨h1, h2, h3, h4⟩ := tgB_ok c h
  exact pds_ext h1 h2 h3 he pip_ext h4
theorem Cz.aug (c : Cz Z N sc fn k X B W) (i : Nat) {x : Str} {op : Operator} {ti : TIp} {o : D → D → Option D} {e : Expr} {fe : DE} {pos pos' : Pos} (h : tgB N sc fn i x = true) (ho : PIp X op ti) (hr : OpD X.K ti o) (he : PD X B W e fe) : PDS X B W (.AugAssign (.Name x pos') op e pos) (augS i o fe) := by
  obtain ⟨h1, h2, h3, h4⟩ := tgB_ok c h
  exact pds_aug h1 h2 h3 he ho hr h4
theorem Cz.app (c : Cz Z N sc fn k X B W) (i : Nat) {x : Str} {e : Expr} {fe : DE} {pos xp ap cp : Pos} (h : nmB N sc i x = true) (he : PD X B W e fe)
    (h1 : PE X (.Call (.Attribute (.Name x xp) "append" ap) [e] [] cp) (tBM X.K "list" rAppend (tVar i) (tCons (wE X.K B W fe) tNil))) (hs : swapsWith (.Call (.Attribute (.Name x xp) "append" ap) [e] [] cp) none pos.line X.env = pure false := by rfl)
    (h0 : attributeBase (.Name x xp) "append" X.env (eval (.Name x xp) X.env) = eval (.Name x xp) X.env := by rfl) :
    PDS X B W (.Expr (.Call (.Attribute (.Name x xp) "append" ap) [e] [] cp) pos) (appS i fe) := pds_app (c.pe i h) he h0 h1 hs
/-- a, b = x, y -/
def parB (N : List Str) (sc : Scope) (i j : Nat) (x y : Str) : Bool := decide (N[i]? = some x) && decide (N[j]? = some y) && !decide (i = j) && (match sc.names.lookup x with | some .local => true | _ => false) && (match sc.names.lookup y with | some .local => true | _ => false)
theorem Cz.par (c : Cz Z N sc fn k X B W) (i j : Nat) {x y : Str} {a b : Expr} {fr : DA} {px py pt pos : Pos} {kt k2 pt2} (h : parB N sc i j x y = true) (ha : PDA X B W [a, b] fr)
    (hw : swappedStores [.Tuple [.Name x px, .Name y py] kt pt] (.Tuple [a, b] k2 pt2) X.env = pure (some [x, y]))
    (hs : swapsWithSole [.Tuple [.Name x px, .Name y py] kt pt] (.Tuple [a, b] k2 pt2) pos.line X.env = pure false := by rfl) :
    PDS X B W (.Assign [.Tuple [.Name x px, .Name y py] kt pt] (.Tuple [a, b] k2 pt2) pos) (asgS (.many [i, j]) (clE tupO fr)) := by
  unfold parB at h
  simp only [Bool.and_eq_true, decide_eq_true_eq, Bool.not_eq_true', decide_eq_false_iff_not] at h
  obtain ⟨⟨⟨⟨h1, h2⟩, h3⟩, h4⟩, h5⟩ := h
  refine pds_par c.calm (by rw [c.eN]; exact c.nd) (by rw [c.eN]; exact h1) (by rw [c.eN]; exact h2) h3 ?_ ?_ ha hw hs
  · rw [c.esc]; split at h4; assumption; cases h4
  · rw [c.esc]; split at h5; assumption; cases h5
/-- [elt for ..] -/
theorem Cz.lc (c : Cz Z N sc fn k X B W) (own : List (Str × Nat)) {tg iter elt : Expr} {ifs : List Expr} {scope : Scope} {fi : DA} {t : Tg} {ft : DT} {fe : DE} {pos : Pos} (ok : blkC N sc scope own = true) (hi : PDI X B W tg iter fi)
    (hb : ∀ X' B', Cz Z N (relS scope sc) (fun x => scope.names.lookup x == some .cell) k X' B' W0 → PDG X' tg t ∧ PDTs X' B' W0 ifs ft ∧ PD X' B' W0 elt fe) (hv : (t.names.all fun i => (own.map (·.2)).contains i) = true) (hs : ∀ x, foldedSetIterable iter X.env x = pure x := by intro _; rfl) :
    PD X B W (.ListComp elt [⟨tg, iter, ifs, 0⟩] scope pos) (lcE fi (own.map (·.2)) t ft fe) :=
  pd_lc c.calm (by rw [c.eN]; exact c.nd) hi (by rw [c.eN, c.esc]; exact blkOk_by ok) (fun s H C cl fp => (hb _ _ (c.blk scope s H C cl fp)).1) (fun s H C cl fp => (hb _ _ (c.blk scope s H C cl fp)).2.1) (fun s H C cl fp => (hb _ _ (c.blk scope s H C cl fp)).2.2)
    (fun i hi => by simpa using List.all_eq_true.mp hv i hi) hs
def setB (N : List Str) (sc scope : Scope) (i : Nat) (y : Str) (l1 l2 : Nat) : Bool := decide (N[i]? = some y) && (match sc.names.lookup y with | some .local => true | _ => false) && (match sc.kind with | .function => true | _ => false) && (l1 == l2) && !(scope.names.any fun (n, k) => n == y && (k == .local || k == .cell))
theorem Cz.setLc (c : Cz Z N sc fn k X B W) (i : Nat) (own : List (Str × Nat)) {y : Str} {tg iter elt : Expr} {ifs : List Expr} {scope : Scope} {fi : DA} {t : Tg} {ft : DT} {fe : DE} {pos py spos : Pos} (hy : setB N sc scope i y py.line pos.line = true) (ok : blkC N sc scope own = true) (hi : PDI X B W tg iter fi)
    (hb : ∀ X' B', Cz Z N (relS scope sc) (fun x => scope.names.lookup x == some .cell) k X' B' W0 → PDG X' tg t ∧ PDTs X' B' W0 ifs ft ∧ PD X' B' W0 elt fe) (hv : (t.names.all fun i => (own.map (·.2)).contains i) = true) (hs : ∀ x, foldedSetIterable iter X.env x = pure x := by intro _; rfl) :
    PDS X B W (.Assign [.Name y py] (.ListComp elt [⟨tg, iter, ifs, 0⟩] scope pos) spos) (asgS (.one i) (lcE fi (own.map (·.2)) t ft fe)) := by
  unfold setB at hy
  simp only [Bool.and_eq_true, decide_eq_true_eq, Bool.not_eq_true'] at hy
  obtain ⟨⟨⟨⟨h1, h2⟩, h3⟩, h4⟩, h5⟩ := hy
  have h2' : sc.names.lookup y = some .local := by split at h2; assumption; cases h2
  have h3' : sc.kind = .function := by split at h3; assumption; cases h3
  exact pds_setLc c.calm (by rw [c.eN]; exact c.nd) (by rw [c.eN]; exact h1) (by rw [c.esc]; exact h2') (sw_true (by rw [c.esc]; exact h3') (by rw [c.esc]; exact h2') h4 h5) hi (by rw [c.eN, c.esc]; exact blkOk_by ok) (fun s H C cl fp => (hb _ _ (c.blk scope s H C cl fp)).1) (fun s H C cl fp => (hb _ _ (c.blk scope s H C cl fp)).2.1) (fun s H C cl fp => (hb _ _ (c.blk scope s H C cl fp)).2.2)
    (fun i hi => by simpa using List.all_eq_true.mp hv i hi) hs
end
end TS
namespace TS
open PySem L2
open Evl (Ex)

/-! ### operations on data -/
section
variable {K : PySem.W.Frag}
theorem opD_val {r : R2} {o : D → D → Option D} (h : ∀ (d1 d2 d : D) (Ω : Om) (g : G) (H : Hp) (x y : V), o d1 d2 = some d → Wf g Ω H → Rep K Ω d1 x → Rep K Ω d2 y → ∃ v, Rep K Ω d v ∧ ∀ Q : VK, Q v H → r x y H Q) : OpD K r o :=
  fun d1 d2 d Ω g H x y Q e w r1 r2 k => by
    obtain ⟨v, h1, h2⟩ := h d1 d2 d Ω g H x y e w r1 r2
    exact h2 Q (k v Ω H (.refl _ _) w h1)
theorem clD_val {r : List V → Hp → VK → Prop} {o : List D → Option D} (h : ∀ (ds : List D) (d : D) (Ω : Om) (g : G) (H : Hp) (xs : List V), o ds = some d → Wf g Ω H → RepL K Ω ds xs → ∃ v, Rep K Ω d v ∧ ∀ Q : VK, Q v H → r xs H Q) : ClD K r o :=
  fun ds d Ω g H xs Q e w r1 k => by
    obtain ⟨v, h1, h2⟩ := h ds d Ω g H xs e w r1
    exact h2 Q (k v Ω H (.refl _ _) w h1)
/-- two ints -/
def iiO (C : Int → Int → Bool) (f : Int → Int → D) : D → D → Option D
  | .int i, .int j => if C i j = true then some (f i j) else none
  | _, _ => none
def iiO0 (f : Int → Int → D) : D → D → Option D
  | .int i, .int j => some (f i j)
  | _, _ => none
theorem od_ii {C : Int → Int → Prop} {c : Int → Int → Bool} {gv : Int → Int → V} {f : Int → Int → D} (hC : ∀ i j, c i j = true → C i j) (hv : ∀ Ω i j, c i j = true → Rep K Ω (f i j) (gv i j)) : OpD K (rI C gv) (iiO c f) := opD_val fun d1 d2 d Ω g H x y e w r1 r2 => by
  cases d1 <;> cases d2 <;> try cases e
  rename_i i j
  have e : (if c i j = true then some (f i j) else none) = some d := e
  split at e
  · rename_i hc
    cases e
    exact ⟨gv i j, hv Ω i j hc, fun Q q => ⟨i, j, rep_int.mp r1, rep_int.mp r2, hC i j hc, q⟩⟩
  · cases e
theorem od_ii0 {gv : Int → Int → V} {f : Int → Int → D} (hv : ∀ Ω i j, Rep K Ω (f i j) (gv i j)) : OpD K (rI0 gv) (iiO0 f) := opD_val fun d1 d2 d Ω g H x y e w r1 r2 => by
  cases d1 <;> cases d2 <;> cases e
  rename_i i j
  exact ⟨gv i j, hv Ω i j, fun Q q => ⟨i, j, rep_int.mp r1, rep_int.mp r2, q⟩⟩
theorem ri {Ω : Om} {i : Int} : Rep K Ω (.int i) (.int i) := rep_int.mpr rfl
theorem rb {Ω : Om} {i : Bool} : Rep K Ω (.bl i) (.bl i) := rep_bl.mpr rfl
theorem rs {Ω : Om} {i : Str} : Rep K Ω (.str i) (.str i) := rep_str.mpr rfl
end
instance (i j : Int) : Decidable (CMul i j) := by unfold CMul; infer_instance
instance (i j : Int) : Decidable (CMulW i j) := by unfold CMulW; infer_instance
instance (i j : Int) : Decidable (CDivN i j) := by unfold CDivN; infer_instance
instance (i j : Int) : Decidable (CDivW i j) := by unfold CDivW; infer_instance
instance (i j : Int) : Decidable (CPow i j) := by unfold CPow; infer_instance
def addI := iiO0 fun i j => .int (i + j)
def subI := iiO0 fun i j => .int (i - j)
def mulI := iiO (fun i j => decide (CMul i j)) fun i j => .int (i * j)
def mulW := iiO (fun i j => decide (CMulW i j)) fun i j => .int (i * j)
def fdivI := iiO (fun i j => decide (CDivN i j)) fun i j => .int (i.fdiv j)
def fdivW := iiO (fun i j => decide (CDivW i j)) fun i j => .int (i / j)
def modI := iiO (fun _ j => decide (j ≠ 0)) fun i j => .int (i.fmod j)
def powI := iiO (fun i j => decide (CPow i j)) fun i j => .int (i ^ j.toNat)
def ltI := iiO0 fun i j => .bl (decide (i < j))
def leI := iiO0 fun i j => .bl (decide (i ≤ j))
def gtI := iiO0 fun i j => .bl (decide (j < i))
def geI := iiO0 fun i j => .bl (decide (j ≤ i))
section
variable {K : PySem.W.Frag}
theorem od_add : OpD K (rI0 fun i j => .int (i + j)) addI := od_ii0 fun _ _ _ => ri
theorem od_sub : OpD K (rI0 fun i j => .int (i - j)) subI := od_ii0 fun _ _ _ => ri
theorem od_mul : OpD K (rI CMul fun i j => .int (i * j)) mulI := od_ii (fun _ _ h => of_decide_eq_true h) fun _ _ _ _ => ri
theorem od_mulW : OpD K (rI CMulW fun i j => .int (i * j)) mulW := od_ii (fun _ _ h => of_decide_eq_true h) fun _ _ _ _ => ri
theorem od_fdiv : OpD K (rI CDivN fun i j => .int (i.fdiv j)) fdivI := od_ii (fun _ _ h => of_decide_eq_true h) fun _ _ _ _ => ri
theorem od_fdivW : OpD K (rI CDivW fun i j => .int (i / j)) fdivW := od_ii (fun _ _ h => of_decide_eq_true h) fun _ _ _ _ => ri
theorem od_mod : OpD K (rI (fun _ j => j ≠ 0) fun i j => .int (i.fmod j)) modI := od_ii (fun _ _ h => of_decide_eq_true h) fun _ _ _ _ => ri
theorem od_pow : OpD K (rI CPow fun i j => .int (i ^ j.toNat)) powI := od_ii (fun _ _ h => of_decide_eq_true h) fun _ _ _ _ => ri
theorem od_lt : OpD K (rI0 fun i j => .bl (decide (i < j))) ltI := od_ii0 fun _ _ _ => rb
theorem od_le : OpD K (rI0 fun i j => .bl (decide (i ≤ j))) leI := od_ii0 fun _ _ _ => rb
theorem od_gt : OpD K (rI0 fun i j => .bl (decide (j < i))) gtI := od_ii0 fun _ _ _ => rb
theorem od_ge : OpD K (rI0 fun i j => .bl (decide (j ≤ i))) geI := od_ii0 fun _ _ _ => rb

/-! texts, lists, tuples: + -/
def addS : D → D → Option D
  | .str i, .str j => if i.length + j.length ≤ sizeLine then some (.str (i ++ j)) else none
  | _, _ => none
def addL : D → D → Option D
  | .lst i, .lst j => if i.length + j.length ≤ sizeLine then some (.lst (i ++ j)) else none
  | _, _ => none
def addT : D → D → Option D
  | .tup i, .tup j => if i.length + j.length ≤ sizeLine then some (.tup (i ++ j)) else none
  | _, _ => none
theorem od_addS : OpD K (fun x y H Q => ∃ i j, x = .str i ∧ y = .str j ∧ i.length + j.length ≤ sizeLine ∧ Q (.str (i ++ j)) H) addS := opD_val fun d1 d2 d Ω g H x y e w r1 r2 => by
  cases d1 <;> cases d2 <;> try cases e
  rename_i i j
  have e : (if i.length + j.length ≤ sizeLine then some (D.str (i ++ j)) else none) = some d := e
  split at e
  · rename_i h
    cases e
    exact ⟨_, rs, fun Q q => ⟨i, j, rep_str.mp r1, rep_str.mp r2, h, q⟩⟩
  · cases e
theorem od_addL : OpD K rCat addL := fun d1 d2 d Ω g H x y Q e w r1 r2 k => by
  cases d1 <;> cases d2 <;> try cases e
  rename_i i j
  have e : (if i.length + j.length ≤ sizeLine then some (D.lst (i ++ j)) else none) = some d := e
  split at e
  · rename_i h
    cases e
    obtain ⟨a, xs, rfl, h2, h3⟩ := rep_lst.mp r1
    obtain ⟨b, ys, rfl, h4, h5⟩ := rep_lst.mp r2
    refine ⟨a, b, xs, ys, rfl, rfl, w.sub _ _ h2, w.sub _ _ h4, by rw [← h3.length, ← h5.length]; exact h, fun p hp => k _ _ _ (.alloc w.sub hp) (w.alloc hp) ?_⟩
    exact rep_lst.mpr ⟨p, _, rfl, add_get, RepL.mono (Tr.alloc w.sub hp).gr _ _ (h3.app h5)⟩
  · cases e
theorem RepL.isNil {Ω : Om} {ds : List D} {vs : List V} (r : RepL K Ω ds vs) : (vs = [] ↔ ds = []) := by
  have := r.length
  cases ds <;> cases vs <;> simp at *
theorem od_addT : OpD K (rCatA K) addT := fun d1 d2 d Ω g H x y Q e w r1 r2 k => by
  cases d1 <;> cases d2 <;> try cases e
  rename_i i j
  have e : (if i.length + j.length ≤ sizeLine then some (D.tup (i ++ j)) else none) = some d := e
  split at e
  · rename_i h
    cases e
    obtain ⟨a, xs, rfl, h2, h3⟩ := rep_tup.mp r1
    obtain ⟨b, ys, rfl, h4, h5⟩ := rep_tup.mp r2
    refine ⟨a, b, xs, ys, rfl, rfl, Evl.ex_t w.sub h2, Evl.ex_t w.sub h4, by rw [← h3.length, ← h5.length]; exact h, fun z => ?_, fun z1 z2 => ?_, fun z1 z2 p hp => ?_⟩
    · have := h3.isNil.mp z
      subst this
      exact k _ Ω H (.refl _ _) w (rep_tup.mpr ⟨b, ys, rfl, h4, h5⟩)
    · have := h5.isNil.mp z2
      subst this
      rw [List.append_nil] at k
      exact k _ Ω H (.refl _ _) w (rep_tup.mpr ⟨a, xs, rfl, h2, h3⟩)
    · exact k _ _ _ (.alloc w.sub hp) (w.alloc hp) (rep_tup.mpr ⟨p, _, rfl, .inl (.inl add_get), RepL.mono (Tr.alloc w.sub hp).gr _ _ (h3.app h5)⟩)
  · cases e
/-- a list, a tuple, so many times -/
def repL : D → D → Option D
  | .lst i, .int k => if -(2 ^ 63) ≤ k ∧ k < 2 ^ 63 ∧ i.length * k.toNat ≤ sizeLine then some (.lst (List.replicate k.toNat i).flatten) else none
  | _, _ => none
def repT : D → D → Option D
  | .tup i, .int k => if i.isEmpty = false ∧ 2 ≤ k ∧ k ≤ 1000 ∧ i.length ≤ 1000 then some (.tup (List.replicate k.toNat i).flatten) else none
  | _, _ => none
theorem RepL.rep {Ω : Om} {ds : List D} {vs : List V} (r : RepL K Ω ds vs) : ∀ n : Nat, RepL K Ω (List.replicate n ds).flatten (List.replicate n vs).flatten
  | 0 => .nil
  | n + 1 => by
    rw [List.replicate_succ, List.replicate_succ, List.flatten_cons, List.flatten_cons]
    exact r.app (RepL.rep r n)
theorem od_repL : OpD K rRep TS.repL := fun d1 d2 d Ω g H x y Q e w r1 r2 k => by
  cases d1 <;> cases d2 <;> try cases e
  rename_i i n
  have e : (if -(2 ^ 63) ≤ n ∧ n < 2 ^ 63 ∧ i.length * n.toNat ≤ sizeLine then some (D.lst (List.replicate n.toNat i).flatten) else none) = some d := e
  split at e
  · rename_i h
    cases e
    obtain ⟨a, xs, rfl, h2, h3⟩ := rep_lst.mp r1
    refine ⟨a, n, xs, rfl, rep_int.mp r2, w.sub _ _ h2, h.1, h.2.1, by rw [← h3.length]; exact h.2.2, fun p hp => k _ _ _ (.alloc w.sub hp) (w.alloc hp) ?_⟩
    exact rep_lst.mpr ⟨p, _, rfl, add_get, RepL.mono (Tr.alloc w.sub hp).gr _ _ (h3.rep _)⟩
  · cases e
theorem od_repT : OpD K (rRepT K) TS.repT := fun d1 d2 d Ω g H x y Q e w r1 r2 k => by
  cases d1 <;> cases d2 <;> try cases e
  rename_i i n
  have e : (if i.isEmpty = false ∧ 2 ≤ n ∧ n ≤ 1000 ∧ i.length ≤ 1000 then some (D.tup (List.replicate n.toNat i).flatten) else none) = some d := e
  split at e
  · rename_i h
    cases e
    obtain ⟨a, xs, rfl, h2, h3⟩ := rep_tup.mp r1
    refine ⟨a, n, xs, rfl, rep_int.mp r2, Evl.ex_t w.sub h2, (fun z => by have q := h.1; rw [h3.isNil.mp z] at q; cases q), h.2.1, h.2.2.1, by rw [← h3.length]; exact h.2.2.2, fun p hp => k _ _ _ (.alloc w.sub hp) (w.alloc hp) ?_⟩
    exact rep_tup.mpr ⟨p, _, rfl, .inl (.inl add_get), RepL.mono (Tr.alloc w.sub hp).gr _ _ (h3.rep _)⟩
  · cases e

/-! ### ==, != -/
def eqS : D → D → Option Bool
  | .int i, .int j => some (decide (i = j))
  | .str i, .str j => some (decide (i = j))
  | .bl i, .bl j => some (decide (i = j))
  | .non, .non => some true
  | .non, .int _ => some false
  | .int _, .non => some false
  | .non, .str _ => some false
  | .str _, .non => some false
  | .non, .bl _ => some false
  | .bl _, .non => some false
  | .int _, .str _ => some false
  | .str _, .int _ => some false
  | _, _ => none
mutual
def toP : D → Option PyData
  | .non => some .none
  | .bl b => some (.bool b)
  | .int i => some (.int i)
  | .str x => some (.str x)
  | .tup ds => (toPs ds).map .tuple
  | .lst ds => (toPs ds).map .list
  | .gen => none
  | .scr _ => none
def toPs : List D → Option (List PyData)
  | [] => some []
  | d :: ds => (toP d).bind fun p => (toPs ds).map fun r => p :: r
end
mutual
theorem toP_dp {Ω : Om} : ∀ (d : D) (v : V) (p : PyData), Rep K Ω d v → toP d = some p → Dp K Ω.S v p
  | .non, v, p, h, e => by cases e; rw [rep_non.mp h]; exact .non
  | .bl b, v, p, h, e => by cases e; rw [rep_bl.mp h]; exact .bl b
  | .int b, v, p, h, e => by cases e; rw [rep_int.mp h]; exact .int b
  | .str b, v, p, h, e => by cases e; rw [rep_str.mp h]; exact .str b
  | .tup ds, v, p, h, e => by
    obtain ⟨a, xs, rfl, h2, h3⟩ := rep_tup.mp h
    unfold toP at e
    cases q : toPs ds with
    | none => rw [q] at e; cases e
    | some ps =>
      rw [q] at e
      cases e
      exact .tup h2 (toPs_dp ds xs ps h3 q)
  | .lst ds, v, p, h, e => by
    obtain ⟨a, xs, rfl, h2, h3⟩ := rep_lst.mp h
    unfold toP at e
    cases q : toPs ds with
    | none => rw [q] at e; cases e
    | some ps =>
      rw [q] at e
      cases e
      exact .lst (.inl (.inl h2)) (toPs_dp ds xs ps h3 q)
  | .gen, v, p, h, e => by cases e
  | .scr _, v, p, h, e => by cases e
theorem toPs_dp {Ω : Om} : ∀ (ds : List D) (vs : List V) (ps : List PyData), RepL K Ω ds vs → toPs ds = some ps → DpAll K Ω.S vs ps
  | [], vs, ps, h, e => by
    rw [repL_nil.mp h]
    unfold toPs at e
    cases e
    exact .nil
  | d :: ds, vs, ps, h, e => by
    obtain ⟨v, r, rfl, h2, h3⟩ := repL_cons.mp h
    unfold toPs at e
    cases q : toP d with
    | none => rw [q] at e; cases e
    | some p =>
      rw [q] at e
      simp only [Option.bind_some] at e
      cases q2 : toPs ds with
      | none => rw [q2] at e; cases e
      | some r2 =>
        rw [q2] at e
        cases e
        exact .cons (toP_dp d v p h2 q) (toPs_dp ds r r2 h3 q2)
end
mutual
theorem dp_mono {S H : Hp} (e : Ex S H) : ∀ (p : PyData) (v : V), Dp K S v p → Dp K H v p
  | .none, v, h => by cases h; exact .non
  | .bool _, v, h => by cases h; exact .bl _
  | .int _, v, h => by cases h; exact .int _
  | .str _, v, h => by cases h; exact .str _
  | .list ps, v, h => by
    cases h with
    | lst hs ha => exact .lst (Evl.ex_l e hs) (dpAll_mono e ps _ ha)
  | .tuple ps, v, h => by
    cases h with
    | tup hs ha => exact .tup (Evl.ex_t e hs) (dpAll_mono e ps _ ha)
  | .dict _, v, h => by cases h
theorem dpAll_mono {S H : Hp} (e : Ex S H) : ∀ (ps : List PyData) (vs : List V), DpAll K S vs ps → DpAll K H vs ps
  | [], vs, h => by cases h; exact .nil
  | p :: ps, vs, h => by
    cases h with
    | cons h1 h2 => exact .cons (dp_mono e p _ h1) (dpAll_mono e ps _ h2)
end
def eqP (d1 d2 : D) : Option Bool := match toP d1, toP d2 with
  | some p, some q => if SeqAt.shaped p = true ∧ SeqAt.shaped q = true then some (PyData.eqv p q) else none
  | _, _ => none
def eqB (d1 d2 : D) : Option Bool := match eqS d1 d2 with
  | some b => some b
  | none => eqP d1 d2
def eqO (d1 d2 : D) : Option D := (eqB d1 d2).map fun b => .bl b
def neO (d1 d2 : D) : Option D := (eqB d1 d2).map fun b => .bl (!b)
theorem eqS_ok {Ω : Om} {d1 d2 : D} {x y : V} {b : Bool} (r1 : Rep K Ω d1 x) (r2 : Rep K Ω d2 y) (e : eqS d1 d2 = some b) : scal x y = true ∧ decide (x = y) = b := by
  cases d1 <;> cases d2 <;> cases e <;>
    (first | rw [rep_int.mp r1] | rw [rep_str.mp r1] | rw [rep_bl.mp r1] | rw [rep_non.mp r1]) <;>
    (first | rw [rep_int.mp r2] | rw [rep_str.mp r2] | rw [rep_bl.mp r2] | rw [rep_non.mp r2]) <;> simp [scal]
theorem od_eq : OpD K (fun x y H Q => rEq x y H Q ∨ rEqD K x y H Q) eqO := opD_val fun d1 d2 d Ω g H x y e w r1 r2 => by
  unfold eqO eqB at e
  cases q : eqS d1 d2 with
  | some b =>
    rw [q] at e
    cases e
    obtain ⟨h1, h2⟩ := eqS_ok r1 r2 q
    exact ⟨_, rb, fun Q k => .inl ⟨h1, by rw [h2]; exact k⟩⟩
  | none =>
    rw [q] at e
    unfold eqP at e
    cases q1 : toP d1 with
    | none => rw [q1] at e; cases e
    | some p1 =>
      cases q2 : toP d2 with
      | none => rw [q1, q2] at e; cases e
      | some p2 =>
        rw [q1, q2] at e
        simp only at e
        split at e
        · rename_i h
          cases e
          exact ⟨_, rb, fun Q k => .inr ⟨p1, p2, dp_mono w.sub _ _ (toP_dp _ _ _ r1 q1), dp_mono w.sub _ _ (toP_dp _ _ _ r2 q2), h.1, h.2, k⟩⟩
        · cases e
theorem od_ne : OpD K (fun x y H Q => rNe x y H Q ∨ rNeD K x y H Q) neO := opD_val fun d1 d2 d Ω g H x y e w r1 r2 => by
  unfold neO eqB at e
  cases q : eqS d1 d2 with
  | some b =>
    rw [q] at e
    cases e
    obtain ⟨h1, h2⟩ := eqS_ok r1 r2 q
    exact ⟨_, rb, fun Q k => .inl ⟨h1, by rw [h2]; exact k⟩⟩
  | none =>
    rw [q] at e
    unfold eqP at e
    cases q1 : toP d1 with
    | none => rw [q1] at e; cases e
    | some p1 =>
      cases q2 : toP d2 with
      | none => rw [q1, q2] at e; cases e
      | some p2 =>
        rw [q1, q2] at e
        simp only at e
        split at e
        · rename_i h
          cases e
          exact ⟨_, rb, fun Q k => .inr ⟨p1, p2, dp_mono w.sub _ _ (toP_dp _ _ _ r1 q1), dp_mono w.sub _ _ (toP_dp _ _ _ r2 q2), h.1, h.2, k⟩⟩
        · cases e
/-! ### is None -/
def isNon : D → Bool
  | .non => true
  | _ => false
def isNO : D → D → Option D := fun d1 d2 => match d2 with
  | .non => some (.bl (isNon d1))
  | _ => none
def notNO : D → D → Option D := fun d1 d2 => match d2 with
  | .non => some (.bl (!isNon d1))
  | _ => none
theorem isNon_ok {Ω : Om} {d : D} {v : V} (r : Rep K Ω d v) : decide (v = .non) = isNon d := by
  cases d with
  | non => rw [rep_non.mp r]; rfl
  | bl b => rw [rep_bl.mp r]; rfl
  | int b => rw [rep_int.mp r]; rfl
  | str b => rw [rep_str.mp r]; rfl
  | tup b => obtain ⟨_, _, rfl, _⟩ := rep_tup.mp r; rfl
  | lst b => obtain ⟨_, _, rfl, _⟩ := rep_lst.mp r; rfl
  | gen => obtain ⟨_, _, rfl⟩ := rep_gen.mp r; rfl
  | scr b => obtain ⟨_, rfl, _⟩ := rep_scr.mp r; rfl
theorem od_isN : OpD K (fun x y H Q => y = .non ∧ Q (.bl (decide (x = .non))) H) isNO := opD_val fun d1 d2 d Ω g H x y e w r1 r2 => by
  cases d2 <;> cases e
  exact ⟨_, rb, fun Q k => ⟨rep_non.mp r2, by rw [isNon_ok r1]; exact k⟩⟩
theorem od_notN : OpD K (fun x y H Q => y = .non ∧ Q (.bl (!decide (x = .non))) H) notNO := opD_val fun d1 d2 d Ω g H x y e w r1 r2 => by
  cases d2 <;> cases e
  exact ⟨_, rb, fun Q k => ⟨rep_non.mp r2, by rw [isNon_ok r1]; exact k⟩⟩
/-! ### in -/
def flatD : D → Bool
  | .non => true
  | .bl _ => true
  | .int _ => true
  | .str _ => true
  | _ => false
def toV : D → V
  | .bl b => .bl b
  | .int b => .int b
  | .str b => .str b
  | _ => .non
theorem flat_v {Ω : Om} {d : D} {v : V} (r : Rep K Ω d v) (h : flatD d = true) : v = toV d ∧ flatV v = true := by
  cases d with
  | non => rw [rep_non.mp r]; exact ⟨rfl, rfl⟩
  | bl b => rw [rep_bl.mp r]; exact ⟨rfl, rfl⟩
  | int b => rw [rep_int.mp r]; exact ⟨rfl, rfl⟩
  | str b => rw [rep_str.mp r]; exact ⟨rfl, rfl⟩
  | _ => cases h
theorem flats_v {Ω : Om} : ∀ {ds : List D} {vs : List V}, RepL K Ω ds vs → ds.all flatD = true → vs = ds.map toV ∧ vs.all flatV = true
  | [], vs, r, _ => by rw [repL_nil.mp r]; exact ⟨rfl, rfl⟩
  | d :: ds, vs, r, h => by
    obtain ⟨v, r', rfl, h2, h3⟩ := repL_cons.mp r
    simp only [List.all_cons, Bool.and_eq_true] at h
    obtain ⟨e1, f1⟩ := flat_v h2 h.1
    obtain ⟨e2, f2⟩ := flats_v h3 h.2
    rw [e1, e2]
    refine ⟨rfl, ?_⟩
    rw [List.all_cons, ← e1, f1, ← e2, f2]
    rfl
def inB (x : D) (ds : List D) : Bool := inV (toV x) (ds.map toV)
def inO (neg : Bool) : D → D → Option D := fun x y => match y with
  | .lst ds => if flatD x = true ∧ ds.all flatD = true then some (.bl (if neg then !inB x ds else inB x ds)) else none
  | .tup ds => if flatD x = true ∧ ds.all flatD = true then some (.bl (if neg then !inB x ds else inB x ds)) else none
  | _ => none
theorem od_in {neg : Bool} : OpD K (rIn K neg) (inO neg) := opD_val fun d1 d2 d Ω g H x y e w r1 r2 => by
  cases d2 <;> try cases e
  · rename_i ds
    have e : (if flatD d1 = true ∧ ds.all flatD = true then some (D.bl (if neg then !inB d1 ds else inB d1 ds)) else none) = some d := e
    split at e
    · rename_i h
      cases e
      obtain ⟨a, xs, rfl, h2, h3⟩ := rep_tup.mp r2
      obtain ⟨e1, f1⟩ := flat_v r1 h.1
      obtain ⟨e2, f2⟩ := flats_v h3 h.2
      refine ⟨_, rb, fun Q k => ⟨a, xs, rfl, .inr (Evl.ex_t w.sub h2), f1, f2, ?_⟩⟩
      unfold inB at k
      rw [e1, e2]
      exact k
    · cases e
  · rename_i ds
    have e : (if flatD d1 = true ∧ ds.all flatD = true then some (D.bl (if neg then !inB d1 ds else inB d1 ds)) else none) = some d := e
    split at e
    · rename_i h
      cases e
      obtain ⟨a, xs, rfl, h2, h3⟩ := rep_lst.mp r2
      obtain ⟨e1, f1⟩ := flat_v r1 h.1
      obtain ⟨e2, f2⟩ := flats_v h3 h.2
      refine ⟨_, rb, fun Q k => ⟨a, xs, rfl, .inl (SqL.of (w.sub _ _ h2)), f1, f2, ?_⟩⟩
      unfold inB at k
      rw [e1, e2]
      exact k
    · cases e
/-! ### items, slices -/
def ixO : D → D → Option D
  | .lst ds, .int i => atI ds i
  | .tup ds, .int i => atI ds i
  | .str z, .int i => if z.length ≤ sizeLine then (atI z.cps.toList i).map fun c => .str ⟨#[c]⟩ else none
  | _, _ => none
theorem od_ix : OpD K (rIx K) ixO := opD_val fun d1 d2 d Ω g H x y e w r1 r2 => by
  cases d1 <;> cases d2 <;> try cases e
  · rename_i z i
    have e : (if z.length ≤ sizeLine then (atI z.cps.toList i).map fun c => D.str ⟨#[c]⟩ else none) = some d := e
    split at e
    · rename_i h
      cases q : atI z.cps.toList i with
      | none => rw [q] at e; cases e
      | some c =>
        rw [q] at e
        cases e
        exact ⟨_, rs, fun Q k => .inr (.inr ⟨z, i, c, rep_str.mp r1, rep_int.mp r2, h, q, k⟩)⟩
    · cases e
  · rename_i ds i
    obtain ⟨a, xs, rfl, h2, h3⟩ := rep_tup.mp r1
    obtain ⟨v, q1, q2⟩ := atI_rep h3 e
    exact ⟨v, q2, fun Q k => .inr (.inl ⟨a, xs, i, v, rfl, rep_int.mp r2, Evl.ex_t w.sub h2, q1, k⟩)⟩
  · rename_i ds i
    obtain ⟨a, xs, rfl, h2, h3⟩ := rep_lst.mp r1
    obtain ⟨v, q1, q2⟩ := atI_rep h3 e
    exact ⟨v, q2, fun Q k => .inl ⟨a, xs, i, v, rfl, rep_int.mp r2, SqL.of (w.sub _ _ h2), q1, k⟩⟩
def cutD (xs : List D) (lo hi : Option Int) : List D := (xs.drop (HT.sIx xs.length 0 lo)).take (HT.sIx xs.length xs.length hi - HT.sIx xs.length 0 lo)
theorem RepL.cut {Ω : Om} {ds : List D} {vs : List V} (r : RepL K Ω ds vs) (lo hi : Option Int) : RepL K Ω (cutD ds lo hi) (cutV vs lo hi) := by
  unfold cutD cutV
  rw [r.length]
  exact (r.drop _).take _
abbrev DO := Rho → G → Res (Option Int)
def noO : DO := fun _ g => .ok none g
def soO (f : DE) : DO := fun ρ g => (f ρ g).bind fun d g1 => match d with
  | .int i => .ok (some i) g1
  | _ => .bad
def slO (d : D) (lo hi : Option Int) : Option D := match d with
  | .tup ds => some (.tup (cutD ds lo hi))
  | .lst ds => some (.lst (cutD ds lo hi))
  | .str z => if z.length ≤ sizeLine then some (.str (cutS z lo hi)) else none
  | _ => none
def slE (f : DE) (l h : DO) : DE := fun ρ g => (f ρ g).bind fun d g1 => (l ρ g1).bind fun lo g2 => (h ρ g2).bind fun hi g3 => match slO d lo hi with
  | some r => .ok r g3
  | none => .bad
theorem cutD_whole {ds : List D} {lo hi : Option Int} (h : HT.sIx ds.length 0 lo = 0 ∧ HT.sIx ds.length ds.length hi = ds.length) : cutD ds lo hi = ds := by
  unfold cutD
  rw [h.1, h.2]
  simp
theorem SlR.or {X : Cx} {r r' : V → Option Int → Option Int → Hp → VK → Prop} (a : SlR X r) (b : SlR X r') : SlR X (fun x lo hi H Q => r x lo hi H Q ∨ r' x lo hi H Q) := fun pins s σ H x v vl vu lo hi sl Q I rx hs pl pu h => by
  rcases h with h | h
  · exact a pins s σ H x v vl vu lo hi sl Q I rx hs pl pu h
  · exact b pins s σ H x v vl vu lo hi sl Q I rx hs pl pu h
def rSlX (K : PySem.W.Frag) : V → Option Int → Option Int → Hp → VK → Prop := fun x lo hi H Q => rSlA K x lo hi H Q ∨ (rSlL K x lo hi H Q ∨ rSlS x lo hi H Q)
theorem slO_ok {Ω : Om} {g : G} {H : Hp} {d r : D} {x : V} {lo hi : Option Int} {Q : VK} (e : slO d lo hi = some r) (w : Wf g Ω H) (rx : Rep K Ω d x) (k : ∀ v Ω' H', Tr Ω H Ω' H' → Wf g Ω' H' → Rep K Ω' r v → Q v H') : rSlX K x lo hi H Q := by
  cases d with
  | tup ds =>
    cases e
    obtain ⟨a, xs, rfl, h2, h3⟩ := rep_tup.mp rx
    refine .inl ⟨a, xs, rfl, Evl.ex_t w.sub h2, fun z => ?_, fun _ p hp => ?_⟩
    · rw [cutD_whole (by rw [h3.length]; exact z)] at k
      exact k _ Ω H (.refl _ _) w (rep_tup.mpr ⟨a, xs, rfl, h2, h3⟩)
    · exact k _ _ _ (.alloc w.sub hp) (w.alloc hp) (rep_tup.mpr ⟨p, _, rfl, .inl (.inl add_get), RepL.mono (Tr.alloc w.sub hp).gr _ _ (h3.cut lo hi)⟩)
  | lst ds =>
    cases e
    obtain ⟨a, xs, rfl, h2, h3⟩ := rep_lst.mp rx
    refine .inr (.inl ⟨a, xs, rfl, SqL.of (w.sub _ _ h2), fun p hp => ?_⟩)
    exact k _ _ _ (.alloc w.sub hp) (w.alloc hp) (rep_lst.mpr ⟨p, _, rfl, add_get, RepL.mono (Tr.alloc w.sub hp).gr _ _ (h3.cut lo hi)⟩)
  | str z =>
    have e : (if z.length ≤ sizeLine then some (D.str (cutS z lo hi)) else none) = some r := e
    split at e
    · rename_i h
      cases e
      exact .inr (.inr ⟨z, rep_str.mp rx, h, k _ Ω H (.refl _ _) w rs⟩)
    · cases e
  | _ => cases e
end
def wO (K : PySem.W.Frag) (B : Gd) (W : WX) (f : DO) : TO := fun σ H Q => ∃ ρ Ω g, At K B ρ Ω g σ H ∧ (match f ρ g with
  | .ok o g' => ∀ Ω' H', Tr Ω H Ω' H' → Wf g' Ω' H' → Q o H'
  | .err x g' => ∀ cls dd Ω' H', Tr Ω H Ω' H' → Wf g' Ω' H' → RepX K B.C Ω' H' x cls dd → W cls dd σ H'
  | .bad => False)
def PDO (X : Cx) (B : Gd) (W : WX) (e : Option Expr) (f : DO) : Prop := PO X e (wO X.K B W f)
theorem PO.weak {X : Cx} {e : Option Expr} {t t' : TO} (h : PO X e t) (k : ∀ σ H Q, t' σ H Q → t σ H Q) : PO X e t' := ⟨fun pins s σ H Q I q => h.run pins s σ H Q I (k σ H Q q)⟩
section
variable {X : Cx} {B : Gd} {W : WX} {e : Expr} {lo hi : Option Expr} {fe : DE} {fl fh : DO} {pos p2 : Pos}
theorem pdo_none : PDO X B W none noO := PO.weak po_none fun σ H Q q => by
  obtain ⟨ρ, Ω, g, A, p⟩ := q
  exact p Ω H (.refl _ _) A.wf
theorem pdo_some (h : PD X B W e fe) : PDO X B W (some e) (soO fe) := PO.weak (po_some h) fun σ H Q q => by
  obtain ⟨ρ, Ω, g, A, p⟩ := q
  unfold soO at p
  refine wE.run A (fun d1 g1 v1 Ω1 H1 e1 t1 w1 r1 => ?_) (fun x g1 cls dd Ω1 H1 e1 t1 w1 rx => by rw [e1] at p; exact p cls dd Ω1 H1 t1 w1 rx) (fun e1 => by rw [e1] at p; exact p.elim)
  rw [e1] at p
  cases d1 with
  | int i => exact ⟨i, rep_int.mp r1, p Ω1 H1 t1 w1⟩
  | _ => exact p.elim
theorem wO.run {K : PySem.W.Frag} {ρ : Rho} {Ω : Om} {g : G} {σ : St} {H : Hp} {f : DO} {Q : Option Int → Hp → Prop} (A : At K B ρ Ω g σ H)
    (k1 : ∀ d g' Ω' H', f ρ g = .ok d g' → Tr Ω H Ω' H' → Wf g' Ω' H' → Q d H')
    (k2 : ∀ x g' cls dd Ω' H', f ρ g = .err x g' → Tr Ω H Ω' H' → Wf g' Ω' H' → RepX K B.C Ω' H' x cls dd → W cls dd σ H') (k3 : f ρ g ≠ .bad) : wO K B W f σ H Q := by
  refine ⟨ρ, Ω, g, A, ?_⟩
  cases h : f ρ g with
  | ok d g' => exact fun Ω' H' t w => k1 d g' Ω' H' h t w
  | err x g' => exact fun cls dd Ω' H' t w r => k2 x g' cls dd Ω' H' h t w r
  | bad => exact k3 h
theorem pd_slice (he : PD X B W e fe) (hl : PDO X B W lo fl) (hh : PDO X B W hi fh) : PD X B W (.Subscript e (.Slice lo hi none p2) pos) (slE fe fl fh) :=
  PE.weak (pe_slice (r := rSlX X.K) (SlR.or sl_tupA (SlR.or sl_list sl_str)) he hl hh) fun σ H Q q => by
  obtain ⟨ρ, Ω, g, A, p⟩ := q
  unfold slE at p
  refine wE.run A (fun d1 g1 v1 Ω1 H1 e1 t1 w1 r1 => ?_) (fun x g1 cls dd Ω1 H1 e1 t1 w1 rx => by rw [e1] at p; exact p cls dd Ω1 H1 t1 w1 rx) (fun e1 => by rw [e1] at p; exact p.elim)
  rw [e1] at p
  refine wO.run (A.go t1 w1) (fun d2 g2 Ω2 H2 e2 t2 w2 => ?_) (fun x g2 cls dd Ω2 H2 e2 t2 w2 rx => by simp only [Res.bind, e2] at p; exact p cls dd Ω2 H2 (t1.trans t2) w2 rx) (fun e2 => by simp only [Res.bind, e2] at p; exact p.elim)
  refine wO.run ((A.go t1 w1).go t2 w2) (fun d3 g3 Ω3 H3 e3 t3 w3 => ?_) (fun x g3 cls dd Ω3 H3 e3 t3 w3 rx => by simp only [Res.bind, e2, e3] at p; exact p cls dd Ω3 H3 ((t1.trans t2).trans t3) w3 rx) (fun e3 => by simp only [Res.bind, e2, e3] at p; exact p.elim)
  simp only [Res.bind, e2, e3] at p
  cases e4 : slO d1 d2 d3 with
  | none => rw [e4] at p; exact p.elim
  | some r =>
    rw [e4] at p
    exact slO_ok e4 w3 (Rep.mono (t2.trans t3).gr _ _ r1) fun v Ω' H' t w rr => p v Ω' H' (((t1.trans t2).trans t3).trans t) w rr
end
/-! ### built-in functions -/
section
variable {K : PySem.W.Frag} {X : Cx}
def lenO : List D → Option D
  | [.lst ds] => some (.int ds.length)
  | [.tup ds] => some (.int ds.length)
  | [.str z] => if z.length ≤ sizeLine then some (.int z.length) else none
  | _ => none
theorem one_of {Ω : Om} {d : D} {vs : List V} (r : RepL K Ω [d] vs) : ∃ v, vs = [v] ∧ Rep K Ω d v := by
  obtain ⟨v, r', rfl, h1, h2⟩ := repL_cons.mp r
  obtain rfl := repL_nil.mp h2
  exact ⟨v, rfl, h1⟩
theorem two_of {Ω : Om} {d e : D} {vs : List V} (r : RepL K Ω [d, e] vs) : ∃ v u, vs = [v, u] ∧ Rep K Ω d v ∧ Rep K Ω e u := by
  obtain ⟨v, r', rfl, h1, h2⟩ := repL_cons.mp r
  obtain ⟨u, rfl, h3⟩ := one_of h2
  exact ⟨v, u, rfl, h1, h3⟩
theorem cl_len : ClD K (fun xs H Q => ∃ x n, xs = [x] ∧ LenV K x H n ∧ Q (.int n) H) lenO := clD_val fun ds d Ω g H xs e w r => by
  unfold lenO at e
  split at e
  · cases e
    obtain ⟨v, rfl, h1⟩ := one_of r
    obtain ⟨a, ys, rfl, h2, h3⟩ := rep_lst.mp h1
    exact ⟨_, ri, fun Q k => ⟨.ref a, ys.length, rfl, .inl ⟨ys, SqL.of (w.sub _ _ h2), rfl⟩, by rw [← h3.length]; exact k⟩⟩
  · cases e
    obtain ⟨v, rfl, h1⟩ := one_of r
    obtain ⟨a, ys, rfl, h2, h3⟩ := rep_tup.mp h1
    exact ⟨_, ri, fun Q k => ⟨.ref a, ys.length, rfl, .inr ⟨ys, Evl.ex_t w.sub h2, rfl⟩, by rw [← h3.length]; exact k⟩⟩
  · split at e
    · rename_i h
      cases e
      obtain ⟨v, rfl, h1⟩ := one_of r
      exact ⟨_, ri, fun Q k => ⟨v, _, rfl, by rw [rep_str.mp h1]; exact ⟨h, rfl⟩, k⟩⟩
    · cases e
  · cases e
def max2O : List D → Option D
  | [.int i, .int j] => some (.int (if j > i then j else i))
  | _ => none
def min2O : List D → Option D
  | [.int i, .int j] => some (.int (if j < i then j else i))
  | _ => none
theorem cl_max2 : ClD K (fun xs H Q => ∃ i j, xs = [.int i, .int j] ∧ Q (.int (if j > i then j else i)) H) max2O := clD_val fun ds d Ω g H xs e w r => by
  unfold max2O at e
  split at e
  · rename_i i j
    cases e
    obtain ⟨v, u, rfl, h1, h2⟩ := two_of r
    rw [rep_int.mp h1, rep_int.mp h2]
    exact ⟨_, ri, fun Q k => ⟨i, j, rfl, k⟩⟩
  · cases e
theorem cl_min2 : ClD K (fun xs H Q => ∃ i j, xs = [.int i, .int j] ∧ Q (.int (if j < i then j else i)) H) min2O := clD_val fun ds d Ω g H xs e w r => by
  unfold min2O at e
  split at e
  · rename_i i j
    cases e
    obtain ⟨v, u, rfl, h1, h2⟩ := two_of r
    rw [rep_int.mp h1, rep_int.mp h2]
    exact ⟨_, ri, fun Q k => ⟨i, j, rfl, k⟩⟩
  · cases e
def intO : List D → Option D
  | [.int i] => some (.int i)
  | [.bl b] => some (.int (if b then 1 else 0))
  | _ => none
theorem cl_int : ClD K (fun xs H Q => (∃ i, xs = [.int i] ∧ Q (.int i) H) ∨ ∃ k, xs = [.bl k] ∧ Q (.int (if k then 1 else 0)) H) intO := clD_val fun ds d Ω g H xs e w r => by
  unfold intO at e
  split at e
  · cases e
    obtain ⟨v, rfl, h1⟩ := one_of r
    exact ⟨_, ri, fun Q k => .inl ⟨_, by rw [rep_int.mp h1], k⟩⟩
  · cases e
    obtain ⟨v, rfl, h1⟩ := one_of r
    exact ⟨_, ri, fun Q k => .inr ⟨_, by rw [rep_bl.mp h1], k⟩⟩
  · cases e
def tupleO : List D → Option D
  | [.lst ds] => some (.tup ds)
  | [.tup ds] => some (.tup ds)
  | _ => none
theorem cl_tuple : ClD K (fun xs H Q => ∃ p ys, xs = [.ref p] ∧ ((SqL K H p ys ∧ ∀ l, H l = none → Q (.ref l) (upd H l (.tup ys))) ∨ (SqT K H p ys ∧ Q (.ref p) H))) tupleO := fun ds d Ω g H xs Q e w r k => by
  unfold tupleO at e
  split at e
  · cases e
    obtain ⟨v, rfl, h1⟩ := one_of r
    obtain ⟨a, ys, rfl, h2, h3⟩ := rep_lst.mp h1
    refine ⟨a, ys, rfl, .inl ⟨SqL.of (w.sub _ _ h2), fun p hp => k _ _ _ (.alloc w.sub hp) (w.alloc hp) (rep_tup.mpr ⟨p, _, rfl, .inl (.inl add_get), RepL.mono (Tr.alloc w.sub hp).gr _ _ h3⟩)⟩⟩
  · cases e
    obtain ⟨v, rfl, h1⟩ := one_of r
    obtain ⟨a, ys, rfl, h2, h3⟩ := rep_tup.mp h1
    exact ⟨a, ys, rfl, .inr ⟨Evl.ex_t w.sub h2, k _ Ω H (.refl _ _) w h1⟩⟩
  · cases e
def listO : List D → Option D
  | [.lst ds] => some (.lst ds)
  | [.tup ds] => some (.lst ds)
  | _ => none
theorem cl_list : ClD K (fun xs H Q => ∃ p ys, xs = [.ref p] ∧ (SqL K H p ys ∨ SqT K H p ys) ∧ ∀ l, H l = none → Q (.ref l) (upd H l (.lst ys))) listO := fun ds d Ω g H xs Q e w r k => by
  unfold listO at e
  split at e
  · cases e
    obtain ⟨v, rfl, h1⟩ := one_of r
    obtain ⟨a, ys, rfl, h2, h3⟩ := rep_lst.mp h1
    refine ⟨a, ys, rfl, .inl (SqL.of (w.sub _ _ h2)), fun p hp => k _ _ _ (.alloc w.sub hp) (w.alloc hp) (rep_lst.mpr ⟨p, _, rfl, add_get, RepL.mono (Tr.alloc w.sub hp).gr _ _ h3⟩)⟩
  · cases e
    obtain ⟨v, rfl, h1⟩ := one_of r
    obtain ⟨a, ys, rfl, h2, h3⟩ := rep_tup.mp h1
    refine ⟨a, ys, rfl, .inr (Evl.ex_t w.sub h2), fun p hp => k _ _ _ (.alloc w.sub hp) (w.alloc hp) (rep_lst.mpr ⟨p, _, rfl, add_get, RepL.mono (Tr.alloc w.sub hp).gr _ _ h3⟩)⟩
  · cases e
/-- a list of ints -/
def ints? : List D → Option (List Int)
  | [] => some []
  | .int i :: ds => (ints? ds).map fun r => i :: r
  | _ :: _ => none
theorem ints?_ok : ∀ {ds : List D} {ns : List Int}, ints? ds = some ns → ds = ns.map D.int
  | [], ns, h => by cases h; rfl
  | .int i :: ds, ns, h => by
    unfold ints? at h
    cases q : ints? ds with
    | none => rw [q] at h; cases h
    | some r =>
      rw [q] at h
      cases h
      rw [ints?_ok q]
      rfl
  | .non :: _, _, h => by cases h
  | .bl _ :: _, _, h => by cases h
  | .str _ :: _, _, h => by cases h
  | .tup _ :: _, _, h => by cases h
  | .lst _ :: _, _, h => by cases h
  | .gen :: _, _, h => by cases h
  | .scr _ :: _, _, h => by cases h
theorem ints?_map (ns : List Int) : ints? (ns.map D.int) = some ns := by
  induction ns with
  | nil => rfl
  | cons n ns ih => show (ints? (ns.map D.int)).map _ = _; rw [ih]; rfl
def sumO : List D → Option D
  | [.lst ds] => (ints? ds).map fun ns => .int ns.sum
  | _ => none
theorem cl_sum : ClD K (rSum K) sumO := clD_val fun ds d Ω g H xs e w r => by
  unfold sumO at e
  split at e
  · rename_i es
    cases q : ints? es with
    | none => rw [q] at e; cases e
    | some ns =>
      rw [q] at e
      cases e
      obtain ⟨v, rfl, h1⟩ := one_of r
      obtain ⟨a, ys, rfl, h2, h3⟩ := rep_lst.mp h1
      rw [ints?_ok q] at h3
      have := h3.ints_of
      subst this
      exact ⟨_, ri, fun Q k => ⟨a, ns, rfl, SqL.of (w.sub _ _ h2), k⟩⟩
  · cases e
def maxI : List Int → Int
  | [] => 0
  | [a] => a
  | a :: b :: r => if maxI (b :: r) > a then maxI (b :: r) else a
def minI : List Int → Int
  | [] => 0
  | [a] => a
  | a :: b :: r => if minI (b :: r) < a then minI (b :: r) else a
theorem maxI_mem : ∀ (l : List Int), l ≠ [] → maxI l ∈ l ∧ ∀ x ∈ l, x ≤ maxI l
  | [], h => absurd rfl h
  | [a], _ => ⟨List.mem_cons_self, fun x hx => by simp at hx; subst hx; exact Int.le_refl _⟩
  | a :: b :: r, _ => by
    obtain ⟨h1, h2⟩ := maxI_mem (b :: r) (by simp)
    unfold maxI
    split
    · exact ⟨List.mem_cons_of_mem _ h1, fun x hx => by
        rcases List.mem_cons.mp hx with rfl | hx
        · omega
        · exact h2 x hx⟩
    · exact ⟨List.mem_cons_self, fun x hx => by
        rcases List.mem_cons.mp hx with rfl | hx
        · exact Int.le_refl _
        · have := h2 x hx; omega⟩
theorem minI_mem : ∀ (l : List Int), l ≠ [] → minI l ∈ l ∧ ∀ x ∈ l, minI l ≤ x
  | [], h => absurd rfl h
  | [a], _ => ⟨List.mem_cons_self, fun x hx => by simp at hx; subst hx; exact Int.le_refl _⟩
  | a :: b :: r, _ => by
    obtain ⟨h1, h2⟩ := minI_mem (b :: r) (by simp)
    unfold minI
    split
    · exact ⟨List.mem_cons_of_mem _ h1, fun x hx => by
        rcases List.mem_cons.mp hx with rfl | hx
        · omega
        · exact h2 x hx⟩
    · exact ⟨List.mem_cons_self, fun x hx => by
        rcases List.mem_cons.mp hx with rfl | hx
        · exact Int.le_refl _
        · have := h2 x hx; omega⟩
theorem maxI_eq {l : List Int} {m : Int} (h : m ∈ l) (hm : ∀ y, y ∈ l → y ≤ m) : maxI l = m := by
  obtain ⟨h1, h2⟩ := maxI_mem l (by intro z; subst z; cases h)
  have := h2 m h
  have := hm _ h1
  omega
theorem minI_eq {l : List Int} {m : Int} (h : m ∈ l) (hm : ∀ y, y ∈ l → m ≤ y) : minI l = m := by
  obtain ⟨h1, h2⟩ := minI_mem l (by intro z; subst z; cases h)
  have := h2 m h
  have := hm _ h1
  omega
def maxLO : List D → Option D
  | [.lst ds] => if ds.isEmpty = true then none else (ints? ds).map fun ns => .int (maxI ns)
  | _ => none
def minLO : List D → Option D
  | [.lst ds] => if ds.isEmpty = true then none else (ints? ds).map fun ns => .int (minI ns)
  | _ => none
theorem cl_maxL : ClD K (rMax K) maxLO := clD_val fun ds d Ω g H xs e w r => by
  unfold maxLO at e
  split at e
  · rename_i es
    split at e
    · cases e
    · rename_i hne
      cases q : ints? es with
      | none => rw [q] at e; cases e
      | some ns =>
        rw [q] at e
        cases e
        obtain ⟨v, rfl, h1⟩ := one_of r
        obtain ⟨a, ys, rfl, h2, h3⟩ := rep_lst.mp h1
        have he := ints?_ok q
        rw [he] at h3
        have := h3.ints_of
        subst this
        refine ⟨_, ri, fun Q k => ⟨a, ns, rfl, SqL.of (w.sub _ _ h2), ?_, fun m hm hle => by rw [← maxI_eq hm hle]; exact k⟩⟩
        cases ns with
        | nil => rw [he] at hne; exact absurd rfl hne
        | cons n ns => simp
  · cases e
theorem cl_minL : ClD K (rMin K) minLO := clD_val fun ds d Ω g H xs e w r => by
  unfold minLO at e
  split at e
  · rename_i es
    split at e
    · cases e
    · rename_i hne
      cases q : ints? es with
      | none => rw [q] at e; cases e
      | some ns =>
        rw [q] at e
        cases e
        obtain ⟨v, rfl, h1⟩ := one_of r
        obtain ⟨a, ys, rfl, h2, h3⟩ := rep_lst.mp h1
        have he := ints?_ok q
        rw [he] at h3
        have := h3.ints_of
        subst this
        refine ⟨_, ri, fun Q k => ⟨a, ns, rfl, SqL.of (w.sub _ _ h2), ?_, fun m hm hle => by rw [← minI_eq hm hle]; exact k⟩⟩
        cases ns with
        | nil => rw [he] at hne; exact absurd rfl hne
        | cons n ns => simp
  · cases e
def absO : List D → Option D
  | [.int i] => some (.int (if i < 0 then -i else i))
  | _ => none
theorem cl_abs : ClD K (fun xs H Q => ∃ i, xs = [.int i] ∧ Q (.int (if i < 0 then -i else i)) H) absO := clD_val fun ds d Ω g H xs e w r => by
  unfold absO at e
  split at e
  · cases e
    obtain ⟨v, rfl, h1⟩ := one_of r
    exact ⟨_, ri, fun Q k => ⟨_, by rw [rep_int.mp h1], k⟩⟩
  · cases e
def negO : D → Option D
  | .int i => some (.int (-i))
  | _ => none
theorem ud_neg : UnD K (rU fun i => .int (-i)) negO := fun d1 d Ω g H x Q e w r k => by
  cases d1 <;> cases e
  exact ⟨_, rep_int.mp r, k _ Ω H (.refl _ _) w ri⟩
/-! ### isinstance -/
def tyN : D → String
  | .non => "NoneType"
  | .bl _ => "bool"
  | .int _ => "int"
  | .str _ => "str"
  | .tup _ => "tuple"
  | _ => "list"
/-- is a value of the built-in type a also one of b -/
def subTy (a b : String) : Bool := a == b || (a == "bool" && b == "int")
def okTy (b : String) : Bool := b == "int" || b == "bool" || b == "str" || b == "tuple" || b == "list"
def isiE (Ts : List String) (f : DE) : DE := fun ρ g => (f ρ g).bind fun d g1 => match d with
  | .gen => .bad
  | d => .ok (.bl (Ts.any fun t => subTy (tyN d) t)) g1
theorem tyX_of {Ω : Om} {g : G} {H : Hp} {d : D} {v : V} (w : Wf g Ω H) (r : Rep K Ω d v) (h : ∀ z, d = z → match z with | .gen => False | _ => True) : TyX K H v (.type (tyN d)) := by
  cases d with
  | non => rw [rep_non.mp r]; exact .base .non
  | bl b => rw [rep_bl.mp r]; exact .base (.bl b)
  | int b => rw [rep_int.mp r]; exact .base (.int b)
  | str b => rw [rep_str.mp r]; exact .base (.str b)
  | tup ds =>
    obtain ⟨a, xs, rfl, h2, h3⟩ := rep_tup.mp r
    rcases Evl.ex_t w.sub h2 with (q | ⟨o, q⟩) | ⟨o, its, n, q1, q2, _⟩
    · exact .base (.tup q)
    · exact .fTuple q
    · exact .kTuple q1 q2
  | lst ds =>
    obtain ⟨a, xs, rfl, h2, h3⟩ := rep_lst.mp r
    exact .base (.lst (w.sub _ _ h2))
  | scr ns =>
    obtain ⟨a, rfl, h2⟩ := rep_scr.mp r
    rcases Evl.ex_l w.sub h2 with (q | ⟨o, q⟩) | ⟨o, its, n, q1, q2, _⟩
    · exact .base (.lst q)
    · exact .base (.frz q)
    · exact .kList q1 q2
  | gen => exact (h _ rfl).elim
theorem kit_sub {d : D} {b : String} (h : okTy b = true) : PySem.W.kitOne K (.type (tyN d)) (.type b) = some (subTy (tyN d) b) := by
  have hb : b = "int" ∨ b = "bool" ∨ b = "str" ∨ b = "tuple" ∨ b = "list" := by
    unfold okTy at h
    simp only [Bool.or_eq_true, beq_iff_eq] at h
    rcases h with (((h | h) | h) | h) | h
    · exact .inl h
    · exact .inr (.inl h)
    · exact .inr (.inr (.inl h))
    · exact .inr (.inr (.inr (.inl h)))
    · exact .inr (.inr (.inr (.inr h)))
  rcases hb with rfl | rfl | rfl | rfl | rfl <;> cases d <;> (simp only [tyN]; exact kit_ty (by decide +kernel))
end
end TS
namespace TS
open PySem L2
open Evl (Ex)

/-! ### the operators as the text has them -/
def addO := alt2 addI (alt2 addS (alt2 addL addT))
def mulO := alt2 mulI (alt2 TS.repL TS.repT)
def fdivO := alt2 fdivI fdivW
abbrev rAddO (K : PySem.W.Frag) : R2 := fun x y H Q => (rI0 fun i j => .int (i + j)) x y H Q ∨ ((∃ i j, x = .str i ∧ y = .str j ∧ i.length + j.length ≤ sizeLine ∧ Q (.str (i ++ j)) H) ∨ (rCat x y H Q ∨ rCatA K x y H Q))
theorem ho_add {X : Cx} : OpR X (binaryOp .Add) (rAddO X.K) := OpR.or op_add (OpR.or op_add_str (OpR.or op_cat op_catA))
theorem od_addO {K : PySem.W.Frag} : OpD K (rAddO K) addO := OpD.or od_add (OpD.or od_addS (OpD.or od_addL od_addT))
abbrev rMulO (K : PySem.W.Frag) : R2 := fun x y H Q => (rI CMul fun i j => .int (i * j)) x y H Q ∨ (rRep x y H Q ∨ rRepT K x y H Q)
theorem ho_mul {X : Cx} : OpR X (binaryOp .Mult) (rMulO X.K) := OpR.or op_mul (OpR.or op_rep op_repT)
theorem od_mulO {K : PySem.W.Frag} : OpD K (rMulO K) mulO := OpD.or od_mul (OpD.or od_repL od_repT)
abbrev rFdivO : R2 := fun x y H Q => (rI CDivN fun i j => .int (i.fdiv j)) x y H Q ∨ (rI CDivW fun i j => .int (i / j)) x y H Q
theorem ho_fdiv {X : Cx} : OpR X (binaryOp .FloorDiv) rFdivO := OpR.or op_fdivN op_fdivW
theorem od_fdivO {K : PySem.W.Frag} : OpD K rFdivO fdivO := OpD.or od_fdiv od_fdivW
theorem ho_eq {X : Cx} (hu : X.A.units + 64 < cLine) : OpR X (compareOp .Eq) (fun x y H Q => rEq x y H Q ∨ rEqD X.K x y H Q) := OpR.or op_eq (op_eqD hu)
theorem ho_ne {X : Cx} (hu : X.A.units + 64 < cLine) : OpR X (compareOp .NotEq) (fun x y H Q => rNe x y H Q ∨ rNeD X.K x y H Q) := OpR.or op_ne (op_neD hu)
section
variable {Z : Wd} {N : List Str} {sc : Scope} {fn : Str → Bool} {k : Nat} {X : Cx} {B : Gd} {W : WX} {a b e : Expr} {es : List Expr} {fa fb : DE} {fr : DA} {pos p q : Pos}
theorem e_add (ha : PD X B W a fa) (hb : PD X B W b fb) : PD X B W (.BinOp a .Add b pos) (opE addO fa fb) := pd_bin ho_add od_addO ha hb
theorem e_sub (ha : PD X B W a fa) (hb : PD X B W b fb) : PD X B W (.BinOp a .Sub b pos) (opE subI fa fb) := pd_bin op_sub od_sub ha hb
theorem e_mul (ha : PD X B W a fa) (hb : PD X B W b fb) : PD X B W (.BinOp a .Mult b pos) (opE mulO fa fb) := pd_bin ho_mul od_mulO ha hb
theorem e_fdiv (ha : PD X B W a fa) (hb : PD X B W b fb) : PD X B W (.BinOp a .FloorDiv b pos) (opE fdivO fa fb) := pd_bin ho_fdiv od_fdivO ha hb
theorem e_mod (ha : PD X B W a fa) (hb : PD X B W b fb) : PD X B W (.BinOp a .Mod b pos) (opE modI fa fb) := pd_bin op_modN od_mod ha hb
theorem e_pow (ha : PD X B W a fa) (hb : PD X B W b fb) : PD X B W (.BinOp a .Pow b pos) (opE powI fa fb) := pd_bin op_pow od_pow ha hb
theorem e_neg (ha : PD X B W a fa) : PD X B W (.UnaryOp .USub a pos) (unE negO fa) := pd_un un_neg ud_neg ha
theorem e_lt (ha : PD X B W a fa) (hb : PD X B W b fb) : PD X B W (.Compare a [.Lt] [b] pos) (opE ltI fa fb) := pd_cmp op_lt od_lt ha hb (nomark _)
theorem e_le (ha : PD X B W a fa) (hb : PD X B W b fb) : PD X B W (.Compare a [.LtE] [b] pos) (opE leI fa fb) := pd_cmp op_le od_le ha hb (nomark _)
theorem e_gt (ha : PD X B W a fa) (hb : PD X B W b fb) : PD X B W (.Compare a [.Gt] [b] pos) (opE gtI fa fb) := pd_cmp op_gt od_gt ha hb (nomark _)
theorem e_ge (ha : PD X B W a fa) (hb : PD X B W b fb) : PD X B W (.Compare a [.GtE] [b] pos) (opE geI fa fb) := pd_cmp op_ge od_ge ha hb (nomark _)
theorem t_lt (ha : PD X B W a fa) (hb : PD X B W b fb) : PDT X B W (.Compare a [.Lt] [b] pos) (toT (opE ltI fa fb)) := pdt_cmp op_lt od_lt ha hb (nomark _)
theorem t_le (ha : PD X B W a fa) (hb : PD X B W b fb) : PDT X B W (.Compare a [.LtE] [b] pos) (toT (opE leI fa fb)) := pdt_cmp op_le od_le ha hb (nomark _)
theorem t_gt (ha : PD X B W a fa) (hb : PD X B W b fb) : PDT X B W (.Compare a [.Gt] [b] pos) (toT (opE gtI fa fb)) := pdt_cmp op_gt od_gt ha hb (nomark _)
theorem t_ge (ha : PD X B W a fa) (hb : PD X B W b fb) : PDT X B W (.Compare a [.GtE] [b] pos) (toT (opE geI fa fb)) := pdt_cmp op_ge od_ge ha hb (nomark _)
theorem Cz.eq (c : Cz Z N sc fn k X B W) (ha : PD X B W a fa) (hb : PD X B W b fb) : PD X B W (.Compare a [.Eq] [b] pos) (opE eqO fa fb) := pd_cmp (ho_eq c.room.units) od_eq ha hb (nomark _)
theorem Cz.ne (c : Cz Z N sc fn k X B W) (ha : PD X B W a fa) (hb : PD X B W b fb) : PD X B W (.Compare a [.NotEq] [b] pos) (opE neO fa fb) := pd_cmp (ho_ne c.room.units) od_ne ha hb (nomark _)
theorem Cz.teq (c : Cz Z N sc fn k X B W) (ha : PD X B W a fa) (hb : PD X B W b fb) : PDT X B W (.Compare a [.Eq] [b] pos) (toT (opE eqO fa fb)) := pdt_cmp (ho_eq c.room.units) od_eq ha hb (nomark _)
theorem Cz.tne (c : Cz Z N sc fn k X B W) (ha : PD X B W a fa) (hb : PD X B W b fb) : PDT X B W (.Compare a [.NotEq] [b] pos) (toT (opE neO fa fb)) := pdt_cmp (ho_ne c.room.units) od_ne ha hb (nomark _)
theorem e_isN (ha : PD X B W a fa) (hb : PD X B W b fb) : PD X B W (.Compare a [.Is] [b] pos) (opE isNO fa fb) := pd_cmp op_isN od_isN ha hb (nomark _)
theorem e_notN (ha : PD X B W a fa) (hb : PD X B W b fb) : PD X B W (.Compare a [.IsNot] [b] pos) (opE notNO fa fb) := pd_cmp op_notN od_notN ha hb (nomark _)
theorem t_isN (ha : PD X B W a fa) (hb : PD X B W b fb) : PDT X B W (.Compare a [.Is] [b] pos) (toT (opE isNO fa fb)) := pdt_cmp op_isN od_isN ha hb (nomark _)
theorem t_notN (ha : PD X B W a fa) (hb : PD X B W b fb) : PDT X B W (.Compare a [.IsNot] [b] pos) (toT (opE notNO fa fb)) := pdt_cmp op_notN od_notN ha hb (nomark _)
theorem e_in (ha : PD X B W a fa) (hb : PD X B W b fb) (hm : behindInMarks .In b = false := by rfl) : PD X B W (.Compare a [.In] [b] pos) (opE (inO false) fa fb) := pd_cmp op_in_seq od_in ha hb hm
theorem e_nin (ha : PD X B W a fa) (hb : PD X B W b fb) (hm : behindInMarks .NotIn b = false := by rfl) : PD X B W (.Compare a [.NotIn] [b] pos) (opE (inO true) fa fb) := pd_cmp op_notIn_seq od_in ha hb hm
theorem t_in (ha : PD X B W a fa) (hb : PD X B W b fb) (hm : behindInMarks .In b = false := by rfl) : PDT X B W (.Compare a [.In] [b] pos) (toT (opE (inO false) fa fb)) := pdt_cmp op_in_seq od_in ha hb hm
theorem t_nin (ha : PD X B W a fa) (hb : PD X B W b fb) (hm : behindInMarks .NotIn b = false := by rfl) : PDT X B W (.Compare a [.NotIn] [b] pos) (toT (opE (inO true) fa fb)) := pdt_cmp op_notIn_seq od_in ha hb hm
theorem e_ix (ha : PD X B W a fa) (hb : PD X B W b fb) (hs : PlainIx b := by intro _ _; rfl) : PD X B W (.Subscript a b pos) (opE ixO fa fb) := pd_ix ix_seq od_ix ha hb hs
/-- a built-in name that the module does not bind -/
theorem Cz.nb (c : Cz Z N sc fn k X B W) {x : Str} (h : Z.mg x = none) : X.mg x = none := by rw [c.emg]; exact h
theorem Cz.blt (c : Cz Z N sc fn k X B W) {r : List V → Hp → VK → Prop} {o : List D → Option D} {id : String} {x : Str} (hr : ClD X.K r o) (hc : CallR X (.builtin id) r) (hm : Z.mg x = none) (hv : bootBuiltins x = some (.builtin id)) (hg : glB sc x = true) (ha : PDA X B W (e :: es) fr)
    (hn : x ≠ "__name__" := by decide) (he : starEach (e :: es) X.env = (false, eval e X.env) :: starEach es X.env := by rfl) (hpl : (backTo pos (starEach es X.env)).any (·.1) = false := by rfl) : PD X B W (.Call (.Name x p) (e :: es) [] pos) (clE o fr) :=
  pd_blt hr hc (c.gl hg).1 (c.nb hm) hv ha hn (c.gl hg).2 he hpl
theorem Cz.bty (c : Cz Z N sc fn k X B W) {r : List V → Hp → VK → Prop} {o : List D → Option D} {T : String} {x : Str} (hr : ClD X.K r o) (hc : CallR X (.type T) r) (hm : Z.mg x = none) (hv : bootBuiltins x = some (.type T)) (hg : glB sc x = true) (ha : PDA X B W (e :: es) fr)
    (hn : x ≠ "__name__" := by decide) (he : starEach (e :: es) X.env = (false, eval e X.env) :: starEach es X.env := by rfl) (hpl : (backTo pos (starEach es X.env)).any (·.1) = false := by rfl) : PD X B W (.Call (.Name x p) (e :: es) [] pos) (clE o fr) :=
  pd_bty hr hc (c.gl hg).1 (c.nb hm) hv ha hn (c.gl hg).2 he hpl
theorem Cz.len (c : Cz Z N sc fn k X B W) (hm : Z.mg "len" = none) (hg : glB sc "len" = true) (ha : PDA X B W [e] fr) (he : starEach [e] X.env = (false, eval e X.env) :: starEach [] X.env := by rfl) : PD X B W (.Call (.Name "len" p) [e] [] pos) (clE lenO fr) :=
  c.blt cl_len call_len hm PySem.boot_len hg ha (by decide) he
theorem Cz.max2 (c : Cz Z N sc fn k X B W) (hm : Z.mg "max" = none) (hg : glB sc "max" = true) (ha : PDA X B W [a, b] fr) (he : starEach [a, b] X.env = (false, eval a X.env) :: starEach [b] X.env := by rfl) (hpl : (backTo pos (starEach [b] X.env)).any (·.1) = false := by rfl) : PD X B W (.Call (.Name "max" p) [a, b] [] pos) (clE max2O fr) :=
  c.blt cl_max2 (call_max2 c.calm) hm PyProof.Rows.boot_max hg ha (by decide) he hpl
theorem Cz.min2 (c : Cz Z N sc fn k X B W) (hm : Z.mg "min" = none) (hg : glB sc "min" = true) (ha : PDA X B W [a, b] fr) (he : starEach [a, b] X.env = (false, eval a X.env) :: starEach [b] X.env := by rfl) (hpl : (backTo pos (starEach [b] X.env)).any (·.1) = false := by rfl) : PD X B W (.Call (.Name "min" p) [a, b] [] pos) (clE min2O fr) :=
  c.blt cl_min2 (call_min2 c.calm) hm PyProof.Rows.boot_min hg ha (by decide) he hpl
theorem Cz.maxL (c : Cz Z N sc fn k X B W) (hm : Z.mg "max" = none) (hg : glB sc "max" = true) (ha : PDA X B W [e] fr) (he : starEach [e] X.env = (false, eval e X.env) :: starEach [] X.env := by rfl) : PD X B W (.Call (.Name "max" p) [e] [] pos) (clE maxLO fr) :=
  c.blt cl_maxL (cr_max c.calm) hm PyProof.Rows.boot_max hg ha (by decide) he
theorem Cz.minL (c : Cz Z N sc fn k X B W) (hm : Z.mg "min" = none) (hg : glB sc "min" = true) (ha : PDA X B W [e] fr) (he : starEach [e] X.env = (false, eval e X.env) :: starEach [] X.env := by rfl) : PD X B W (.Call (.Name "min" p) [e] [] pos) (clE minLO fr) :=
  c.blt cl_minL (cr_min c.calm) hm PyProof.Rows.boot_min hg ha (by decide) he
theorem Cz.sum (c : Cz Z N sc fn k X B W) (hm : Z.mg "sum" = none) (hg : glB sc "sum" = true) (ha : PDA X B W [e] fr) (he : starEach [e] X.env = (false, eval e X.env) :: starEach [] X.env := by rfl) : PD X B W (.Call (.Name "sum" p) [e] [] pos) (clE sumO fr) :=
  c.blt cl_sum (cr_sum c.calm) hm PyProof.Rows.boot_sum hg ha (by decide) he
theorem Cz.abs (c : Cz Z N sc fn k X B W) (hm : Z.mg "abs" = none) (hg : glB sc "abs" = true) (ha : PDA X B W [e] fr) (he : starEach [e] X.env = (false, eval e X.env) :: starEach [] X.env := by rfl) : PD X B W (.Call (.Name "abs" p) [e] [] pos) (clE absO fr) :=
  c.blt cl_abs call_abs hm PyProof.Rows.boot_abs hg ha (by decide) he
theorem Cz.int (c : Cz Z N sc fn k X B W) (hm : Z.mg "int" = none) (hg : glB sc "int" = true) (ha : PDA X B W [e] fr) (he : starEach [e] X.env = (false, eval e X.env) :: starEach [] X.env := by rfl) : PD X B W (.Call (.Name "int" p) [e] [] pos) (clE intO fr) :=
  c.bty cl_int call_int1 hm PyProof.Rows.boot_int hg ha (by decide) he
theorem Cz.tuple (c : Cz Z N sc fn k X B W) (hm : Z.mg "tuple" = none) (hg : glB sc "tuple" = true) (ha : PDA X B W [e] fr) (he : starEach [e] X.env = (false, eval e X.env) :: starEach [] X.env := by rfl) : PD X B W (.Call (.Name "tuple" p) [e] [] pos) (clE tupleO fr) :=
  c.bty cl_tuple call_tuple_of hm PyProof.Rows.boot_tuple hg ha (by decide) he
theorem Cz.list (c : Cz Z N sc fn k X B W) (hm : Z.mg "list" = none) (hg : glB sc "list" = true) (ha : PDA X B W [e] fr) (he : starEach [e] X.env = (false, eval e X.env) :: starEach [] X.env := by rfl) : PD X B W (.Call (.Name "list" p) [e] [] pos) (clE listO fr) :=
  c.bty cl_list call_list_of hm PyProof.Rows.boot_list hg ha (by decide) he
/-- isinstance(x, T) -/
theorem isi_weak {Ts : List String} {r : List V → Hp → VK → Prop} {tt : TE} (h : ∀ d v Ω g H Q, (∀ z, d = z → match z with | D.gen => False | _ => True) → Wf g Ω H → Rep X.K Ω d v → (∀ H', Tr Ω H Ω H' → Wf g Ω H' → Q (.bl (Ts.any fun t => subTy (tyN d) t)) H') → ∀ σ, tt σ H fun y H1 => r [v, y] H1 Q) {σ : St} {H : Hp} {Q : VK}
    (q : wE X.K B W (isiE Ts fa) σ H Q) : tCB r (tCons (wE X.K B W fa) (tCons tt tNil)) σ H Q := by
  obtain ⟨ρ, Ω, g, A, p⟩ := q
  unfold isiE at p
  refine wE.run A (fun d1 g1 v1 Ω1 H1 e1 t1 w1 r1 => ?_) (fun x g1 cls dd Ω1 H1 e1 t1 w1 rx => by rw [e1] at p; exact p cls dd Ω1 H1 t1 w1 rx) (fun e1 => by rw [e1] at p; exact p.elim)
  rw [e1] at p
  have hd : ∀ z, d1 = z → match z with | D.gen => False | _ => True := by
    intro z e
    subst e
    cases d1 <;> first | trivial | exact p
  have p' : PostE X.K B W ρ Ω σ H Q (.ok (.bl (Ts.any fun t => subTy (tyN d1) t)) g1) := by
    cases d1 <;> first | exact p | exact (hd _ rfl).elim
  exact h d1 v1 Ω1 g1 H1 Q hd w1 r1 (fun H' t w => p' _ Ω1 H' (t1.trans t) w rb) σ
theorem Cz.isi (c : Cz Z N sc fn k X B W) {T : String} {x : Str} (hm : Z.mg "isinstance" = none) (hg : glB sc "isinstance" = true) (hT : Z.mg x = none) (hgT : glB sc x = true) (hx : bootBuiltins x = some (.type T)) (ok : okTy T = true) (ha : PD X B W a fa) (hn : x ≠ "__name__" := by decide)
    (he : starEach [a, .Name x q] X.env = (false, eval a X.env) :: starEach [.Name x q] X.env := by rfl) (he2 : starEach [.Name x q] X.env = (false, eval (.Name x q) X.env) :: starEach [] X.env := by rfl) (hpl : (backTo pos (starEach [.Name x q] X.env)).any (·.1) = false := by rfl) :
    PD X B W (.Call (.Name "isinstance" p) [a, .Name x q] [] pos) (isiE [T] fa) :=
  PE.weak (pe_callB call_isi (c.gl hg).1 (c.nb hm) PyProof.Rows.boot_isinstance (pa_cons ha (pa_cons (pe_bltn (v := .ty T) (c.gl hgT).1 (c.nb hT) hx rfl hn (c.gl hgT).2) pa_nil he2) he) (by decide) (c.gl hg).2 he hpl) fun σ H Q z => isi_weak (fun d v Ω g H Q hd w r k σ => by
    refine ⟨v, .ty T, _, _, _, rfl, .ty T, tyX_of w r hd, kit_sub ok, ?_⟩
    have := k H (.refl _ _) w
    simpa using this) z
theorem Cz.isi2 (c : Cz Z N sc fn k X B W) {T T' : String} {x x' : Str} {q' tp : Pos} {kt} (hm : Z.mg "isinstance" = none) (hg : glB sc "isinstance" = true) (hT : Z.mg x = none) (hgT : glB sc x = true) (hx : bootBuiltins x = some (.type T)) (ok : okTy T = true) (hT' : Z.mg x' = none) (hgT' : glB sc x' = true) (hx' : bootBuiltins x' = some (.type T')) (ok' : okTy T' = true) (ha : PD X B W a fa) (hn : x ≠ "__name__" := by decide) (hn' : x' ≠ "__name__" := by decide)
    (he : starEach [a, .Tuple [.Name x q, .Name x' q'] kt tp] X.env = (false, eval a X.env) :: starEach [.Tuple [.Name x q, .Name x' q'] kt tp] X.env := by rfl) (he2 : starEach [.Tuple [.Name x q, .Name x' q'] kt tp] X.env = (false, eval (.Tuple [.Name x q, .Name x' q'] kt tp) X.env) :: starEach [] X.env := by rfl) (hpl : (backTo pos (starEach [.Tuple [.Name x q, .Name x' q'] kt tp] X.env)).any (·.1) = false := by rfl) :
    PD X B W (.Call (.Name "isinstance" p) [a, .Tuple [.Name x q, .Name x' q'] kt tp] [] pos) (isiE [T, T'] fa) :=
  PE.weak (pe_callB call_isiT (c.gl hg).1 (c.nb hm) PyProof.Rows.boot_isinstance (pa_cons ha (pa_cons (pe_tup (pa_cons (pe_bltn (v := .ty T) (c.gl hgT).1 (c.nb hT) hx rfl hn (c.gl hgT).2) (pa_cons (pe_bltn (v := .ty T') (c.gl hgT').1 (c.nb hT') hx' rfl hn' (c.gl hgT').2) pa_nil))) pa_nil he2) he) (by decide) (c.gl hg).2 he hpl) fun σ H Q z => isi_weak (fun d v Ω g H Q hd w r k σ => by
    refine ⟨by show 2 ≤ sizeLine; decide, fun pp hp => ?_⟩
    refine ⟨v, pp, [.ty T, .ty T'], _, [.type T, .type T'], _, rfl, upd_same, .cons (.ty T) (.cons (.ty T') .nil), tyX_of (w.loose hp) r hd, ?_, k _ (.loose hp) (w.loose hp)⟩
    have h1 := kit_sub (K := X.K) (d := d) ok
    have h2 := kit_sub (K := X.K) (d := d) ok'
    have hr : ([T, T'].any fun t => subTy (tyN d) t) = (subTy (tyN d) T || subTy (tyN d) T') := by simp
    rw [hr]
    cases e1 : subTy (tyN d) T <;> cases e2 : subTy (tyN d) T' <;> rw [e1] at h1 <;> rw [e2] at h2
    · exact kitAny_cons h1 (fun _ => kitAny_cons h2 (fun _ => kitAny_nil) (fun z => by cases z)) (fun z => by cases z)
    · exact kitAny_cons h1 (fun _ => kitAny_cons h2 (fun z => by cases z) (fun _ => rfl)) (fun z => by cases z)
    · exact kitAny_cons h1 (fun z => by cases z) (fun _ => rfl)
    · exact kitAny_cons h1 (fun z => by cases z) (fun _ => rfl)) z
end
/-- a constant of the module -/
def GlobK (K : PySem.W.Frag) (mg : Str → Option Value) (x : Str) (d : D) : Prop := ∃ v u, mg x = some u ∧ RelV v u ∧ ∀ Ω, Rep K Ω d v
abbrev GlobD (Z : Wd) (x : Str) (d : D) : Prop := GlobK Z.K Z.mg x d
theorem Cz.gd {Z : Wd} {N : List Str} {sc : Scope} {fn : Str → Bool} {k : Nat} {X : Cx} {B : Gd} {W : WX} {x : Str} {d : D} {pos : Pos} (c : Cz Z N sc fn k X B W) (h : GlobD Z x d) (hg : glB sc x = true) : PD X B W (.Name x pos) (cE d) := by
  obtain ⟨v, u, h1, h2, h3⟩ := h
  exact c.glob h1 h2 h3 hg
theorem globD_int {K : PySem.W.Frag} {mg : Str → Option Value} {x : Str} {i : Int} {t : Tok} (h : mg x = some (.int i t)) : GlobK K mg x (.int i) := ⟨.int i, _, h, ⟨t, rfl⟩, fun _ => ri⟩
theorem globD_str {K : PySem.W.Frag} {mg : Str → Option Value} {x s : Str} {t : Tok} (h : mg x = some (.str s t)) : GlobK K mg x (.str s) := ⟨.str s, _, h, ⟨t, rfl⟩, fun _ => rs⟩
/-- where a def of the text stands -/
structure FunK (K : PySem.W.Frag) (mg : Str → Option Value) (x : Str) (st : Stmt) (ps : List Str) : Prop where
  ex : ∃ f fd, mg x = some (.ref f) ∧ Fun K x x st f fd ∧ Binds K fd ps []
abbrev FunAt (Z : Wd) (x : Str) (st : Stmt) (ps : List Str) : Prop := FunK Z.K Z.mg x st ps
theorem funK_mk {K : PySem.W.Frag} {h : Heap} {mg : Str → Option Value} {x : Str} {st : Stmt} {ps : List Str} {f : Addr} {oc : Value} {od an : Option Addr} {osl : Array (Option Value)} {kV doc pm cdv ct : Value} (X : K.In h) (G : h.Ns mainGlobals mg)
    (a : PySem.W.nsIn K mainGlobals x = some (some (.ref f))) (l : K.lookup f = some ⟨oc, od, .func (PySem.W.fnOf x x (defArgs st) (defBody st) (defScope st) .none kV doc pm an cdv ct), osl⟩) (c : PySem.W.codeIn K cdv x = true) (k : PySem.W.keepIn K (.ref f) = true)
    (hb : ∀ (kV doc pm : Value) (an : Option Addr) (cdv ct : Value) (us : List Value), us.length = ps.length → bindArgs (PySem.W.fnOf x x (defArgs st) (defBody st) (defScope st) .none kV doc pm an cdv ct) ⟨us, []⟩ = pure (ps.zip us)) : FunK K mg x st ps :=
  ⟨f, _, PySem.W.mg_of X G a, fun_mk l c k, (fun_mk l c k).binds hb⟩
theorem has_of {Z : Wd} {x : Str} {st : Stmt} {N ps : List Str} {k : Nat} {fb : DS} (F : FunAt Z x st ps) (S : FnScope N ps (defScope st))
    (hb : ∀ X B W, Cz Z N (defScope st) (fun _ => true) k X B W → PassesOwn (model X.prog X.w) X.A X.env X.xe → PDSs X B W (defBody st) fb) : Z.has (k + 1) x ps (runD N.length fb) := by
  obtain ⟨f, fd, h1, h2, h3⟩ := F.ex
  exact ⟨f, fd, h1, h2.kp, h3, fn_okD h2 S hb⟩
theorem has_bad {Z : Wd} {x : Str} {st : Stmt} {ps : List Str} {k : Nat} (F : FunAt Z x st ps) : Z.has k x ps (fun _ _ => .bad) := by
  obtain ⟨f, fd, h1, h2, h3⟩ := F.ex
  refine ⟨f, fd, h1, h2.kp, h3, ⟨fun vs H Q E h => ?_, fun A outer s H args us vs Q E _ _ _ _ h => ?_⟩⟩
  · obtain ⟨_, _, _, _, _, _, q⟩ := h
    exact q.elim
  · obtain ⟨_, _, _, _, _, _, q⟩ := h
    exact q.elim
theorem has_mono {Z : Wd} {x : Str} {ps : List Str} {j k : Nat} {F : DF} (h : Z.has j x ps F) (hk : j ≤ k) : Z.has k x ps F := by
  obtain ⟨f, fd, h1, h2, h3, h4⟩ := h.ex
  exact ⟨f, fd, h1, h2, h3, h4.mono hk⟩

/-! ### the source of draws -/
def mixSt (seed : Int) (ns : List Int) : Int := ns.foldl (fun st c => (st * 48271 + c.fmod 2147483629 + 1).fmod 2147483647) seed
def mixD : DF := fun ds g => match ds, g with
  | [.scr ns, .int seed], none => .ok .gen (some ⟨mixSt seed ns, ns, 0⟩)
  | _, _ => .bad
def nextSt (γ : GS) (cap : Int) : Int × GS :=
  let n := γ.cells.length
  let j := (γ.ix.fmod ((if (n : Int) > 1 then n else 1 : Int))).toNat
  let cell := (γ.cells ++ [0])[j]?.getD 0
  if 10 ^ 18 ≤ cell then (cell.fmod cap, { γ with cells := γ.cells.set j (cell / cap) })
  else
    let st := (γ.st * 48271 + cell * 69621 + 11).fmod 2147483647
    ((st.fdiv 7).fmod cap, { γ with st := st, ix := γ.ix + 1 })
def nextD : DF := fun ds g => match ds, g with
  | [.gen, .int cap], some γ => if 0 < cap ∧ cap.natAbs.log2 < 9000 ∧ γ.cells.length ≤ 1000 ∧ 0 ≤ γ.ix then .ok (.int (nextSt γ cap).1) (some (nextSt γ cap).2) else .bad
  | _, _ => .bad
end TS
namespace TS
open PySem L2
open Evl (Ex)
section
variable {Z : Wd} {N : List Str} {sc : Scope} {fn : Str → Bool} {k : Nat} {X : Cx} {B : Gd} {W : WX} {a b e : Expr} {es : List Expr} {fa fb fe : DE} {fr : DA} {pos p q : Pos}
theorem od_ipadd {K : PySem.W.Frag} : OpD K (ipI fun i j => i + j) addI := opD_val fun d1 d2 d Ω g H x y e w r1 r2 => by
  cases d1 <;> cases d2 <;> cases e
  rename_i i j
  exact ⟨.int (i + j), ri, fun Q q => ⟨i, j, rep_int.mp r1, rep_int.mp r2, q⟩⟩
theorem od_ipsub {K : PySem.W.Frag} : OpD K (ipI fun i j => i - j) subI := opD_val fun d1 d2 d Ω g H x y e w r1 r2 => by
  cases d1 <;> cases d2 <;> cases e
  rename_i i j
  exact ⟨.int (i - j), ri, fun Q q => ⟨i, j, rep_int.mp r1, rep_int.mp r2, q⟩⟩
theorem Cz.app' (c : Cz Z N sc fn k X B W) (i : Nat) {x : Str} {xp ap cp : Pos} (h : nmB N sc i x = true) (he : PD X B W e fe)
    (h0 : attributeBase (.Name x xp) "append" X.env (eval (.Name x xp) X.env) = eval (.Name x xp) X.env := by rfl)
    (hs1 : starEach (e :: []) X.env = (false, eval e X.env) :: starEach [] X.env := by rfl)
    (hfew : ((backTo cp (starEach (e :: []) X.env)).all (fun x => !x.1) && (backToKw cp (keywordEach [] X.env)).all (fun x => x.1.isSome)
      && decide ((e :: []).length + ([] : List Keyword).length + (if ([] : List Keyword).isEmpty then 0 else 1) < 30)) = true := by rfl)
    (hline : (ap.endLine == cp.line) = true := by rfl)
    (hs : swapsWith (.Call (.Attribute (.Name x xp) "append" ap) [e] [] cp) none pos.line X.env = pure false := by rfl) :
    PDS X B W (.Expr (.Call (.Attribute (.Name x xp) "append" ap) [e] [] cp) pos) (appS i fe) :=
  pds_app (c.pe i h) he h0 (pe_bm PySem.F.plainAttrs_list PySem.F.slot_list_append PySem.F.type_list_append (fun pins s σ H x vs v us Q I rx rv h => mt_append pins s σ H x vs v us Q I rx rv h) (c.pe i h) (pa_cons he pa_nil hs1) h0 hfew hline hs1) hs
end
end TS
namespace TS
open PySem L2
open Evl (Ex)
/-! ### enumerate -/
def enumD (k0 : Int) (ds : List D) : List D := ds.zipIdx.map fun p => .tup [.int (k0 + (p.2 : Nat)), p.1]
theorem enumD_length (k0 : Int) (ds : List D) : (enumD k0 ds).length = ds.length := by simp [enumD]
theorem enumD_get {k0 : Int} {ds : List D} {i : Nat} {d : D} (h : (enumD k0 ds)[i]? = some d) : ∃ d', ds[i]? = some d' ∧ d = .tup [.int (k0 + (i : Nat)), d'] := by
  unfold enumD at h
  rw [List.getElem?_map, List.getElem?_zipIdx] at h
  cases q : ds[i]? with
  | none => rw [q] at h; cases h
  | some d' =>
    rw [q] at h
    simp at h
    exact ⟨d', rfl, h.symm⟩

/-- the list at a as it stands at each turn, each item in a new pair behind its number -/
def ItnL (K : PySem.W.Frag) (a : Addr) (k0 : Int) : It :=
  ⟨fun i H => ∃ (xs : List V) (x : V), SqL K H a xs ∧ xs[i]? = some x, fun i H v H' => ∃ T x, v = .ref T ∧ H T = none ∧ H' = upd H T (.tup [.int (k0 + (i : Nat)), x]) ∧ ∀ xs, SqL K H a xs → xs[i]? = some x, fun i H => ∃ xs : List V, SqL K H a xs ∧ xs.length = i⟩
theorem turn_enumL {P : Program} {w : World} {K : PySem.W.Frag} {elts : List Expr} {kk : Nat} {tpos : Pos} (a e it : Addr) (k0 : Int) :
    Turn P w K (.Tuple elts kk tpos) (ItnL K a k0) [e, it] e (fun i h => (∃ old, IsEnum h e it (k0 + ((i : Nat) : Int)) old) ∧ h.IsListIter it a i ∧ e ≠ it) where
  mem := by simp
  obj := fun i h st b hb => by
    obtain ⟨⟨old, he⟩, ⟨o, ho, hc, hd⟩, _⟩ := st
    have e' : b = e ∨ b = it := by simpa using hb
    rcases e' with z | z
    · rw [z]; exact ⟨_, he, fun v q => nomatch q⟩
    · rw [z]; exact ⟨o, ho, fun v q => by rw [hd] at q; cases q⟩
  keep := fun i h h' st k => let ⟨⟨old, he⟩, hi, hne⟩ := st; ⟨⟨old, k e (by simp) _ he⟩, hi.at fun o q => k it (by simp) o q, hne⟩
  item := by
    intro X hP hw hK hc i pins s σ H E I hf st hg
    subst hP hw hK
    obtain ⟨⟨old, he⟩, hit, hne⟩ := st
    obtain ⟨xs, x, hq, hx⟩ := hg
    obtain ⟨its, rv, p, hz⟩ := I.list hq
    obtain ⟨u, hu, ru⟩ := rv.get hx
    have hel : e < s.heap.objs.size := Heap.lt_size he
    have hil : it < s.heap.objs.size := by obtain ⟨_, q, _⟩ := hit; exact Heap.lt_size q
    have pl : s.heap.IsList a its.toArray := p.isList
    have hai : a ≠ it := by
      rintro rfl
      obtain ⟨o1, q1, c1, _⟩ := hit
      obtain ⟨o2, q2, c2, _⟩ := pl
      rw [q1] at q2; cases q2
      rw [c1] at c2; exact absurd c2 (by decide)
    have hea : e ≠ a := by
      rintro rfl
      obtain ⟨o2, q2, c2, _⟩ := pl
      have he' : s.heap.get? e = some _ := he
      rw [he'] at q2; cases q2
      replace c2 : Value.type "enumerate" = Value.type "list" := c2
      exact absurd c2 (by decide)
    refine wpAny_pyNext_enum_itemC (Draws.list (A := X.A.in1) (I.ok.hd hc) it a hai its.toArray) he ⟨hit, pl⟩ (by rw [List.size_toArray]; exact (List.getElem?_eq_some_iff.mp hu).1) hne (by simp [hne, hea]) fun u' h' tk hP ho st' hT hsz hk => ?_
    have eu : u' = u := by
      have : its.toArray[i]? = some u := by simpa using hu
      rw [this] at hP; exact (Option.some.inj hP).symm
    subst eu
    refine ⟨_, rfl, wpAny_letOwnedTupleGo_enum (s := { s with heap := h', toks := tk + 1 }) ho fun h'' he' sb => ?_⟩
    have hT2 : h''.get? s.heap.objs.size = some { cls := .type "tuple", data := .seq #[.int (k0 + (i : Nat)) tk, u'] } := (sb.2 _ (Nat.ne_of_gt hel)).trans hT
    have new : ObjOk X.prog X.w (upd H s.heap.objs.size (.tup [.int (k0 + (i : Nat)), x])) h'' s.heap.objs.size (.tup [.int (k0 + (i : Nat)), x]) :=
      ⟨by show 2 ≤ sizeLine; decide, [.int (k0 + (i : Nat)) tk, u'], .cons ⟨_, rfl⟩ (.cons ru .nil), ⟨_, hT2, rfl, _, rfl⟩⟩
    have I1 : Inv X pins σ (upd H s.heap.objs.size (.tup [.int (k0 + (i : Nat)), x])) { s with heap := h'', toks := tk + 1 } :=
      I.turnedNew (ch := [e, it]) (fun b ob hb q => (sb.2 b (fun z => hb (by simp [z]))).trans (hk b ob (fun z => hb (by simp [z])) (fun z => hb (by simp [z])) q)) hf (Nat.le_refl _) new
    refine ⟨.ref s.heap.objs.size, _, I1, rfl, ⟨_, x, rfl, I.hok.fresh (Nat.le_refl _), rfl, fun ys hy => by rw [I.list_inj hy hq]; exact hx⟩, ⟨⟨u', ?_⟩, st'.1.at fun o q => (sb.2 it (Ne.symm hne)).trans q, hne⟩, fun b hb => ?_⟩
    · have e1 : k0 + ((i + 1 : Nat) : Int) = k0 + (i : Int) + 1 := by omega
      rw [e1]; exact he'
    · have hb' : b < s.heap.objs.size := by
        have e' : b = e ∨ b = it := by simpa using hb
        rcases e' with z | z
        · rw [z]; exact hel
        · rw [z]; exact hil
      rw [upd_ne (Nat.ne_of_lt hb')]
      exact (hf b hb).1
  done := by
    intro X hP hw hK hc i pins s σ H E I hf st hg
    subst hP hw hK
    obtain ⟨⟨old, he⟩, hit, hne⟩ := st
    obtain ⟨xs, hq, hx⟩ := hg
    obtain ⟨its, rv, p, hz⟩ := I.list hq
    have pl : s.heap.IsList a its.toArray := p.isList
    have hai : a ≠ it := by
      rintro rfl
      obtain ⟨o1, q1, c1, _⟩ := hit
      obtain ⟨o2, q2, c2, _⟩ := pl
      rw [q1] at q2; cases q2
      rw [c1] at c2; exact absurd c2 (by decide)
    obtain ⟨f0, f1, f2, f3, f4, f5⟩ := hf it (by simp)
    have hl := rv.length
    have hi : i = its.toArray.size := by simp; omega
    exact wpAny_pyNext_enum_endD (n := its.toArray.size) (Draws.list (A := X.A.in1) (I.ok.hd hc) it a hai its.toArray) he ⟨hi ▸ hit, pl⟩ fun h' eb => ⟨rfl, I.turned (t' := s.toks) (fun b o hb q => eb b o hb q) f0 f1 f3 f4 f5⟩
  self := fun A i s Q E st h => let ⟨⟨_, he⟩, _⟩ := st; wpAny_pyIter_enum he h
theorem walkD_enumL {K : PySem.W.Frag} {a : Addr} {xs : List V} {ds : List D} {Ω : Om} {k0 : Int} (h : SqL K Ω.S a xs) (r : RepL K Ω ds xs) : WalkD K (ItnL K a k0) (enumD k0 ds) Ω :=
  ⟨fun i H hi e => ⟨xs, xs[i]'(by rw [enumD_length] at hi; rw [← r.length]; exact hi), Evl.ex_l e h, by simp⟩, fun H e => ⟨xs, Evl.ex_l e h, by rw [enumD_length, r.length]⟩,
   fun i H x H' d hd e y Ω1 g1 gr w => by
    obtain ⟨T, v, rfl, h1, rfl, h2⟩ := y
    obtain ⟨d', hd', rfl⟩ := enumD_get hd
    obtain ⟨v', hv', rv⟩ := r.get hd'
    have := h2 xs (Evl.ex_l e h)
    rw [hv'] at this
    cases this
    refine ⟨Ω1.add T (.tup [.int (k0 + (i : Nat)), v]), .alloc w.sub h1, w.alloc h1, rep_tup.mpr ⟨T, _, rfl, .inl (.inl add_get), ?_⟩⟩
    exact .cons ri (.cons (Rep.mono (gr.trans (Tr.alloc w.sub h1).gr) _ _ rv) .nil)⟩

/-- the tuple at a as it stands at each turn, each item in a new pair behind its number -/
def ItnT (K : PySem.W.Frag) (a : Addr) (k0 : Int) : It :=
  ⟨fun i H => ∃ (xs : List V) (x : V), SqT K H a xs ∧ xs[i]? = some x, fun i H v H' => ∃ T x, v = .ref T ∧ H T = none ∧ H' = upd H T (.tup [.int (k0 + (i : Nat)), x]) ∧ ∀ xs, SqT K H a xs → xs[i]? = some x, fun i H => ∃ xs : List V, SqT K H a xs ∧ xs.length = i⟩
theorem turn_enumT {P : Program} {w : World} {K : PySem.W.Frag} {elts : List Expr} {kk : Nat} {tpos : Pos} (a e it : Addr) (k0 : Int) :
    Turn P w K (.Tuple elts kk tpos) (ItnT K a k0) [e, it] e (fun i h => (∃ old, IsEnum h e it (k0 + ((i : Nat) : Int)) old) ∧ h.IsTupleIter it a i ∧ e ≠ it) where
  mem := by simp
  obj := fun i h st b hb => by
    obtain ⟨⟨old, he⟩, ⟨o, ho, hc, hd⟩, _⟩ := st
    have e' : b = e ∨ b = it := by simpa using hb
    rcases e' with z | z
    · rw [z]; exact ⟨_, he, fun v q => nomatch q⟩
    · rw [z]; exact ⟨o, ho, fun v q => by rw [hd] at q; cases q⟩
  keep := fun i h h' st k => let ⟨⟨old, he⟩, hi, hne⟩ := st; ⟨⟨old, k e (by simp) _ he⟩, hi.at fun o q => k it (by simp) o q, hne⟩
  item := by
    intro X hP hw hK hc i pins s σ H E I hf st hg
    subst hP hw hK
    obtain ⟨⟨old, he⟩, hit, hne⟩ := st
    obtain ⟨xs, x, hq, hx⟩ := hg
    obtain ⟨its, rv, p, hz⟩ := I.tuple hq
    obtain ⟨u, hu, ru⟩ := rv.get hx
    have hel : e < s.heap.objs.size := Heap.lt_size he
    have hil : it < s.heap.objs.size := by obtain ⟨_, q, _⟩ := hit; exact Heap.lt_size q
    have pl : s.heap.IsTuple a its.toArray := p
    have hai : a ≠ it := by
      rintro rfl
      obtain ⟨o1, q1, c1, _⟩ := hit
      obtain ⟨o2, q2, c2, _⟩ := pl
      rw [q1] at q2; cases q2
      rw [c1] at c2; exact absurd c2 (by decide)
    have hea : e ≠ a := by
      rintro rfl
      obtain ⟨o2, q2, c2, _⟩ := pl
      have he' : s.heap.get? e = some _ := he
      rw [he'] at q2; cases q2
      replace c2 : Value.type "enumerate" = Value.type "tuple" := c2
      exact absurd c2 (by decide)
    refine wpAny_pyNext_enum_itemC (Draws.tuple (A := X.A.in1) (I.ok.hd hc) it a hai its.toArray) he ⟨hit, pl⟩ (by rw [List.size_toArray]; exact (List.getElem?_eq_some_iff.mp hu).1) hne (by simp [hne, hea]) fun u' h' tk hP ho st' hT hsz hk => ?_
    have eu : u' = u := by
      have : its.toArray[i]? = some u := by simpa using hu
      rw [this] at hP; exact (Option.some.inj hP).symm
    subst eu
    refine ⟨_, rfl, wpAny_letOwnedTupleGo_enum (s := { s with heap := h', toks := tk + 1 }) ho fun h'' he' sb => ?_⟩
    have hT2 : h''.get? s.heap.objs.size = some { cls := .type "tuple", data := .seq #[.int (k0 + (i : Nat)) tk, u'] } := (sb.2 _ (Nat.ne_of_gt hel)).trans hT
    have new : ObjOk X.prog X.w (upd H s.heap.objs.size (.tup [.int (k0 + (i : Nat)), x])) h'' s.heap.objs.size (.tup [.int (k0 + (i : Nat)), x]) :=
      ⟨by show 2 ≤ sizeLine; decide, [.int (k0 + (i : Nat)) tk, u'], .cons ⟨_, rfl⟩ (.cons ru .nil), ⟨_, hT2, rfl, _, rfl⟩⟩
    have I1 : Inv X pins σ (upd H s.heap.objs.size (.tup [.int (k0 + (i : Nat)), x])) { s with heap := h'', toks := tk + 1 } :=
      I.turnedNew (ch := [e, it]) (fun b ob hb q => (sb.2 b (fun z => hb (by simp [z]))).trans (hk b ob (fun z => hb (by simp [z])) (fun z => hb (by simp [z])) q)) hf (Nat.le_refl _) new
    refine ⟨.ref s.heap.objs.size, _, I1, rfl, ⟨_, x, rfl, I.hok.fresh (Nat.le_refl _), rfl, fun ys hy => by rw [I.tuple_inj hy hq]; exact hx⟩, ⟨⟨u', ?_⟩, st'.1.at fun o q => (sb.2 it (Ne.symm hne)).trans q, hne⟩, fun b hb => ?_⟩
    · have e1 : k0 + ((i + 1 : Nat) : Int) = k0 + (i : Int) + 1 := by omega
      rw [e1]; exact he'
    · have hb' : b < s.heap.objs.size := by
        have e' : b = e ∨ b = it := by simpa using hb
        rcases e' with z | z
        · rw [z]; exact hel
        · rw [z]; exact hil
      rw [upd_ne (Nat.ne_of_lt hb')]
      exact (hf b hb).1
  done := by
    intro X hP hw hK hc i pins s σ H E I hf st hg
    subst hP hw hK
    obtain ⟨⟨old, he⟩, hit, hne⟩ := st
    obtain ⟨xs, hq, hx⟩ := hg
    obtain ⟨its, rv, p, hz⟩ := I.tuple hq
    have pl : s.heap.IsTuple a its.toArray := p
    have hai : a ≠ it := by
      rintro rfl
      obtain ⟨o1, q1, c1, _⟩ := hit
      obtain ⟨o2, q2, c2, _⟩ := pl
      rw [q1] at q2; cases q2
      rw [c1] at c2; exact absurd c2 (by decide)
    obtain ⟨f0, f1, f2, f3, f4, f5⟩ := hf it (by simp)
    have hl := rv.length
    have hi : i = its.toArray.size := by simp; omega
    exact wpAny_pyNext_enum_endD (n := its.toArray.size) (Draws.tuple (A := X.A.in1) (I.ok.hd hc) it a hai its.toArray) he ⟨hi ▸ hit, pl⟩ fun h' eb => ⟨rfl, I.turned (t' := s.toks) (fun b o hb q => eb b o hb q) f0 f1 f3 f4 f5⟩
  self := fun A i s Q E st h => let ⟨⟨_, he⟩, _⟩ := st; wpAny_pyIter_enum he h
theorem walkD_enumT {K : PySem.W.Frag} {a : Addr} {xs : List V} {ds : List D} {Ω : Om} {k0 : Int} (h : SqT K Ω.S a xs) (r : RepL K Ω ds xs) : WalkD K (ItnT K a k0) (enumD k0 ds) Ω :=
  ⟨fun i H hi e => ⟨xs, xs[i]'(by rw [enumD_length] at hi; rw [← r.length]; exact hi), Evl.ex_t e h, by simp⟩, fun H e => ⟨xs, Evl.ex_t e h, by rw [enumD_length, r.length]⟩,
   fun i H x H' d hd e y Ω1 g1 gr w => by
    obtain ⟨T, v, rfl, h1, rfl, h2⟩ := y
    obtain ⟨d', hd', rfl⟩ := enumD_get hd
    obtain ⟨v', hv', rv⟩ := r.get hd'
    have := h2 xs (Evl.ex_t e h)
    rw [hv'] at this
    cases this
    refine ⟨Ω1.add T (.tup [.int (k0 + (i : Nat)), v]), .alloc w.sub h1, w.alloc h1, rep_tup.mpr ⟨T, _, rfl, .inl (.inl add_get), ?_⟩⟩
    exact .cons ri (.cons (Rep.mono (gr.trans (Tr.alloc w.sub h1).gr) _ _ rv) .nil)⟩

theorem meets_enumerate_newT (l : Addr) (items : Array Value) (n : Nat) (dct : Option Addr) (sl : Array (Option Value)) :
    Meets (Builtin.«enumerate.__new__» ⟨[.type "enumerate", .ref l], []⟩) (fun _ R s => s.heap.get? l = some { cls := .type "tuple", dict := dct, data := .seq items n, slots := sl } ∧
      R (.ok (.ret (.ref (s.heap.push { cls := .type "tuple_iterator", data := .fields #[.ref l, .int 0 0] }).objs.size)))
        { s with heap := (s.heap.push { cls := .type "tuple_iterator", data := .fields #[.ref l, .int 0 0] }).push { cls := .type "enumerate", data := .fields #[.none, .bool false, .ref s.heap.objs.size, rawInt 0, .none, .none] } }) :=
  .of_wp fun prog w A R s h => by
    obtain ⟨hp, g, d, tk, os⟩ := s; obtain ⟨hl, h⟩ := h
    have hsub := sub_enumerate
    have hL : Heap.IsTuple (Shared.heap ⟨hp, g, d, tk, os⟩) l items := ⟨_, hl, rfl, n, rfl⟩
    wp_walk using AutoSeq1.wpAny_loadPart' hl
    refine wpAny_stack_any fun st => wpAny_pure ?_
    split
    · rename_i c _ _ _ _ _
      cases (c == Value.type "enumerate")
      · wp_walk using AutoSeq1.wpAny_loadPart' hl, wpAny_pyIter_tuple hL
        exact ⟨_, rfl, h⟩
      · wp_walk using AutoSeq1.wpAny_loadPart' hl, wpAny_pyIter_tuple hL
        exact ⟨_, rfl, h⟩
    · wp_walk using AutoSeq1.wpAny_loadPart' hl, wpAny_pyIter_tuple hL
      exact ⟨_, rfl, h⟩
theorem call_enumerate_tuple {prog : Program} {w : World} {A : Around} {E : Value → Shared → Prop} {s : Shared} {l : Addr} {items : Array Value} {Q : Value → Shared → Prop} (hL : s.heap.IsTuple l items)
    (h : ∀ h', IsEnum h' (s.heap.objs.size + 1) s.heap.objs.size 0 .none → h'.IsTupleIter s.heap.objs.size l 0 → h'.objs.size = s.heap.objs.size + 2 →
      (∀ b o, s.heap.get? b = some o → h'.get? b = some o) → Q (.ref (s.heap.objs.size + 1)) { s with heap := h' }) :
    wpAny (model prog w) A (call (.type "enumerate") [.ref l]) Q E s := by
  obtain ⟨⟨c, dct, dt, sl⟩, hl, hc, n, hd⟩ := hL
  replace hc : c = .type "tuple" := hc
  replace hd : dt = .seq items n := hd
  subst hc hd
  refine callType_new F.called_enumerate (by decide) (F.typeCall_enumerate_1 _) (F.newCall_enumerate_1 _) (fun obj => F.args_object_init_2 obj _) F.entry_enumerate_new
    (meets_enumerate_newT l items n dct sl) ⟨hl, ?_⟩
  have hz : (s.heap.push { cls := .type "tuple_iterator", data := .fields #[.ref l, .int 0 0] }).objs.size = s.heap.objs.size + 1 := Heap.size_push ..
  show _ ∧ _
  rw [hz]
  have he : IsEnum ((s.heap.push { cls := .type "tuple_iterator", data := .fields #[.ref l, .int 0 0] }).push
      { cls := .type "enumerate", data := .fields #[.none, .bool false, .ref s.heap.objs.size, rawInt 0, .none, .none] }) (s.heap.objs.size + 1) s.heap.objs.size 0 .none := by
    have := Heap.get?_push_size (s.heap.push { cls := .type "tuple_iterator", data := .fields #[.ref l, .int 0 0] })
      (o := { cls := .type "enumerate", data := .fields #[.none, .bool false, .ref s.heap.objs.size, rawInt 0, .none, .none] }) rfl
    rw [hz] at this; exact this
  refine ⟨⟨_, he, rfl⟩, h _ he ⟨_, Heap.get?_push_of_some _ (Heap.get?_push_size _ rfl), rfl, rfl⟩ (by rw [Heap.size_push, hz]) fun b o x => Heap.get?_push_of_some _ (Heap.get?_push_of_some _ x)⟩
def iEn1 (K : PySem.W.Frag) (ta : TA) : TI := fun σ H R => ta σ H fun vs H1 => ∃ a xs, vs = [.ref a] ∧ ((SqL K H1 a xs ∧ R (ItnL K a 0) H1) ∨ (SqT K H1 a xs ∧ R (ItnT K a 0) H1))
theorem pi_en1 {X : Cx} {e : Expr} {ta : TA} {p pos tpos : Pos} {elts : List Expr} {kk : Nat} (hg : Gl X "enumerate") (hm : X.mg "enumerate" = none) (ha : PA X [e] ta) (hs : starEach [e] X.env = [(false, eval e X.env)] := by rfl) :
    PI X (.Tuple elts kk tpos) (.Call (.Name "enumerate" p) [e] [] pos) (iEn1 X.K ta) := by
  refine ⟨fun pins s σ H R I h => ?_⟩
  refine PyProof.Rows.Call_ (ld_blt I hg hm PyProof.Rows.boot_enumerate (PyProof.Rows.callWith_type1 (thn (ha.run pos pins s σ H _ I h) fun us s1 ⟨vs, H1, I1, r1, q1⟩ => ?_) hs rfl))
  obtain ⟨a, xs, ex, q1⟩ := q1
  subst ex
  cases r1 with
  | cons r rr =>
    cases rr
    cases r
    have fin : ∀ b : Addr, b ∈ [s1.heap.objs.size + 1, s1.heap.objs.size] → FpOk X pins H1 b := fun b hb => by
      have e' : b = s1.heap.objs.size + 1 ∨ b = s1.heap.objs.size := by simpa using hb
      have hle : s1.heap.objs.size ≤ b := by
        rcases e' with z | z
        · rw [z]; exact Nat.le_add_right _ _
        · rw [z]; exact Nat.le_refl _
      exact I1.fpOk hle (I1.hok.fresh hle)
    rcases q1 with ⟨hq, q⟩ | ⟨hq, q⟩
    · obtain ⟨its, rv, p', hz⟩ := I1.list hq
      refine call_enumerate_list p'.isList fun h' he hit hsz hk => wpAny_pyIter_enum he ?_
      have I2 : Inv X pins σ H1 { s1 with heap := h' } := I1.kept (t' := s1.toks) hk
      exact ⟨s1.heap.objs.size + 1, [s1.heap.objs.size + 1, s1.heap.objs.size], _, _, H1, rfl, I2, turn_enumL a (s1.heap.objs.size + 1) s1.heap.objs.size 0, ⟨⟨.none, he⟩, hit, Nat.succ_ne_self _⟩, fin, q⟩
    · obtain ⟨its, rv, p', hz⟩ := I1.tuple hq
      refine call_enumerate_tuple (show s1.heap.IsTuple a its.toArray from p') fun h' he hit hsz hk => wpAny_pyIter_enum he ?_
      have I2 : Inv X pins σ H1 { s1 with heap := h' } := I1.kept (t' := s1.toks) hk
      exact ⟨s1.heap.objs.size + 1, [s1.heap.objs.size + 1, s1.heap.objs.size], _, _, H1, rfl, I2, turn_enumT a (s1.heap.objs.size + 1) s1.heap.objs.size 0, ⟨⟨.none, he⟩, hit, Nat.succ_ne_self _⟩, fin, q⟩
def enO : List D → Option (List D)
  | [.lst ds] => some (enumD 0 ds)
  | [.tup ds] => some (enumD 0 ds)
  | _ => none
def enI (fr : DA) : DA := fun ρ g => (fr ρ g).bind fun ds g1 => match enO ds with
  | some r => .ok r g1
  | none => .bad
theorem pdi_enum {X : Cx} {B : Gd} {W : WX} {e : Expr} {fr : DA} {p pos tpos : Pos} {elts : List Expr} {kk : Nat} (hg : Gl X "enumerate") (hm : X.mg "enumerate" = none) (ha : PDA X B W [e] fr) (hs : starEach [e] X.env = [(false, eval e X.env)] := by rfl) :
    PDI X B W (.Tuple elts kk tpos) (.Call (.Name "enumerate" p) [e] [] pos) (enI fr) := PI.weak (pi_en1 hg hm ha hs) fun σ H R q => by
  obtain ⟨ρ, Ω, g, A, p⟩ := q
  unfold enI at p
  refine wA.run A (fun d1 g1 v1 Ω1 H1 e1 t1 w1 r1 => ?_) (fun x g1 cls dd Ω1 H1 e1 t1 w1 rx => by rw [e1] at p; exact p cls dd Ω1 H1 t1 w1 rx) (fun e1 => by rw [e1] at p; exact p.elim)
  rw [e1] at p
  simp only [Res.bind] at p
  cases e2 : enO d1 with
  | none => rw [e2] at p; exact p.elim
  | some r =>
    rw [e2] at p
    unfold enO at e2
    split at e2
    · cases e2
      obtain ⟨v, rfl, h1⟩ := one_of r1
      obtain ⟨a, xs, rfl, h2, h3⟩ := rep_lst.mp h1
      exact ⟨a, xs, rfl, .inl ⟨SqL.of (w1.sub _ _ h2), p _ Ω1 H1 t1 w1 (walkD_enumL (.inl (.inl h2)) h3)⟩⟩
    · cases e2
      obtain ⟨v, rfl, h1⟩ := one_of r1
      obtain ⟨a, xs, rfl, h2, h3⟩ := rep_tup.mp h1
      exact ⟨a, xs, rfl, .inr ⟨Evl.ex_t w1.sub h2, p _ Ω1 H1 t1 w1 (walkD_enumT h2 h3)⟩⟩
    · cases e2
end TS
namespace TS
open PySem L2
open Evl (Ex)
abbrev envS (sc : Scope) : Env := { scope := sc, locals := 0, globals := 0, cells := [] }
theorem swapped_env {ts : List Expr} {v : Expr} {env : Env} {sc : Scope} (h : env.scope = sc) : swappedStores ts v env = swappedStores ts v (envS sc) := by
  subst h
  rfl
section
variable {Z : Wd} {N : List Str} {sc : Scope} {fn : Str → Bool} {k : Nat} {X : Cx} {B : Gd} {W : WX} {a b d e : Expr} {es : List Expr} {fa fb fe : DE} {fr : DA} {pos p q : Pos}
theorem Cz.parS (c : Cz Z N sc fn k X B W) (i j : Nat) {x y : Str} {px py pt : Pos} {kt k2 pt2} (h : parB N sc i j x y = true) (ha : PDA X B W [a, b] fr)
    (hw : swappedStores [.Tuple [.Name x px, .Name y py] kt pt] (.Tuple [a, b] k2 pt2) (envS sc) = pure (some [x, y]))
    (hs : swapsWithSole [.Tuple [.Name x px, .Name y py] kt pt] (.Tuple [a, b] k2 pt2) pos.line X.env = pure false := by rfl) :
    PDS X B W (.Assign [.Tuple [.Name x px, .Name y py] kt pt] (.Tuple [a, b] k2 pt2) pos) (asgS (.many [i, j]) (clE tupO fr)) :=
  c.par i j h ha ((swapped_env c.esc).trans hw) hs
def par3B (N : List Str) (sc : Scope) (i j l : Nat) (x y z : Str) : Bool := parB N sc i j x y && parB N sc i l x z && parB N sc j l y z
theorem parB_of {i j : Nat} {x y : Str} (h : parB N sc i j x y = true) : N[i]? = some x ∧ N[j]? = some y ∧ i ≠ j ∧ sc.names.lookup x = some .local ∧ sc.names.lookup y = some .local := by
  unfold parB at h
  simp only [Bool.and_eq_true, decide_eq_true_eq, Bool.not_eq_true', decide_eq_false_iff_not] at h
  obtain ⟨⟨⟨⟨h1, h2⟩, h3⟩, h4⟩, h5⟩ := h
  refine ⟨h1, h2, h3, ?_, ?_⟩
  · split at h4; assumption; cases h4
  · split at h5; assumption; cases h5
theorem Cz.par3 (c : Cz Z N sc fn k X B W) (i j l : Nat) {x y z : Str} {px py pz pt : Pos} {kt k2 pt2} (h : par3B N sc i j l x y z = true) (ha : PDA X B W [a, b, d] fr)
    (hw : swappedStores [.Tuple [.Name x px, .Name y py, .Name z pz] kt pt] (.Tuple [a, b, d] k2 pt2) (envS sc) = pure (some [x, y, z]))
    (hs : swapsWithSole [.Tuple [.Name x px, .Name y py, .Name z pz] kt pt] (.Tuple [a, b, d] k2 pt2) pos.line X.env = pure false := by rfl) :
    PDS X B W (.Assign [.Tuple [.Name x px, .Name y py, .Name z pz] kt pt] (.Tuple [a, b, d] k2 pt2) pos) (asgS (.many [i, j, l]) (clE tupO fr)) := by
  unfold par3B at h
  simp only [Bool.and_eq_true] at h
  obtain ⟨⟨ha1, ha2⟩, ha3⟩ := h
  obtain ⟨h1, h2, h3, h4, h5⟩ := parB_of ha1
  obtain ⟨_, h6, h7, _, h8⟩ := parB_of ha2
  obtain ⟨_, _, h9, _, _⟩ := parB_of ha3
  refine PS.weak (ps_par3 c.calm (by rw [c.eN]; exact c.nd) (by rw [c.eN]; exact h1) (by rw [c.eN]; exact h2) (by rw [c.eN]; exact h6) h3 h7 h9 (by rw [c.esc]; exact h4) (by rw [c.esc]; exact h5) (by rw [c.esc]; exact h8) ha ((swapped_env c.esc).trans hw) hs) fun D σ H q => ?_
  obtain ⟨ρ, Ω, g, A, p⟩ := q
  unfold asgS clE at p
  refine wA.run A (fun ds g1 vs Ω1 H1 e1 t1 w1 r1 => ?_) (fun x g1 cls dd Ω1 H1 e1 t1 w1 rx => ?_) (fun e1 => by rw [e1] at p; exact p.elim)
  · rw [e1] at p
    simp only [Res.bind] at p
    cases e2 : tupO ds with
    | none => rw [e2] at p; exact p.elim
    | some d =>
      have ed : d = .tup ds := by
        unfold tupO at e2
        split at e2
        · cases e2; rfl
        · cases e2
      subst ed
      rw [e2] at p
      simp only [Tg.put] at p
      split at p
      · rename_i ρ' e3
        split at e3
        · rename_i hl
          cases e3
          match ds, hl, r1 with
          | [d1, d2, d3], _, r1 =>
            obtain ⟨v1, r', rfl, h1, h2⟩ := repL_cons.mp r1
            obtain ⟨v2, r'', rfl, h3, h4⟩ := repL_cons.mp h2
            obtain ⟨v3, r3, rfl, h5, h6⟩ := repL_cons.mp h4
            obtain rfl := repL_nil.mp h6
            have A1 := A.go t1 w1
            exact ⟨v1, v2, v3, rfl, p _ Ω1 H1 t1.gr ⟨A1.tr, A1.wf, ((A1.sl.set h1).set h3).set h5⟩⟩
        · cases e3
      · exact p.elim
  · rw [e1] at p
    exact p cls dd σ Ω1 H1 t1.gr (A.go t1 w1) rx
theorem Cz.asgT (c : Cz Z N sc fn k X B W) {tg : Expr} {t : Tg} (he : PD X B W e fe) (hg : PDG X tg t) (hw : swappedStores [tg] e (envS sc) = pure none) (hs : swapsWithSole [tg] e pos.line X.env = pure false := by rfl) (h1 : (assignEach [tg] X.env).map (·.2) = [assign tg X.env] := by rfl) : PDS X B W (.Assign [tg] e pos) (asgS t fe) :=
  pds_asg he hg hs ((swapped_env c.esc).trans hw) h1
end
end TS
namespace TS
open PySem L2
theorem nextD_cases (ds : List D) (g : G) : nextD ds g = .bad ∨ ∃ cap γ, ds = [.gen, .int cap] ∧ g = some γ ∧ (0 < cap ∧ cap.natAbs.log2 < 9000 ∧ γ.cells.length ≤ 1000 ∧ 0 ≤ γ.ix) ∧ nextD ds g = .ok (.int (nextSt γ cap).1) (some (nextSt γ cap).2) := by
  unfold nextD
  split
  · rename_i cap γ
    split
    · rename_i h
      exact .inr ⟨cap, γ, rfl, rfl, h, rfl⟩
    · exact .inl rfl
  · exact .inl rfl
theorem mixD_cases (ds : List D) (g : G) : mixD ds g = .bad ∨ ∃ ns seed, ds = [.scr ns, .int seed] ∧ g = none ∧ mixD ds g = .ok .gen (some ⟨mixSt seed ns, ns, 0⟩) := by
  unfold mixD
  split
  · exact .inr ⟨_, _, rfl, rfl, rfl⟩
  · exact .inl rfl
theorem rep2 {K : PySem.W.Frag} {Ω : Om} {vs : List V} {cap : Int} (r : RepL K Ω [.gen, .int cap] vs) : ∃ p, Ω.ga = some p ∧ vs = [.ref p.1, .int cap] := by
  obtain ⟨v, u, rfl, h1, h2⟩ := two_of r
  obtain ⟨p, hp, rfl⟩ := rep_gen.mp h1
  exact ⟨p, hp, by rw [rep_int.mp h2]⟩
theorem ixN_ok {n : Nat} {i : Int} (h0 : 0 ≤ i) (h : i < n) : ixN n i = some i.toNat := by
  unfold ixN
  rw [if_pos h0, if_pos h]
theorem atI_ok {α : Type} {xs : List α} {i : Int} {x : α} (h0 : 0 ≤ i) (h : xs[i.toNat]? = some x) : atI xs i = some x := by
  unfold atI
  have hl := (List.getElem?_eq_some_iff.mp h).1
  rw [ixN_ok h0 (by omega)]
  exact h
theorem Tr.ownUpd {Ω Ω' : Om} {H H' : Hp} {p : Addr} {o : HO} (t : Tr Ω H Ω' H') (hp : Ω.Own p) : Tr Ω H Ω' (upd H' p o) :=
  ⟨t.gr, t.new, t.gnew, fun a u h n => by rw [upd_ne (fun z : a = p => n (by rw [z]; exact hp))]; exact t.keep a u h n, fun a u h => by
    by_cases z : a = p
    · subst z; exact ⟨o, upd_same⟩
    · rw [upd_ne z]; exact t.there a u h⟩
theorem set_ints (ns : List Int) (j : Nat) (x : Int) : (ns.map V.int).set j (V.int x) = (ns.set j x).map V.int := by
  rw [List.map_set]
end TS
namespace TS
theorem if_true_of {c : Bool} {A B : Prop} (hc : c = true) (h : A) : if c = true then A else B := by
  rw [if_pos hc]
  exact h
theorem if_false_of {c : Bool} {A B : Prop} (hc : c = false) (h : B) : if c = true then A else B := by
  rw [hc, if_neg Bool.false_ne_true]
  exact h
end TS
/-! More rules: sorted of ints, list(range(..)), lists that a slot alone holds made otherwise. -/
namespace TS
open PySem L2
open Evl (Ex)
theorem sorted_unique : ∀ {l m : List Int}, l.Perm m → l.Pairwise (· ≤ ·) → m.Pairwise (· ≤ ·) → l = m
  | [], m, p, _, _ => by rw [List.nil_perm.mp p]
  | a :: l, [], p, _, _ => absurd p.length_eq (by simp)
  | a :: l, b :: m, p, h1, h2 => by
    obtain ⟨a1, a2⟩ := List.pairwise_cons.mp h1
    obtain ⟨b1, b2⟩ := List.pairwise_cons.mp h2
    have e : a = b := by
      have hb : b ∈ a :: l := p.mem_iff.mpr List.mem_cons_self
      have ha : a ∈ b :: m := p.mem_iff.mp List.mem_cons_self
      rcases List.mem_cons.mp hb with q | q
      · exact q.symm
      · rcases List.mem_cons.mp ha with z | z
        · exact z
        · have := a1 b q
          have := b1 a z
          omega
    subst e
    rw [sorted_unique (List.Perm.cons_inv p) a2 b2]
def sortInts (ns : List Int) : List Int := ns.mergeSort (fun a b => decide (a ≤ b))
theorem sortInts_perm (ns : List Int) : (sortInts ns).Perm ns := List.mergeSort_perm ns _
theorem sortInts_sorted (ns : List Int) : (sortInts ns).Pairwise (· ≤ ·) := by
  have := List.pairwise_mergeSort (le := fun a b : Int => decide (a ≤ b)) (fun a b c h1 h2 => by simp at *; omega) (fun a b => by simp; omega) ns
  exact this.imp fun h => by simpa using h
def sortO : List D → Option D
  | [.lst ds] => (ints? ds).map fun ns => .lst ((sortInts ns).map D.int)
  | _ => none
section
variable {K : PySem.W.Frag}
theorem cl_sortI : ClD K (rSortedI K) sortO := fun ds d Ω g H xs Q e w r k => by
  unfold sortO at e
  split at e
  · rename_i es
    cases q : ints? es with
    | none => rw [q] at e; cases e
    | some ns =>
      rw [q] at e
      cases e
      obtain ⟨v, rfl, h1⟩ := one_of r
      obtain ⟨a, ys, rfl, h2, h3⟩ := rep_lst.mp h1
      have e1 := ints?_ok q
      subst e1
      have e2 := RepL.ints_of h3
      subst e2
      refine ⟨a, ns, rfl, Evl.ex_l w.sub (.inl (.inl h2)), fun ns' p pm srt hp => ?_⟩
      have e3 : ns' = sortInts ns := sorted_unique (pm.trans (sortInts_perm ns).symm) srt (sortInts_sorted ns)
      subst e3
      exact k _ _ _ (.alloc w.sub hp) (w.alloc hp) (rep_lst.mpr ⟨p, _, rfl, add_get, RepL.ints _⟩)
  · cases e
end
section
variable {Z : Wd} {N : List Str} {sc : Scope} {fn : Str → Bool} {k : Nat} {X : Cx} {B : Gd} {W : WX} {a b e : Expr} {es : List Expr} {fa fb fe : DE} {fr : DA} {pos p q : Pos}
theorem Cz.sorted (c : Cz Z N sc fn k X B W) (hm : Z.mg "sorted" = none) (hg : glB sc "sorted" = true) (ha : PDA X B W [e] fr) (he : starEach [e] X.env = (false, eval e X.env) :: starEach [] X.env := by rfl) : PD X B W (.Call (.Name "sorted" p) [e] [] pos) (clE sortO fr) :=
  c.blt cl_sortI cr_sortedI hm (by decide +kernel) hg ha (by decide) he
/-! list(range(..)) -/
def lrg1O : D → Option D
  | .int j => if -(2 ^ 62) ≤ j ∧ j < 2 ^ 62 ∧ j.toNat ≤ 2 ^ 24 then some (.lst (rngInts 0 j.toNat)) else none
  | _ => none
def lrg2O : D → D → Option D
  | .int i, .int j => if -(2 ^ 62) ≤ i ∧ i < 2 ^ 62 ∧ -(2 ^ 62) ≤ j ∧ j < 2 ^ 62 ∧ (j - i).toNat ≤ 2 ^ 24 then some (.lst (rngInts i (j - i).toNat)) else none
  | _, _ => none
theorem rgV_rep {K : PySem.W.Frag} {Ω : Om} (a b : Int) : RepL K Ω (rngInts a (b - a).toNat) (rgV a b) := by
  have : rngInts a (b - a).toNat = ((List.range (b - a).toNat).map fun i : Nat => a + (i : Nat)).map D.int := by unfold rngInts; rw [List.map_map]; rfl
  rw [this]
  have : rgV a b = ((List.range (b - a).toNat).map fun i : Nat => a + (i : Nat)).map V.int := by unfold rgV; rw [List.map_map]; rfl
  rw [this]
  exact RepL.ints _
theorem Cz.lrg1 (c : Cz Z N sc fn k X B W) {lp rp : Pos} (hm : Z.mg "list" = none) (hg : glB sc "list" = true) (hm2 : Z.mg "range" = none) (hg2 : glB sc "range" = true) (ha : PD X B W a fa)
    (na : starEach [a] X.env = (false, eval a X.env) :: starEach [] X.env := by rfl) (nb : starEach [.Call (.Name "range" rp) [a] [] q] X.env = (false, eval (.Call (.Name "range" rp) [a] [] q) X.env) :: starEach [] X.env := by rfl) :
    PD X B W (.Call (.Name "list" lp) [.Call (.Name "range" rp) [a] [] q] [] pos) (unE lrg1O fa) :=
  PE.weak (pe_listRg c.calm (c.gl hg).1 (c.nb hm) (prg_1 (c.gl hg2).1 (c.nb hm2) ha na) nb) fun σ H Q z => by
  obtain ⟨ρ, Ω, g, A, p⟩ := z
  unfold unE at p
  refine wE.run A (fun d1 g1 v1 Ω1 H1 e1 t1 w1 r1 => ?_) (fun x g1 cls dd Ω1 H1 e1 t1 w1 rx => by rw [e1] at p; exact p cls dd Ω1 H1 t1 w1 rx) (fun e1 => by rw [e1] at p; exact p.elim)
  rw [e1] at p
  simp only [Res.bind] at p
  cases d1 with
  | int j =>
    simp only [lrg1O] at p
    by_cases hj : -(2 ^ 62) ≤ j ∧ j < 2 ^ 62 ∧ j.toNat ≤ 2 ^ 24
    · rw [if_pos hj] at p
      refine ⟨j, rep_int.mp r1, ⟨by decide, by decide, hj.1, hj.2.1, by rw [Int.sub_zero]; exact hj.2.2⟩, fun l hl => p _ _ _ (t1.trans (.alloc w1.sub hl)) (w1.alloc hl) (rep_lst.mpr ⟨l, _, rfl, add_get, ?_⟩)⟩
      have := rgV_rep (K := X.K) (Ω := Ω1.add l (.lst (rgV 0 j))) 0 j
      rw [Int.sub_zero] at this
      exact this
    · rw [if_neg hj] at p; exact p.elim
  | _ => exact p.elim
theorem Cz.lrg2 (c : Cz Z N sc fn k X B W) {lp rp : Pos} (hm : Z.mg "list" = none) (hg : glB sc "list" = true) (hm2 : Z.mg "range" = none) (hg2 : glB sc "range" = true) (ha : PD X B W a fa) (hb : PD X B W b fb)
    (na : starEach [a, b] X.env = (false, eval a X.env) :: starEach [b] X.env := by rfl) (na2 : starEach [b] X.env = (false, eval b X.env) :: starEach [] X.env := by rfl) (hp : (backTo q (starEach [b] X.env)).any (·.1) = false := by rfl)
    (nb : starEach [.Call (.Name "range" rp) [a, b] [] q] X.env = (false, eval (.Call (.Name "range" rp) [a, b] [] q) X.env) :: starEach [] X.env := by rfl) :
    PD X B W (.Call (.Name "list" lp) [.Call (.Name "range" rp) [a, b] [] q] [] pos) (opE lrg2O fa fb) :=
  PE.weak (pe_listRg c.calm (c.gl hg).1 (c.nb hm) (prg_2 (c.gl hg2).1 (c.nb hm2) ha hb na na2 hp) nb) fun σ H Q z => by
  obtain ⟨ρ, Ω, g, A, p⟩ := z
  unfold opE at p
  refine wE.run A (fun d1 g1 v1 Ω1 H1 e1 t1 w1 r1 => ?_) (fun x g1 cls dd Ω1 H1 e1 t1 w1 rx => by rw [e1] at p; exact p cls dd Ω1 H1 t1 w1 rx) (fun e1 => by rw [e1] at p; exact p.elim)
  rw [e1] at p
  refine wE.run (A.go t1 w1) (fun d2 g2 v2 Ω2 H2 e2 t2 w2 r2 => ?_) (fun x g2 cls dd Ω2 H2 e2 t2 w2 rx => by simp only [Res.bind, e2] at p; exact p cls dd Ω2 H2 (t1.trans t2) w2 rx) (fun e2 => by simp only [Res.bind, e2] at p; exact p.elim)
  simp only [Res.bind, e2] at p
  cases d1 with
  | int i =>
    cases d2 with
    | int j =>
      simp only [lrg2O] at p
      by_cases hj : -(2 ^ 62) ≤ i ∧ i < 2 ^ 62 ∧ -(2 ^ 62) ≤ j ∧ j < 2 ^ 62 ∧ (j - i).toNat ≤ 2 ^ 24
      · rw [if_pos hj] at p
        exact ⟨i, j, rep_int.mp r1, rep_int.mp r2, hj, fun l hl => p _ _ _ ((t1.trans t2).trans (.alloc w2.sub hl)) (w2.alloc hl) (rep_lst.mpr ⟨l, _, rfl, add_get, rgV_rep i j⟩)⟩
      · rw [if_neg hj] at p; exact p.elim
    | _ => exact p.elim
  | _ => exact p.elim
/-! x = list(e): a list that the slot alone holds -/
def seqD : List D → Option (List D)
  | [.lst ds] => some ds
  | [.tup ds] => some ds
  | _ => none
def ownLS (i : Nat) (fr : DA) : DS := fun ρ g => match fr ρ g with
  | .ok ds g1 => (match seqD ds with
    | some es => .nx (ρ.set i (some (.own es))) g1
    | none => .bad)
  | .err x g1 => .err x ρ g1
  | .bad => .bad
theorem ownSlot {K : PySem.W.Frag} {ρ : Rho} {Ω : Om} {g : G} {σ : St} {H : Hp} {i : Nat} {l : Addr} {ds : List D} {vs : List V} (A : At K B ρ Ω g σ H) (hl : H l = none) (r : RepL K Ω ds vs) : At K B (ρ.set i (some (.own ds))) Ω g (σ.set i (some (.ref l))) (upd H l (.lst vs)) := by
  have t2 := Tr.loose (Ω := Ω) (o := .lst vs) hl
  have w2 := A.wf.loose (o := .lst vs) hl
  have A2 := A.go t2 w2
  refine ⟨A2.tr, A2.wf, A2.sl.own upd_same r ?_ ?_ ?_ ?_⟩
  · cases q : Ω.S l with
    | none => rfl
    | some u => rw [A.wf.sub l u q] at hl; cases hl
  · intro z
    obtain ⟨o, h⟩ := A.wf.ownSome z
    rw [hl] at h; cases h
  · exact A.tr.none_of hl
  · intro j xs _ hj hc
    obtain ⟨v, q1, q2⟩ := A.sl.get j _ hj
    rw [hc] at q1
    cases q1
    obtain ⟨a', ws, ea, g2, _⟩ := q2
    cases ea
    rw [hl] at g2; cases g2
theorem Cz.ownL (c : Cz Z N sc fn k X B W) (i : Nat) {x : Str} {pos' lp : Pos} (h : tgB N sc fn i x = true) (hm : Z.mg "list" = none) (hg : glB sc "list" = true) (ha : PDA X B W [e] fr)
    (he : starEach [e] X.env = (false, eval e X.env) :: starEach [] X.env := by rfl) (hs : swapsWith (.Call (.Name "list" lp) [e] [] q) (some (.Name x pos')) pos.line X.env = pure false := by rfl) :
    PDS X B W (.Assign [.Name x pos'] (.Call (.Name "list" lp) [e] [] q) pos) (ownLS i fr) := by
  obtain ⟨h1, h2, h3, h4⟩ := tgB_ok c h
  refine PS.weak (ps_set h1 h2 h3 (pe_callTy call_list_of (c.gl hg).1 (c.nb hm) PyProof.Rows.boot_list ha (by decide) (c.gl hg).2 he) hs h4) fun D σ H q => ?_
  obtain ⟨ρ, Ω, g, A, p⟩ := q
  unfold ownLS at p
  refine wA.run A (fun ds g1 vs Ω1 H1 e1 t1 w1 r1 => ?_) (fun x g1 cls dd Ω1 H1 e1 t1 w1 rx => by rw [e1] at p; exact p cls dd σ Ω1 H1 t1.gr (A.go t1 w1) rx) (fun e1 => by rw [e1] at p; exact p.elim)
  rw [e1] at p
  simp only at p
  cases hq : seqD ds with
  | none => rw [hq] at p; exact p.elim
  | some es =>
    rw [hq] at p
    unfold seqD at hq
    split at hq
    · cases hq
      obtain ⟨v, rfl, k1⟩ := one_of r1
      obtain ⟨a, ys, rfl, k2, k3⟩ := rep_lst.mp k1
      exact ⟨a, ys, rfl, .inl (Evl.ex_l w1.sub (.inl (.inl k2))), fun l hl => p _ Ω1 _ t1.gr (ownSlot (A.go t1 w1) hl k3)⟩
    · cases hq
      obtain ⟨v, rfl, k1⟩ := one_of r1
      obtain ⟨a, ys, rfl, k2, k3⟩ := rep_tup.mp k1
      exact ⟨a, ys, rfl, .inr (Evl.ex_t w1.sub k2), fun l hl => p _ Ω1 _ t1.gr (ownSlot (A.go t1 w1) hl k3)⟩
    · cases hq
/-! x, y = [..], e: x a list that the slot alone holds -/
def ownParS (i j : Nat) (fr : DA) (fe : DE) : DS := fun ρ g => match fr ρ g with
  | .ok ds g1 => if ds.length ≤ sizeLine then (match fe ρ g1 with
      | .ok d g2 => .nx ((ρ.set i (some (.own ds))).set j (some (.dat d))) g2
      | .err x g2 => .err x ρ g2
      | .bad => .bad) else .bad
  | .err x g1 => .err x ρ g1
  | .bad => .bad
theorem Cz.ownPar (c : Cz Z N sc fn k X B W) (i j : Nat) {x y : Str} {px py pt lp : Pos} {kt k2 pt2} (h : parB N sc i j x y = true) (ha : PDA X B W es fr) (hb : PD X B W e fe)
    (hw : swappedStores [.Tuple [.Name x px, .Name y py] kt pt] (.Tuple [.List es lp, e] k2 pt2) (envS sc) = pure (some [x, y]))
    (hs : swapsWithSole [.Tuple [.Name x px, .Name y py] kt pt] (.Tuple [.List es lp, e] k2 pt2) pos.line X.env = pure false := by rfl)
    (n1 : starEach [.List es lp, e] X.env = (false, eval (.List es lp) X.env) :: starEach [e] X.env := by rfl) (n2 : starEach [e] X.env = (false, eval e X.env) :: starEach [] X.env := by rfl) :
    PDS X B W (.Assign [.Tuple [.Name x px, .Name y py] kt pt] (.Tuple [.List es lp, e] k2 pt2) pos) (ownParS i j fr fe) := by
  obtain ⟨h1, h2, h3, h4, h5⟩ := parB_of h
  refine PS.weak (ps_par c.calm (by rw [c.eN]; exact c.nd) (by rw [c.eN]; exact h1) (by rw [c.eN]; exact h2) h3 (by rw [c.esc]; exact h4) (by rw [c.esc]; exact h5) (pa_cons (pe_lst ha) (pa_cons hb pa_nil n2) n1) ((swapped_env c.esc).trans hw) hs) fun D σ H q => ?_
  obtain ⟨ρ, Ω, g, A, p⟩ := q
  unfold ownParS at p
  refine wA.run A (fun ds g1 vs Ω1 H1 e1 t1 w1 r1 => ?_) (fun x g1 cls dd Ω1 H1 e1 t1 w1 rx => by rw [e1] at p; exact p cls dd σ Ω1 H1 t1.gr (A.go t1 w1) rx) (fun e1 => by rw [e1] at p; exact p.elim)
  rw [e1] at p
  simp only at p
  split at p
  · rename_i hl
    refine ⟨by rw [← r1.length]; exact hl, fun l hl0 => ?_⟩
    have A1 := A.go t1 w1
    have t2 := Tr.loose (Ω := Ω1) (o := .lst vs) hl0
    have w2 := w1.loose (o := .lst vs) hl0
    have nS : Ω1.S l = none := by
      cases q : Ω1.S l with
      | none => rfl
      | some u => rw [w1.sub l u q] at hl0; cases hl0
    have nO : ¬ Ω1.Own l := fun z => by
      obtain ⟨o, h⟩ := w1.ownSome z
      rw [hl0] at h; cases h
    refine wE.run (A1.go t2 w2) (fun d g2 v Ω2 H2 e2 t3 w3 r2 => ?_) (fun x g2 cls dd Ω2 H2 e2 t3 w3 rx => by rw [e2] at p; exact p cls dd σ Ω2 H2 (t1.gr.trans t3.gr) ((A1.go t2 w2).go t3 w3) rx) (fun e2 => by rw [e2] at p; exact p.elim)
    rw [e2] at p
    have A3 := (A1.go t2 w2).go t3 w3
    obtain ⟨k1, k2, k3⟩ := t3.loosek upd_same nS nO
    refine ⟨.ref l, v, rfl, p _ Ω2 _ (t1.gr.trans t3.gr) ⟨A3.tr, A3.wf, (A3.sl.own k1 (RepL.mono t3.gr _ _ r1) k2 k3 (A1.tr.none_of hl0) ?_).set r2⟩⟩
    intro m xs _ hj hc
    obtain ⟨u, q1, q2⟩ := A1.sl.get m _ hj
    rw [hc] at q1
    cases q1
    obtain ⟨a', ws, ea, g2', _⟩ := q2
    cases ea
    rw [hl0] at g2'; cases g2'
  · exact p.elim
end
end TS
/-! Comprehensions with two fors. -/
namespace TS
open PySem L2
open Evl (Ex)
def lc2L (t : Tg) (ft : DT) (fi1 : DA) (vs1 : List Nat) (t1 : Tg) (ft1 : DT) (fe : DE) (ρ : Rho) : List D → G → Res (List D)
  | [], g => .ok [] g
  | d :: ds, g => match t.put d ρ with
    | none => .bad
    | some ρ1 => match ft ρ1 g with
      | .ok true g1 => (match fi1 ρ1 g1 with
        | .ok es g2 => (match lcL t1 ft1 fe (wipeR ρ1 vs1) es g2 with
          | .ok r g3 => (match lc2L t ft fi1 vs1 t1 ft1 fe ρ ds g3 with
            | .ok r2 g4 => .ok (r ++ r2) g4
            | _ => .bad)
          | _ => .bad)
        | _ => .bad)
      | .ok false g1 => lc2L t ft fi1 vs1 t1 ft1 fe ρ ds g1
      | _ => .bad
theorem lc2L_cons {t : Tg} {ft : DT} {fi1 : DA} {vs1 : List Nat} {t1 : Tg} {ft1 : DT} {fe : DE} {ρ : Rho} (d : D) (ds : List D) (g : G) : lc2L t ft fi1 vs1 t1 ft1 fe ρ (d :: ds) g = (match t.put d ρ with
    | none => .bad
    | some ρ1 => match ft ρ1 g with
      | .ok true g1 => (match fi1 ρ1 g1 with
        | .ok es g2 => (match lcL t1 ft1 fe (wipeR ρ1 vs1) es g2 with
          | .ok r g3 => (match lc2L t ft fi1 vs1 t1 ft1 fe ρ ds g3 with
            | .ok r2 g4 => .ok (r ++ r2) g4
            | _ => .bad)
          | _ => .bad)
        | _ => .bad)
      | .ok false g1 => lc2L t ft fi1 vs1 t1 ft1 fe ρ ds g1
      | _ => .bad) := rfl
/-- no slot alone holds a list -/
def noOwn (ρ : Rho) : Bool := ρ.all fun o => match o with
  | some (.own _) => false
  | _ => true
def lc2E (fi : DA) (vs : List Nat) (t : Tg) (ft : DT) (fi1 : DA) (vs1 : List Nat) (t1 : Tg) (ft1 : DT) (fe : DE) : DE := fun ρ g => if noOwn ρ = true then (match fi ρ g with
  | .ok ds g1 => (match lc2L t ft fi1 vs1 t1 ft1 fe (wipeR ρ vs) ds g1 with
    | .ok r g2 => if r.length ≤ sizeLine then .ok (.lst r) g2 else .bad
    | _ => .bad)
  | .err x g1 => .err x g1
  | .bad => .bad) else .bad
theorem noOwn_at {ρ : Rho} (h : noOwn ρ = true) {i : Nat} {x : SV} (e : ρ[i]? = some (some x)) : ∃ d, x = .dat d := by
  unfold noOwn at h
  rw [List.all_eq_true] at h
  have := h _ (List.mem_of_getElem? e)
  cases x with
  | dat d => exact ⟨d, rfl⟩
  | own ds => cases this
theorem noOwn_set {ρ : Rho} (h : noOwn ρ = true) (i : Nat) {o : Option SV} (ho : ∀ ds, o ≠ some (.own ds)) : noOwn (ρ.set i o) = true := by
  unfold noOwn at *
  rw [List.all_eq_true] at *
  intro x hx
  rcases List.mem_or_eq_of_mem_set hx with q | q
  · exact h x q
  · subst q
    cases x with
    | none => rfl
    | some y =>
      cases y with
      | dat d => rfl
      | own ds => exact absurd rfl (ho ds)
theorem noOwn_wipe {ρ : Rho} (h : noOwn ρ = true) : ∀ vs : List Nat, noOwn (wipeR ρ vs) = true
  | [] => h
  | v :: vs => by unfold wipeR; exact noOwn_set (noOwn_wipe h vs) v (fun ds z => by cases z)
theorem noOwn_putAll : ∀ (is : List Nat) (ds : List D) {ρ : Rho}, noOwn ρ = true → noOwn (putAll is ds ρ) = true
  | [], _, _, h => by unfold putAll; exact h
  | i :: is, [], _, h => by unfold putAll; exact h
  | i :: is, d :: ds, ρ, h => by unfold putAll; exact noOwn_putAll is ds (noOwn_set h i (fun ds z => by cases z))
theorem noOwn_put {ρ ρ' : Rho} {t : Tg} {d : D} (h : noOwn ρ = true) (e : t.put d ρ = some ρ') : noOwn ρ' = true := by
  cases t with
  | one i => cases e; exact noOwn_set h i (fun ds z => by cases z)
  | many is =>
    cases d with
    | tup ds =>
      have e : (if is.length = ds.length then some (putAll is ds ρ) else none) = some ρ' := e
      split at e
      · cases e; exact noOwn_putAll is ds h
      · cases e
    | _ => cases e
theorem slots_dat {K : PySem.W.Frag} {H0 : Hp} {ρ : Rho} {Ω Ω' : Om} {H H' : Hp} {σ : St} (n : noOwn ρ = true) (s : Slots K H0 ρ Ω H σ) (gr : Gr Ω Ω') : Slots K H0 ρ Ω' H' σ :=
  ⟨s.len, fun i x h => by
    obtain ⟨v, h1, h2⟩ := s.get i x h
    obtain ⟨d, rfl⟩ := noOwn_at n h
    exact ⟨v, h1, Rep.mono gr d v h2⟩, fun i j x y v h1 _ _ _ => by
    obtain ⟨d, z⟩ := noOwn_at n h1
    cases z⟩
theorem wipe_idem {σ : St} {vs : List Nat} : ∀ us : List Nat, (∀ i ∈ us, i ∈ vs) → wipe (wipe σ vs) us = wipe σ vs := by
  intro us
  induction us with
  | nil => intro _; rfl
  | cons u us ih =>
    intro hu
    show (wipe (wipe σ vs) us).set u none = wipe σ vs
    rw [ih fun j hj => hu j (List.mem_cons_of_mem _ hj)]
    have hu' := hu u List.mem_cons_self
    apply List.ext_getElem?
    intro j
    by_cases z : u = j
    · subst z
      by_cases hlen : u < (wipe σ vs).length
      · rw [List.getElem?_set_self hlen]
        cases q : (wipe σ vs)[u]? with
        | none => rw [List.getElem?_eq_none_iff] at q; omega
        | some o =>
          cases o with
          | none => rfl
          | some v =>
            obtain ⟨_, h2⟩ := wipe_some q
            exact absurd hu' h2
      · rw [List.set_eq_of_length_le (by omega)]
    · rw [List.getElem?_set_ne z]
section
variable {X : Cx} {B : Gd} {W : WX} {tg iter elt tg1 iter1 : Expr} {ifs ifs1 : List Expr} {scope : Scope} {own : List (Str × Nat)} {fi fi1 : DA} {t t1 : Tg} {ft ft1 : DT} {fe : DE} {pos : Pos}
theorem lc2_weak {vs vs1 : List Nat} (hv : ∀ i ∈ t.names, i ∈ vs) (hv1 : ∀ i ∈ t1.names, i ∈ vs1) {σ : St} {H : Hp} {Q : VK} (q : wE X.K B W (lc2E fi vs t ft fi1 vs1 t1 ft1 fe) σ H Q) :
    tLc2 (wI X.K B W fi) (gT X.K t) (wT X.K B W0 ft) (wI X.K B W0 fi1) (gT X.K t1) (wT X.K B W0 ft1) (wE X.K B W0 fe) vs vs1 σ H Q := by
  obtain ⟨ρ, Ω, g, A, p⟩ := q
  unfold lc2E at p
  split at p
  case isFalse => exact p.elim
  case isTrue hno =>
  refine ⟨ρ, Ω, g, A, ?_⟩
  cases e : fi ρ g with
  | bad => rw [e] at p; exact p.elim
  | err x g1 => rw [e] at p; exact p
  | ok ds g1 =>
    rw [e] at p
    simp only at p ⊢
    intro J Ω1 H1 tr1 w1 wk L hL
    cases e2 : lc2L t ft fi1 vs1 t1 ft1 fe (wipeR ρ vs) ds g1 with
    | bad => rw [e2] at p; exact p.elim
    | err x g2 => rw [e2] at p; exact p.elim
    | ok r g2 =>
      rw [e2] at p
      simp only at p
      split at p
      case isFalse => exact p.elim
      case isTrue hr =>
      have nOwn : ¬ Ω1.Own L := fun z => by
        obtain ⟨o, h⟩ := w1.ownSome z
        rw [hL] at h; cases h
      have nS : Ω1.S L = none := by
        cases q : Ω1.S L with
        | none => rfl
        | some u => rw [w1.sub L u q] at hL; cases hL
      refine ⟨fun i m H' => m = ds.length - i ∧ i ≤ ds.length ∧ ∃ Ω' g' acc accD rest, Tr Ω1 H1 Ω' H' ∧ Wf g' Ω' H' ∧ H' L = some (.lst acc) ∧ Ω'.S L = none ∧ ¬ Ω'.Own L ∧ RepL X.K Ω' accD acc ∧ lc2L t ft fi1 vs1 t1 ft1 fe (wipeR ρ vs) (ds.drop i) g' = .ok rest g2 ∧ accD ++ rest = r,
        ⟨ds.length, by simp, Nat.zero_le _, Ω1, g1, [], [], r, .loose hL, w1.loose hL, upd_same, nS, nOwn, .nil, e2, rfl⟩, ?_⟩
      rintro i m H2 ⟨rfl, hi, Ω2, g3, acc, accD, rest, t2, w2, hD, sD, nD, rD, el, er⟩
      have ex2 : Ex Ω1.S H2 := t2.gr.s.trans w2.sub
      by_cases hlt : i < ds.length
      · refine .inr ⟨wk.goes i H2 hlt ex2, fun H' => ∃ Ω' g' acc accD rest, Tr Ω1 H1 Ω' H' ∧ Wf g' Ω' H' ∧ H' L = some (.lst acc) ∧ Ω'.S L = none ∧ ¬ Ω'.Own L ∧ RepL X.K Ω' accD acc ∧ lc2L t ft fi1 vs1 t1 ft1 fe (wipeR ρ vs) (ds.drop (i + 1)) g' = .ok rest g2 ∧ accD ++ rest = r,
          fun H' h => ⟨ds.length - (i + 1), by omega, rfl, hlt, h⟩, fun x H3 y => ?_⟩
        have hd : ds[i]? = some ds[i] := List.getElem?_eq_getElem hlt
        obtain ⟨Ω3, t3, w3, r3⟩ := wk.yields i H2 x H3 _ hd ex2 y Ω2 g3 t2.gr w2
        rw [List.drop_eq_getElem_cons hlt, lc2L_cons] at el
        cases e3 : t.put ds[i] (wipeR ρ vs) with
        | none => rw [e3] at el; cases el
        | some ρ3 =>
          rw [e3] at el
          simp only at el
          have no3 : noOwn ρ3 = true := noOwn_put (noOwn_wipe hno vs) e3
          have A3 : At X.K B (wipeR ρ vs) Ω3 g3 (wipe σ vs) H3 := by
            have q := (A.go tr1 w1).go (t2.trans t3) w3
            exact ⟨q.tr, q.wf, q.sl.wipe vs⟩
          obtain ⟨hD3, sD3, nD3⟩ := t3.loosek hD sD nD
          refine gT_ok A3.wf A3.sl r3 e3 fun σ3 s3 ws => ⟨?_, ?_⟩
          · rw [ws vs hv]
            exact wipe_idem vs fun _ h => h
          have A3' : At X.K B ρ3 Ω3 g3 σ3 H3 := ⟨A3.tr, A3.wf, s3⟩
          refine wT.run A3' (fun b g4 Ω4 H4 e4 t4 w4 => ?_) (fun x g4 cls dd Ω4 H4 e4 _ _ _ => by rw [e4] at el; cases el) (fun e4 => by rw [e4] at el; cases el)
          obtain ⟨hD4, sD4, nD4⟩ := t4.loosek hD3 sD3 nD3
          rw [e4] at el
          cases b with
          | false => exact ⟨Ω4, g4, acc, accD, rest, t2.trans (t3.trans t4), w4, hD4, sD4, nD4, RepL.mono (t3.trans t4).gr _ _ rD, el, er⟩
          | true =>
            simp only at el
            show wI X.K B W0 fi1 σ3 H4 _
            have A4 := A3'.go t4 w4
            refine ⟨ρ3, Ω4, g4, A4, ?_⟩
            cases e5 : fi1 ρ3 g4 with
            | bad => rw [e5] at el; cases el
            | err x g5 => rw [e5] at el; cases el
            | ok es g5 =>
              rw [e5] at el
              simp only at el ⊢
              intro J1 Ω5 H5 t5 w5 wk1
              obtain ⟨hD5, sD5, nD5⟩ := t5.loosek hD4 sD4 nD4
              cases e6 : lcL t1 ft1 fe (wipeR ρ3 vs1) es g5 with
              | bad => rw [e6] at el; cases el
              | err x g6 => rw [e6] at el; cases el
              | ok ri g6 =>
                rw [e6] at el
                simp only at el
                cases e7 : lc2L t ft fi1 vs1 t1 ft1 fe (wipeR ρ vs) (ds.drop (i + 1)) g6 with
                | bad => rw [e7] at el; cases el
                | err x g7 => rw [e7] at el; cases el
                | ok r2 g7 =>
                  rw [e7] at el
                  cases el
                  refine ⟨fun j k H' => k = es.length - j ∧ j ≤ es.length ∧ ∃ Ω' g' acc' accD' restI, Tr Ω1 H1 Ω' H' ∧ Gr Ω5 Ω' ∧ Wf g' Ω' H' ∧ H' L = some (.lst acc') ∧ Ω'.S L = none ∧ ¬ Ω'.Own L ∧ RepL X.K Ω' accD' acc' ∧ lcL t1 ft1 fe (wipeR ρ3 vs1) (es.drop j) g' = .ok restI g6 ∧ accD' ++ (restI ++ r2) = r,
                    ⟨es.length, by simp, Nat.zero_le _, Ω5, g5, acc, accD, ri, t2.trans (t3.trans (t4.trans t5)), .refl _, w5, hD5, sD5, nD5, RepL.mono (t3.trans (t4.trans t5)).gr _ _ rD, e6, er⟩, ?_⟩
                  rintro j k H6 ⟨rfl, hj, Ω6, g8, acc6, accD6, restI, t6, gr6, w6, hD6, sD6, nD6, rD6, el6, er6⟩
                  have ex6 : Ex Ω5.S H6 := gr6.s.trans w6.sub
                  by_cases hlt1 : j < es.length
                  · refine .inr ⟨wk1.goes j H6 hlt1 ex6, fun H' => ∃ Ω' g' acc' accD' restI, Tr Ω1 H1 Ω' H' ∧ Gr Ω5 Ω' ∧ Wf g' Ω' H' ∧ H' L = some (.lst acc') ∧ Ω'.S L = none ∧ ¬ Ω'.Own L ∧ RepL X.K Ω' accD' acc' ∧ lcL t1 ft1 fe (wipeR ρ3 vs1) (es.drop (j + 1)) g' = .ok restI g6 ∧ accD' ++ (restI ++ r2) = r,
                      fun H' h => ⟨es.length - (j + 1), by omega, rfl, hlt1, h⟩, fun x1 H7 y1 => ?_⟩
                    have hd1 : es[j]? = some es[j] := List.getElem?_eq_getElem hlt1
                    obtain ⟨Ω7, t7, w7, r7⟩ := wk1.yields j H6 x1 H7 _ hd1 ex6 y1 Ω6 g8 gr6 w6
                    rw [List.drop_eq_getElem_cons hlt1, lcL_cons] at el6
                    cases e8 : t1.put es[j] (wipeR ρ3 vs1) with
                    | none => rw [e8] at el6; cases el6
                    | some ρ7 =>
                      rw [e8] at el6
                      simp only at el6
                      have grA : Gr Ω4 Ω7 := t5.gr.trans (gr6.trans t7.gr)
                      have A7 : At X.K B (wipeR ρ3 vs1) Ω7 g8 (wipe σ3 vs1) H7 :=
                        ⟨A.tr.trans (tr1.trans (t6.trans t7)), w7, (slots_dat no3 A4.sl grA).wipe vs1⟩
                      obtain ⟨hD7, sD7, nD7⟩ := t7.loosek hD6 sD6 nD6
                      refine gT_ok A7.wf A7.sl r7 e8 fun σ7 s7 ws7 => ⟨?_, ?_⟩
                      · rw [ws7 vs1 hv1]
                        exact wipe_idem vs1 fun _ h => h
                      have A7' : At X.K B ρ7 Ω7 g8 σ7 H7 := ⟨A7.tr, A7.wf, s7⟩
                      refine wT.run A7' (fun b g9 Ω9 H9 e9 t9 w9 => ?_) (fun x g9 cls dd Ω9 H9 e9 _ _ _ => by rw [e9] at el6; cases el6) (fun e9 => by rw [e9] at el6; cases el6)
                      obtain ⟨hD9, sD9, nD9⟩ := t9.loosek hD7 sD7 nD7
                      rw [e9] at el6
                      cases b with
                      | false => exact ⟨Ω9, g9, acc6, accD6, restI, t6.trans (t7.trans t9), gr6.trans (t7.trans t9).gr, w9, hD9, sD9, nD9, RepL.mono (t7.trans t9).gr _ _ rD6, el6, er6⟩
                      | true =>
                        simp only at el6
                        show wE X.K B W0 fe σ7 H9 _
                        refine wE.run (A7'.go t9 w9) (fun y g10 v10 Ω10 H10 e10 t10 w10 r10 => ?_) (fun x g10 cls dd Ω10 H10 e10 _ _ _ => by rw [e10] at el6; cases el6) (fun e10 => by rw [e10] at el6; cases el6)
                        rw [e10] at el6
                        simp only at el6
                        cases e11 : lcL t1 ft1 fe (wipeR ρ3 vs1) (es.drop (j + 1)) g10 with
                        | bad => rw [e11] at el6; cases el6
                        | err x g11 => rw [e11] at el6; cases el6
                        | ok r11 g11 =>
                          rw [e11] at el6
                          cases el6
                          obtain ⟨hD10, sD10, nD10⟩ := t10.loosek hD9 sD9 nD9
                          have rD10 := RepL.mono (t7.trans (t9.trans t10)).gr _ _ rD6
                          have hlen : acc6.length < sizeLine := by
                            have := rD6.length
                            have h2 : (accD6 ++ (y :: r11 ++ r2)).length = r.length := by rw [er6]
                            simp at h2
                            omega
                          refine ⟨acc6, hD10, hlen, Ω10, g10, acc6 ++ [v10], accD6 ++ [y], r11, (t6.trans (t7.trans (t9.trans t10))).mut hL, gr6.trans (t7.trans (t9.trans t10)).gr, w10.upd sD10 nD10, upd_same, sD10, nD10, rD10.app (.cons r10 .nil), e11, ?_⟩
                          rw [List.append_assoc]
                          exact er6
                  · have e5' : j = es.length := by omega
                    subst e5'
                    rw [List.drop_length] at el6
                    cases el6
                    exact .inl ⟨wk1.stops H6 ex6, Ω6, _, acc6, accD6, r2, t6, w6, hD6, sD6, nD6, rD6, e7, er6⟩
      · have e5 : i = ds.length := by omega
        subst e5
        rw [List.drop_length] at el
        cases el
        rw [List.append_nil] at er
        subst er
        refine .inl ⟨wk.stops H2 ex2, p _ (Ω2.add L (.lst acc)) H2 (tr1.trans (t2.freeze hL sD)) (w2.freeze hD nD) (rep_lst.mpr ⟨L, acc, rfl, add_get, RepL.mono (Gr.add sD) _ _ rD⟩)⟩
end
section
variable {Z : Wd} {N : List Str} {sc : Scope} {fn : Str → Bool} {k : Nat} {X : Cx} {B : Gd} {W : WX}
theorem Cz.setLc2 (c : Cz Z N sc fn k X B W) (i : Nat) (own : List (Str × Nat)) (vs1 : List Nat) {y : Str} {tg iter elt tg1 iter1 : Expr} {ifs ifs1 : List Expr} {scope : Scope} {fi fi1 : DA} {t t1 : Tg} {ft ft1 : DT} {fe : DE} {pos py spos : Pos} (hy : setB N sc scope i y py.line pos.line = true) (ok : blkC N sc scope own = true) (hi : PDI X B W tg iter fi)
    (hb : ∀ X' B', Cz Z N (relS scope sc) (fun x => scope.names.lookup x == some .cell) k X' B' W0 → PDG X' tg t ∧ PDTs X' B' W0 ifs ft ∧ PDI X' B' W0 tg1 iter1 fi1 ∧ PDG X' tg1 t1 ∧ PDTs X' B' W0 ifs1 ft1 ∧ PD X' B' W0 elt fe)
    (hv : (t.names.all fun i => (own.map (·.2)).contains i) = true) (hv1 : (t1.names.all fun i => vs1.contains i) = true) (hv2 : (vs1.all fun i => (own.map (·.2)).contains i) = true) (hs : ∀ x, foldedSetIterable iter X.env x = pure x := by intro _; rfl) (hs1 : ∀ env x, foldedSetIterable iter1 env x = pure x := by intro _ _; rfl) :
    PDS X B W (.Assign [.Name y py] (.ListComp elt [⟨tg, iter, ifs, 0⟩, ⟨tg1, iter1, ifs1, 0⟩] scope pos) spos) (asgS (.one i) (lc2E fi (own.map (·.2)) t ft fi1 vs1 t1 ft1 fe)) := by
  unfold setB at hy
  simp only [Bool.and_eq_true, decide_eq_true_eq, Bool.not_eq_true'] at hy
  obtain ⟨⟨⟨⟨h1, h2⟩, h3⟩, h4⟩, h5⟩ := hy
  have h2' : sc.names.lookup y = some .local := by split at h2; assumption; cases h2
  have h3' : sc.kind = .function := by split at h3; assumption; cases h3
  refine PS.weak (ps_setLc2 (g := gT X.K t) (tt := wT X.K B W0 ft) (wi1 := wI X.K B W0 fi1) (g1 := gT X.K t1) (tt1 := wT X.K B W0 ft1) (te := wE X.K B W0 fe) c.calm (by rw [c.eN]; exact c.nd) (by rw [c.eN]; exact h1) (by rw [c.esc]; exact h2') (sw_true (by rw [c.esc]; exact h3') (by rw [c.esc]; exact h2') h4 h5) hi (by rw [c.eN, c.esc]; exact blkOk_by ok)
    (fun i hi => by simpa using List.all_eq_true.mp hv2 i hi) (fun s H C cl fp => (hb _ _ (c.blk scope s H C cl fp)).1) (fun s H C cl fp => (hb _ _ (c.blk scope s H C cl fp)).2.1) (fun s H C cl fp => (hb _ _ (c.blk scope s H C cl fp)).2.2.1) (fun s H C cl fp => (hb _ _ (c.blk scope s H C cl fp)).2.2.2.1) (fun s H C cl fp => (hb _ _ (c.blk scope s H C cl fp)).2.2.2.2.1) (fun s H C cl fp => (hb _ _ (c.blk scope s H C cl fp)).2.2.2.2.2) hs hs1)
    fun D σ H q => asg_weak (t := .one i) (fun _ q => lc2_weak (fun i hi => by simpa using List.all_eq_true.mp hv i hi) (fun i hi => by simpa using List.all_eq_true.mp hv1 i hi) q) q
end
end TS
/-! min and sorted of data that can be compared, index, any, all. -/
namespace TS
open PySem L2
open Evl (Ex)
open PySem.W (alike alikeAll dataLt AlikeAll minD AllAlike Sortable EachIs dataLe)
mutual
def ofP : PyData → D
  | .none => .non
  | .bool b => .bl b
  | .int i => .int i
  | .str x => .str x
  | .tuple ps => .tup (ofPs ps)
  | .list ps => .lst (ofPs ps)
  | .dict _ => .non
def ofPs : List PyData → List D
  | [] => []
  | p :: ps => ofP p :: ofPs ps
end
mutual
theorem ofP_toP : ∀ (d : D) (p : PyData), toP d = some p → ofP p = d
  | .non, p, h => by cases h; simp [ofP]
  | .bl b, p, h => by cases h; simp [ofP]
  | .int b, p, h => by cases h; simp [ofP]
  | .str b, p, h => by cases h; simp [ofP]
  | .tup ds, p, h => by
    unfold toP at h
    cases q : toPs ds with
    | none => rw [q] at h; cases h
    | some ps => rw [q] at h; cases h; unfold ofP; rw [ofPs_toPs ds ps q]
  | .lst ds, p, h => by
    unfold toP at h
    cases q : toPs ds with
    | none => rw [q] at h; cases h
    | some ps => rw [q] at h; cases h; unfold ofP; rw [ofPs_toPs ds ps q]
  | .gen, p, h => by cases h
  | .scr _, p, h => by cases h
theorem ofPs_toPs : ∀ (ds : List D) (ps : List PyData), toPs ds = some ps → ofPs ps = ds
  | [], ps, h => by unfold toPs at h; cases h; simp [ofPs]
  | d :: ds, ps, h => by
    unfold toPs at h
    cases q : toP d with
    | none => rw [q] at h; cases h
    | some p =>
      rw [q] at h
      cases q2 : toPs ds with
      | none => rw [q2] at h; cases h
      | some r =>
        rw [q2] at h
        cases h
        unfold ofPs
        rw [ofP_toP d p q, ofPs_toPs ds r q2]
end
theorem toPs_get : ∀ {ds : List D} {ps : List PyData} {i : Nat} {p : PyData}, toPs ds = some ps → ps[i]? = some p → ∃ d, ds[i]? = some d ∧ toP d = some p
  | [], ps, i, p, h, e => by unfold toPs at h; cases h; simp at e
  | d :: ds, ps, i, p, h, e => by
    unfold toPs at h
    cases q : toP d with
    | none => rw [q] at h; cases h
    | some p0 =>
      rw [q] at h
      cases q2 : toPs ds with
      | none => rw [q2] at h; cases h
      | some r =>
        rw [q2] at h
        cases h
        cases i with
        | zero => simp at e; subst e; exact ⟨d, rfl, q⟩
        | succ i =>
          obtain ⟨d', h1, h2⟩ := toPs_get (i := i) q2 (by simpa using e)
          exact ⟨d', by simpa using h1, h2⟩
theorem toPs_length : ∀ {ds : List D} {ps : List PyData}, toPs ds = some ps → ds.length = ps.length
  | [], ps, h => by unfold toPs at h; cases h; rfl
  | d :: ds, ps, h => by
    unfold toPs at h
    cases q : toP d with
    | none => rw [q] at h; cases h
    | some p0 =>
      rw [q] at h
      cases q2 : toPs ds with
      | none => rw [q2] at h; cases h
      | some r => rw [q2] at h; cases h; simp [toPs_length q2]
def isNoneP : PyData → Bool
  | .none => true
  | _ => false
def alikeB (ps : List PyData) : Bool := ps.all (fun x => ps.all fun y => alike x y) && ps.all fun x => !isNoneP x
theorem alikeB_ok {ps : List PyData} (h : alikeB ps = true) : AlikeAll ps := by
  unfold alikeB at h
  rw [Bool.and_eq_true, List.all_eq_true, List.all_eq_true] at h
  refine ⟨fun x hx y hy => ?_, fun x hx z => ?_⟩
  · have := h.1 x hx
    rw [List.all_eq_true] at this
    exact this y hy
  · have := h.2 x hx
    rw [z] at this
    cases this
/-- min(xs), xs a list of data that can be compared -/
def rMinD (K : PySem.W.Frag) : List V → Hp → VK → Prop := fun vs H Q => ∃ (a : Addr) (xs : List V) (p : PyData) (ps : List PyData), vs = [.ref a] ∧ SqL K H a xs ∧ DpAll K H xs (p :: ps) ∧ AlikeAll (p :: ps) ∧ PyData.depthAll (p :: ps) ≤ 60 ∧ ∀ (i : Nat) v, xs[i]? = some v → (p :: ps)[i]? = some (minD p ps) → Q v H
theorem minD_mem (p : PyData) : ∀ (ps : List PyData), minD p ps ∈ p :: ps := by
  intro ps
  unfold minD
  induction ps generalizing p with
  | nil => simp
  | cons q qs ih =>
    rw [List.foldl_cons]
    have := ih (if dataLt q p = true then q else p)
    rcases List.mem_cons.mp this with z | z
    · rw [z]
      split <;> simp
    · exact List.mem_cons_of_mem _ (List.mem_cons_of_mem _ z)
section
variable {X : Cx}
theorem dpAll_get {K : PySem.W.Frag} {H : Hp} : ∀ {xs : List V} {ps : List PyData} {i : Nat} {v : V}, DpAll K H xs ps → xs[i]? = some v → ∃ p, ps[i]? = some p ∧ Dp K H v p
  | [], _, i, v, h, e => by simp at e
  | x :: xs, _, 0, v, .cons h1 h2, e => by simp at e; subst e; exact ⟨_, rfl, h1⟩
  | x :: xs, _, i + 1, v, .cons h1 h2, e => by
    obtain ⟨p, q1, q2⟩ := dpAll_get (i := i) h2 (by simpa using e)
    exact ⟨p, by simpa using q1, q2⟩
theorem vals_getv : ∀ {xs : List V} {us : List Value} {i : Nat} {u : Value}, Vals xs us → us[i]? = some u → ∃ x, xs[i]? = some x ∧ RelV x u
  | _, [], i, u, _, e => by simp at e
  | _, u0 :: us, 0, u, .cons h1 h2, e => by simp at e; subst e; exact ⟨_, rfl, h1⟩
  | _, u0 :: us, i + 1, u, .cons h1 h2, e => by
    obtain ⟨x, q1, q2⟩ := vals_getv (i := i) h2 (by simpa using e)
    exact ⟨x, by simpa using q1, q2⟩
theorem cr_minD (hc : X.calm = true) (hu : X.A.units + 70 < cLine) : CallR X (.builtin "min") (rMinD X.K) := by
  intro pins s σ H vs us Q I r h
  obtain ⟨a, xs, p, ps, rfl, hs, hd, ha, hdep, q⟩ := h
  obtain ⟨its, rv, hl, _⟩ := I.list hs
  rw [Vals.ref1 r]
  obtain ⟨as, hr⟩ := Dp.readsAll I (p :: ps) xs its hd rv
  refine PySem.W.min_list_data (I.ok.hd hc) hl.isList (x := p) (xs := ps) (as := as) (by simpa using hr) ha (by omega) fun i v h' tk bs hi hrd hk => ?_
  obtain ⟨x, hx, rx⟩ := vals_getv (i := i) rv (by simpa using hi)
  refine ⟨x, H, I.kept hk, rx, q i x hx ?_⟩
  obtain ⟨p', hp', dp'⟩ := dpAll_get hd hx
  obtain ⟨bs', r1⟩ := Dp.reads I p' x v dp' rx
  have r2 := PyProof.Rows.Reads.keeps hk r1
  have e : p' = minD p ps := PySem.W.alike_unique p' (minD p ps) v bs' bs (ha.1 p' (List.mem_of_getElem? hp') _ (minD_mem p ps)) r2 hrd
  rw [hp', e]
end
def minDO : List D → Option D
  | [.lst ds] => (match toPs ds with
    | some (p :: ps) => if alikeB (p :: ps) = true ∧ PyData.depthAll (p :: ps) ≤ 60 then some (ofP (minD p ps)) else none
    | _ => none)
  | _ => none
section
variable {K : PySem.W.Frag}
theorem cl_minD : ClD K (rMinD K) minDO := fun ds d Ω g H xs Q e w r k => by
  unfold minDO at e
  split at e
  · rename_i es
    split at e
    · rename_i p ps hp
      split at e
      · rename_i hc
        cases e
        obtain ⟨v, rfl, h1⟩ := one_of r
        obtain ⟨a, ys, rfl, h2, h3⟩ := rep_lst.mp h1
        refine ⟨a, ys, p, ps, rfl, Evl.ex_l w.sub (.inl (.inl h2)), dpAll_mono w.sub _ _ (toPs_dp es ys _ h3 hp), alikeB_ok hc.1, hc.2, fun i u hu hi => ?_⟩
        obtain ⟨d', e1, e2⟩ := toPs_get hp hi
        obtain ⟨u2, e3, e4⟩ := h3.get e1
        rw [hu] at e3
        cases e3
        have := ofP_toP d' _ e2
        rw [this] at k
        exact k u Ω H (.refl _ _) w e4
      · cases e
    · cases e
  · cases e
end
/-! ### sorted -/
def keyP (d : D) : PyData := (toP d).getD .none
def sortD (ds : List D) : List D := ds.mergeSort (dataLe false keyP)
def tupB : PyData → Bool
  | .tuple (_ :: _) => true
  | _ => false
def othB : PyData → Bool
  | .none => false
  | .tuple _ => false
  | _ => true
def sortB (ps : List PyData) : Bool := ps.all (fun x => ps.all fun y => alike x y) && (ps.all tupB || ps.all othB) && ps.all fun p => decide (p.depth ≤ 60)
theorem sortB_ok {ps : List PyData} (h : sortB ps = true) : AllAlike ps ∧ Sortable ps ∧ ∀ p ∈ ps, p.depth ≤ 60 := by
  unfold sortB at h
  simp only [Bool.and_eq_true, Bool.or_eq_true, List.all_eq_true, decide_eq_true_eq] at h
  obtain ⟨⟨h1, h2⟩, h3⟩ := h
  refine ⟨fun x hx y hy => h1 x hx y hy, ?_, h3⟩
  rcases h2 with h2 | h2
  · left
    intro d hd
    have := h2 d hd
    cases d with
    | tuple xs =>
      cases xs with
      | nil => cases this
      | cons x r => exact ⟨x, r, rfl⟩
    | _ => cases this
  · right
    intro d hd
    have := h2 d hd
    refine ⟨fun z => ?_, fun xs z => ?_⟩
    · rw [z] at this; cases this
    · rw [z] at this; cases this
def rSortedD (K : PySem.W.Frag) : List V → Hp → VK → Prop := fun vs H Q => ∃ (a : Addr) (xs : List V) (ps : List PyData), vs = [.ref a] ∧ SqL K H a xs ∧ DpAll K H xs ps ∧ (AllAlike ps ∧ Sortable ps ∧ ∀ p ∈ ps, p.depth ≤ 60) ∧ ps.length ≤ sizeLine ∧
  ∀ l, H l = none → Q (.ref l) (upd H l (.lst (((xs.zip ps).mergeSort (dataLe false Prod.snd)).map Prod.fst)))
section
variable {X : Cx}
theorem dpAll_len {K : PySem.W.Frag} {H : Hp} : ∀ {xs : List V} {ps : List PyData}, DpAll K H xs ps → xs.length = ps.length
  | _, _, .nil => rfl
  | _, _, .cons _ h => by simp [dpAll_len h]
theorem each_of {K : PySem.W.Frag} {s : Shared} {pins : List (Addr × Obj)} {σ : St} {H : Hp} (I : Inv X pins σ H s) : ∀ {xs : List V} {ps : List PyData} {us : List Value}, DpAll X.K H xs ps → Vals xs us →
    EachIs (fun (v : Value) (b : V × PyData) => RelV b.1 v) us (xs.zip ps) ∧ EachIs (fun (v : Value) (b : V × PyData) => ∃ as, Reads s.heap v b.2 as) us (xs.zip ps)
  | _, _, _, .nil, .nil => ⟨.nil, .nil⟩
  | _, _, _, .cons h1 h2, .cons r1 r2 => by
    obtain ⟨a, b⟩ := each_of (K := K) I h2 r2
    exact ⟨.cons r1 a, .cons (Dp.reads I _ _ _ h1 r1) b⟩
theorem vals_each : ∀ {us : List Value} {bs : List (V × PyData)}, EachIs (fun (v : Value) (b : V × PyData) => RelV b.1 v) us bs → Vals (bs.map Prod.fst) us
  | _, _, .nil => .nil
  | _, _, .cons h t => .cons h (vals_each t)
theorem cr_sortedD (hu : X.A.units + 70 < cLine) : CallR X (.builtin "sorted") (rSortedD X.K) := by
  intro pins s σ H vs us Q I r h
  obtain ⟨a, xs, ps, rfl, hs, hd, ⟨ha, hk, hdep⟩, hlen, q⟩ := h
  obtain ⟨its, rv, hl, _⟩ := I.list hs
  rw [Vals.ref1 r]
  obtain ⟨e1, e2⟩ := each_of (K := X.K) I hd rv
  have hmap : (xs.zip ps).map Prod.snd = ps := by
    rw [List.map_snd_zip]
    rw [dpAll_len hd]
    exact Nat.le_refl _
  have hzl : (xs.zip ps).length = ps.length := by rw [List.length_zip, dpAll_len hd, Nat.min_self]
  refine PySem.W.sorted_data (enc := Prod.snd) hl.isList e1 e2 (by rw [hmap]; exact ha) (by rw [hmap]; exact hk) (by rw [hzl]; exact hlen) (fun b hb => by
    have : b.2 ∈ ps := by rw [← hmap]; exact List.mem_map_of_mem hb
    have := hdep b.2 this
    omega) fun out hout ho => ?_
  obtain ⟨ep, he'⟩ := PyProof.Rows.sortedAll_at s.heap its out.toArray
  have hv := vals_each ho
  have hz : (((xs.zip ps).mergeSort (dataLe false Prod.snd)).map Prod.fst).length ≤ sizeLine := by
    rw [List.length_map, List.length_mergeSort, hzl]
    exact hlen
  exact ⟨.ref _, upd H (s.heap.objs.size + 1) (.lst (((xs.zip ps).mergeSort (dataLe false Prod.snd)).map Prod.fst)), I.laid (t' := s.toks) (fun _ _ => PyProof.Rows.sortedAll_old) (Nat.le_succ _) ⟨hz, out, ep, hv, by simpa using he'⟩, rfl, q _ (I.hok.fresh (Nat.le_succ _))⟩
end
def sortDO : List D → Option D
  | [.lst ds] => (match toPs ds with
    | some ps => if sortB ps = true ∧ ps.length ≤ sizeLine then some (.lst (sortD ds)) else none
    | none => none)
  | _ => none
section
variable {K : PySem.W.Frag}
theorem toPs_map : ∀ {ds : List D} {ps : List PyData}, toPs ds = some ps → ps = ds.map keyP
  | [], ps, h => by unfold toPs at h; cases h; rfl
  | d :: ds, ps, h => by
    unfold toPs at h
    cases q : toP d with
    | none => rw [q] at h; cases h
    | some p0 =>
      rw [q] at h
      cases q2 : toPs ds with
      | none => rw [q2] at h; cases h
      | some r =>
        rw [q2] at h
        cases h
        rw [List.map_cons, ← toPs_map q2]
        simp [keyP, q]
theorem repL_pairs {Ω : Om} : ∀ (ts : List (D × V)), (∀ t ∈ ts, Rep K Ω t.1 t.2) → RepL K Ω (ts.map Prod.fst) (ts.map Prod.snd)
  | [], _ => .nil
  | t :: ts, h => .cons (h t List.mem_cons_self) (repL_pairs ts fun u hu => h u (List.mem_cons_of_mem _ hu))
theorem pairs_repL {Ω : Om} : ∀ {ds : List D} {vs : List V}, RepL K Ω ds vs → ∃ ts : List (D × V), ds = ts.map Prod.fst ∧ vs = ts.map Prod.snd ∧ ∀ t ∈ ts, Rep K Ω t.1 t.2
  | [], vs, h => ⟨[], rfl, by rw [repL_nil.mp h]; rfl, fun t ht => by cases ht⟩
  | d :: ds, vs, h => by
    obtain ⟨v, r, rfl, h2, h3⟩ := repL_cons.mp h
    obtain ⟨ts, e1, e2, e3⟩ := pairs_repL h3
    refine ⟨(d, v) :: ts, by rw [e1]; rfl, by rw [e2]; rfl, fun t ht => ?_⟩
    rcases List.mem_cons.mp ht with q | q
    · subst q; exact h2
    · exact e3 t q
theorem zip_of (ts : List (D × V)) : (ts.map Prod.snd).zip ((ts.map Prod.fst).map keyP) = ts.map fun t => (t.2, keyP t.1) := by
  induction ts with
  | nil => rfl
  | cons t ts ih => simp only [List.map_cons, List.zip_cons_cons, ih]
theorem cl_sortD : ClD K (rSortedD K) sortDO := fun ds d Ω g H xs Q e w r k => by
  unfold sortDO at e
  split at e
  · rename_i es
    split at e
    · rename_i ps hp
      split at e
      · rename_i hc
        cases e
        obtain ⟨v, rfl, h1⟩ := one_of r
        obtain ⟨a, ys, rfl, h2, h3⟩ := rep_lst.mp h1
        refine ⟨a, ys, ps, rfl, Evl.ex_l w.sub (.inl (.inl h2)), dpAll_mono w.sub _ _ (toPs_dp es ys _ h3 hp), sortB_ok hc.1, hc.2, fun l hl => ?_⟩
        obtain ⟨ts, rfl, rfl, hts⟩ := pairs_repL h3
        have em : ((ts.map Prod.snd).zip ps).mergeSort (dataLe false Prod.snd) = (ts.mergeSort (dataLe false fun t => keyP t.1)).map fun t => (t.2, keyP t.1) := by
          rw [toPs_map hp, zip_of]
          exact (List.map_mergeSort (r := dataLe false fun t : D × V => keyP t.1) (s := dataLe false Prod.snd) (f := fun t : D × V => (t.2, keyP t.1)) (fun a _ b _ => rfl)).symm
        have ed : sortD (ts.map Prod.fst) = (ts.mergeSort (dataLe false fun t => keyP t.1)).map Prod.fst :=
          (List.map_mergeSort (r := dataLe false fun t : D × V => keyP t.1) (s := dataLe false keyP) (f := fun t : D × V => t.1) (fun a _ b _ => rfl)).symm
        rw [ed] at k
        rw [em, List.map_map]
        refine k _ _ _ (.alloc w.sub hl) (w.alloc hl) (rep_lst.mpr ⟨l, _, rfl, add_get, RepL.mono (Tr.alloc w.sub hl).gr _ _ ?_⟩)
        exact repL_pairs (ts.mergeSort (dataLe false fun t => keyP t.1)) fun t ht => hts t (List.mem_mergeSort.mp ht)
      · cases e
    · cases e
  · cases e
end
end TS
/-! Wrappers: min and sorted of data, index, any, all. -/
namespace TS
open PySem L2
open Evl (Ex)
open PySem.W (AlikeAll)
def idxO : D → D → Option D
  | .lst ds, y => (match toPs ds, toP y with
    | some ps, some p => if SeqAt.shaped (.list ps) = true ∧ SeqAt.shaped p = true then (ps.findIdx? fun z => PyData.eqv z p).map fun j => .int (j : Nat) else none
    | _, _ => none)
  | _, _ => none
section
variable {K : PySem.W.Frag}
theorem od_idx : OpD K (fun x y H Q => tyV K "list" x H ∧ rIndexD K x [y] H Q) idxO := opD_val fun d1 d2 d Ω g H x y e w r1 r2 => by
  unfold idxO at e
  split at e
  · rename_i ds
    split at e
    · rename_i ps p h1 h2
      split at e
      · rename_i hs
        cases q : ps.findIdx? (fun z => PyData.eqv z p) with
        | none => rw [q] at e; cases e
        | some j =>
          rw [q] at e
          cases e
          obtain ⟨a, xs, rfl, h3, h4⟩ := rep_lst.mp r1
          obtain ⟨hj, hj1, hj2⟩ := List.findIdx?_eq_some_iff_getElem.mp q
          refine ⟨.int (j : Nat), ri, fun Q k => ⟨.inl ⟨rfl, xs, Evl.ex_l w.sub (.inl (.inl h3))⟩, a, _, p, ps, j, ps[j], rfl, rfl, dp_mono w.sub _ _ (toP_dp (.lst ds) _ _ r1 (by unfold toP; rw [h1]; rfl)), dp_mono w.sub _ _ (toP_dp _ _ _ r2 h2), hs.1, hs.2, List.getElem?_eq_getElem hj, hj1, fun m z' hm hz => ?_, k⟩⟩
          have hml : m < ps.length := by omega
          rw [List.getElem?_eq_getElem hml] at hz
          cases hz
          have := hj2 m hm
          simpa using this
      · cases e
    · cases e
  · cases e
def bls? : List D → Option (List Bool)
  | [] => some []
  | .bl i :: ds => (bls? ds).map fun r => i :: r
  | _ :: _ => none
theorem bls?_ok {Ω : Om} : ∀ {ds : List D} {bs : List Bool} {vs : List V}, bls? ds = some bs → RepL K Ω ds vs → vs = bs.map V.bl
  | [], bs, vs, h, r => by cases h; rw [repL_nil.mp r]; rfl
  | .bl i :: ds, bs, vs, h, r => by
    unfold bls? at h
    obtain ⟨v, t, rfl, h2, h3⟩ := repL_cons.mp r
    cases q : bls? ds with
    | none => rw [q] at h; cases h
    | some r =>
      rw [q] at h
      cases h
      rw [bls?_ok q h3, rep_bl.mp h2]
      rfl
  | .non :: _, _, _, h, _ => by cases h
  | .int _ :: _, _, _, h, _ => by cases h
  | .str _ :: _, _, _, h, _ => by cases h
  | .tup _ :: _, _, _, h, _ => by cases h
  | .lst _ :: _, _, _, h, _ => by cases h
  | .gen :: _, _, _, h, _ => by cases h
  | .scr _ :: _, _, _, h, _ => by cases h
theorem bls?_map (ns : List Bool) : bls? (ns.map D.bl) = some ns := by
  induction ns with
  | nil => rfl
  | cons n ns ih => show (bls? (ns.map D.bl)).map _ = _; rw [ih]; rfl
def anyO : List D → Option D
  | [.lst ds] => (bls? ds).map fun bs => .bl (bs.any id)
  | _ => none
def allO : List D → Option D
  | [.lst ds] => (bls? ds).map fun bs => .bl (bs.all id)
  | _ => none
theorem cl_any : ClD K (rAny K) anyO := clD_val fun ds d Ω g H xs e w r => by
  unfold anyO at e
  split at e
  · rename_i es
    cases q : bls? es with
    | none => rw [q] at e; cases e
    | some ns =>
      rw [q] at e
      cases e
      obtain ⟨v, rfl, h1⟩ := one_of r
      obtain ⟨a, ys, rfl, h2, h3⟩ := rep_lst.mp h1
      rw [bls?_ok q h3] at h2
      exact ⟨_, rb, fun Q k => ⟨a, ns, rfl, SqL.of (w.sub _ _ h2), k⟩⟩
  · cases e
theorem cl_all : ClD K (rAll K) allO := clD_val fun ds d Ω g H xs e w r => by
  unfold allO at e
  split at e
  · rename_i es
    cases q : bls? es with
    | none => rw [q] at e; cases e
    | some ns =>
      rw [q] at e
      cases e
      obtain ⟨v, rfl, h1⟩ := one_of r
      obtain ⟨a, ys, rfl, h2, h3⟩ := rep_lst.mp h1
      rw [bls?_ok q h3] at h2
      exact ⟨_, rb, fun Q k => ⟨a, ns, rfl, SqL.of (w.sub _ _ h2), k⟩⟩
  · cases e
def rMaxT (K : PySem.W.Frag) : List V → Hp → VK → Prop := fun vs H Q => ∃ (a : Addr) (ns : List Int), vs = [V.ref a] ∧ SqT K H a (ns.map V.int) ∧ 0 < ns.length ∧ ∀ m, m ∈ ns → (∀ y, y ∈ ns → y ≤ m) → Q (.int m) H
def maxTO : List D → Option D
  | [.tup ds] => if ds.isEmpty = true then none else (ints? ds).map fun ns => .int (maxI ns)
  | _ => none
theorem cl_maxT : ClD K (rMaxT K) maxTO := clD_val fun ds d Ω g H xs e w r => by
  unfold maxTO at e
  split at e
  · rename_i es
    split at e
    · cases e
    · rename_i hne
      cases q : ints? es with
      | none => rw [q] at e; cases e
      | some ns =>
        rw [q] at e
        cases e
        have e1 := ints?_ok q
        subst e1
        have hn : ns ≠ [] := by
          intro z
          subst z
          exact hne rfl
        obtain ⟨v, rfl, h1⟩ := one_of r
        obtain ⟨a, ys, rfl, h2, h3⟩ := rep_tup.mp h1
        have := h3.ints_of
        subst this
        refine ⟨.int (maxI ns), ri, fun Q k => ⟨a, ns, rfl, Evl.ex_t w.sub h2, List.length_pos_iff.mpr hn, fun m hm hy => ?_⟩⟩
        obtain ⟨x1, x2⟩ := maxI_mem ns hn
        have := hy _ x1
        have := x2 m hm
        rw [show m = maxI ns by omega]
        exact k
  · cases e
theorem dpAll_ints {H : Hp} : ∀ ns : List Int, DpAll K H (ns.map V.int) (ns.map PyData.int)
  | [] => .nil
  | n :: ns => .cons (.int n) (dpAll_ints ns)
theorem foldl_max (n : Int) : ∀ ns : List Int, ns.foldl max n ∈ n :: ns ∧ ∀ y ∈ n :: ns, y ≤ ns.foldl max n := by
  intro ns
  induction ns generalizing n with
  | nil => exact ⟨List.mem_cons_self, fun y hy => by rw [List.mem_singleton.mp hy]; exact Int.le_refl _⟩
  | cons k r ih =>
    rw [List.foldl_cons]
    obtain ⟨h1, h2⟩ := ih (max n k)
    have h3 := h2 (max n k) List.mem_cons_self
    refine ⟨?_, fun y hy => ?_⟩
    · rcases List.mem_cons.mp h1 with z | z
      · rw [z]
        rcases Int.le_total n k with w | w
        · rw [Int.max_eq_right w]; simp
        · rw [Int.max_eq_left w]; simp
      · exact List.mem_cons_of_mem _ (List.mem_cons_of_mem _ z)
    · rcases List.mem_cons.mp hy with z | z
      · rw [z]; omega
      · rcases List.mem_cons.mp z with w | w
        · rw [w]; omega
        · exact h2 y (List.mem_cons_of_mem _ w)
theorem cr_maxT {X : Cx} (hc : X.calm = true) (hu : X.A.units + 70 < cLine) : CallR X (.builtin "max") (rMaxT X.K) := by
  intro pins s σ H vs us Q I r h
  obtain ⟨a, ns, rfl, hs, hn, q⟩ := h
  obtain ⟨its, rv, hl, _⟩ := I.tuple hs
  rw [Vals.ref1 r]
  cases ns with
  | nil => simp at hn
  | cons n ns =>
    obtain ⟨as, hr⟩ := Dp.readsAll I ((n :: ns).map PyData.int) _ its (dpAll_ints (n :: ns)) rv
    have ha : AlikeAll ((n :: ns).map PyData.int) := ⟨fun x hx y hy => by
      obtain ⟨i, _, rfl⟩ := List.mem_map.mp hx
      obtain ⟨j, _, rfl⟩ := List.mem_map.mp hy
      simp [PySem.W.alike], fun x hx z => by
      obtain ⟨i, _, rfl⟩ := List.mem_map.mp hx
      cases z⟩
    have hdep : PyData.depthAll ((n :: ns).map PyData.int) ≤ 60 := by
      have : ∀ l : List Int, PyData.depthAll (l.map PyData.int) ≤ 1 := fun l => by
        induction l with
        | nil => simp [PyData.depthAll]
        | cons x l ih => simp only [List.map_cons, PyData.depthAll, PyData.depth]; omega
      exact Nat.le_trans (this _) (by decide)
    refine PySem.W.max_tuple_data (I.ok.hd hc) (show s.heap.IsTuple a its.toArray from hl) (x := .int n) (xs := ns.map PyData.int) (as := as) (by simpa using hr) ha (by
      have : PyData.depthAll (PyData.int n :: ns.map PyData.int) ≤ 60 := hdep
      omega) fun i v h' tk bs hi hrd hk => ?_
    rw [PySem.W.maxD_ints] at hrd
    obtain ⟨f1, f2⟩ := foldl_max n ns
    refine ⟨.int (ns.foldl max n), H, I.kept hk, ?_, q _ f1 f2⟩
    cases hrd
    exact ⟨_, rfl⟩
def isL : D → Bool
  | .lst _ => true
  | _ => false
def idxE (fa fb : DE) : DE := fun ρ g => (fa ρ g).bind fun a g1 => if isL a = true then ((fb ρ g1).bind fun b g2 => match idxO a b with
  | some d => .ok d g2
  | none => .bad) else .bad
end
section
variable {Z : Wd} {N : List Str} {sc : Scope} {fn : Str → Bool} {k : Nat} {X : Cx} {B : Gd} {W : WX} {a b e : Expr} {es : List Expr} {fa fb fe : DE} {fr : DA} {pos p q : Pos}
theorem Cz.minD (c : Cz Z N sc fn k X B W) (hm : Z.mg "min" = none) (hg : glB sc "min" = true) (ha : PDA X B W [e] fr) (he : starEach [e] X.env = (false, eval e X.env) :: starEach [] X.env := by rfl) : PD X B W (.Call (.Name "min" p) [e] [] pos) (clE minDO fr) :=
  c.blt cl_minD (cr_minD c.calm (by have := c.room.un; omega)) hm PyProof.Rows.boot_min hg ha (by decide) he
theorem Cz.sortedD (c : Cz Z N sc fn k X B W) (hm : Z.mg "sorted" = none) (hg : glB sc "sorted" = true) (ha : PDA X B W [e] fr) (he : starEach [e] X.env = (false, eval e X.env) :: starEach [] X.env := by rfl) : PD X B W (.Call (.Name "sorted" p) [e] [] pos) (clE sortDO fr) :=
  c.blt cl_sortD (cr_sortedD (by have := c.room.un; omega)) hm (by decide +kernel) hg ha (by decide) he
theorem Cz.maxT (c : Cz Z N sc fn k X B W) (hm : Z.mg "max" = none) (hg : glB sc "max" = true) (ha : PDA X B W [e] fr) (he : starEach [e] X.env = (false, eval e X.env) :: starEach [] X.env := by rfl) : PD X B W (.Call (.Name "max" p) [e] [] pos) (clE maxTO fr) :=
  c.blt cl_maxT (cr_maxT c.calm (by have := c.room.un; omega)) hm PyProof.Rows.boot_max hg ha (by decide) he
theorem Cz.idx (c : Cz Z N sc fn k X B W) {ap cp : Pos} (ha : PD X B W a fa) (he : PD X B W e fe)
    (hb : attributeBase a "index" X.env (eval a X.env) = eval a X.env := by rfl)
    (hfew : ((backTo cp (starEach (e :: []) X.env)).all (fun x => !x.1) && (backToKw cp (keywordEach [] X.env)).all (fun x => x.1.isSome)
      && decide ((e :: []).length + ([] : List Keyword).length + (if ([] : List Keyword).isEmpty then 0 else 1) < 30)) = true := by rfl)
    (hline : (ap.endLine == cp.line) = true := by rfl) (hs : starEach (e :: []) X.env = (false, eval e X.env) :: starEach [] X.env := by rfl) :
    PD X B W (.Call (.Attribute a "index" ap) [e] [] cp) (idxE fa fe) :=
  PE.weak (pe_bm PySem.F.plainAttrs_list PySem.F.slot_list_index PySem.F.type_list_index (mt_indexD (by have := c.room.un; omega)) ha (pa_cons he pa_nil hs) hb hfew hline hs)
    fun σ H Q z => by
    obtain ⟨ρ, Ω, g, A, p⟩ := z
    unfold idxE at p
    refine wE.run A (fun d1 g1 v1 Ω1 H1 e1 t1 w1 r1 => ?_) (fun x g1 cls dd Ω1 H1 e1 t1 w1 rx => ?_) (fun e1 => ?_)
    · rw [e1] at p
      simp only [Res.bind] at p
      cases d1 with
      | lst ds =>
        simp only [isL, if_true] at p
        obtain ⟨l, xs, rfl, h3, h4⟩ := rep_lst.mp r1
        refine ⟨.inl ⟨rfl, xs, Evl.ex_l w1.sub (.inl (.inl h3))⟩, ?_⟩
        refine wE.run (A.go t1 w1) (fun d2 g2 v2 Ω2 H2 e2 t2 w2 r2 => ?_) (fun x g2 cls dd Ω2 H2 e2 t2 w2 rx => ?_) (fun e2 => ?_)
        · simp only [Res.bind, e2] at p
          cases e : idxO (.lst ds) d2 with
          | none => rw [e] at p; exact p.elim
          | some d =>
            rw [e] at p
            exact (od_idx (.lst ds) d2 d Ω2 g2 H2 _ v2 Q e w2 (Rep.mono t2.gr _ _ r1) r2 fun v Ω' H' t w r => p v Ω' H' ((t1.trans t2).trans t) w r).2
        · simp only [Res.bind, e2] at p
          exact p cls dd Ω2 H2 (t1.trans t2) w2 rx
        · simp only [Res.bind, e2] at p
          exact p.elim
      | _ => simp only [isL, Bool.false_eq_true, if_false] at p; exact p.elim
    · rw [e1] at p
      exact p cls dd Ω1 H1 t1 w1 rx
    · rw [e1] at p
      exact p.elim
theorem Cz.any (c : Cz Z N sc fn k X B W) (hm : Z.mg "any" = none) (hg : glB sc "any" = true) (ha : PDA X B W [e] fr) (he : starEach [e] X.env = (false, eval e X.env) :: starEach [] X.env := by rfl) : PD X B W (.Call (.Name "any" p) [e] [] pos) (clE anyO fr) :=
  c.blt cl_any (cr_any c.calm) hm (by decide +kernel) hg ha (by decide) he
theorem Cz.all (c : Cz Z N sc fn k X B W) (hm : Z.mg "all" = none) (hg : glB sc "all" = true) (ha : PDA X B W [e] fr) (he : starEach [e] X.env = (false, eval e X.env) :: starEach [] X.env := by rfl) : PD X B W (.Call (.Name "all" p) [e] [] pos) (clE allO fr) :=
  c.blt cl_all (cr_all c.calm) hm (by decide +kernel) hg ha (by decide) he
def cellB (sc : Scope) (y : Str) : Bool := match sc.names.lookup y with
  | some .cell => true
  | _ => false
theorem sw_cell {elt : Expr} {gens : List Comprehension} {scope : Scope} {pos py : Pos} {l : Nat} {y : Str} {env : Env} (h : env.scope.names.lookup y = some .cell) : swapsWithSole [.Name y py] (.ListComp elt gens scope pos) l env = pure false := by
  show (pure (env.blockKind == .function && env.kindOf y == some .local && py.line == pos.line && !(scope.names.any fun (n, k) => n == y && (k == .local || k == .cell))) : Sem Bool) = pure false
  have : (env.kindOf y == some .local) = false := by unfold Env.kindOf; rw [h]; rfl
  rw [this]
  simp
/-- name = [..], the name a cell -/
theorem Cz.asgC (c : Cz Z N sc fn k X B W) (i : Nat) {x : Str} {elt : Expr} {gens : List Comprehension} {scope : Scope} {lp : Pos} {fe : DE} {pos pos' : Pos} (h : tgB N sc fn i x = true) (hx : cellB sc x = true) (he : PD X B W (.ListComp elt gens scope lp) fe) (hw : swappedStores [.Name x pos'] (.ListComp elt gens scope lp) X.env = pure none := by rfl)
    (h1 : (assignEach [.Name x pos'] X.env).map (·.2) = [assign (.Name x pos') X.env] := by rfl) : PDS X B W (.Assign [.Name x pos'] (.ListComp elt gens scope lp) pos) (asgS (.one i) fe) :=
  c.asg i h he (sw_cell (by
    rw [c.esc]
    unfold cellB at hx
    split at hx
    · assumption
    · cases hx)) hw h1
end
end TS
/-! An own exception's __init__: super().__init__('..') and one field. -/
namespace TS
open PySem L2
section
/-- what stands where __init__ runs -/
def cxI (CX : CXT) (P : Program) (w : World) (K : PySem.W.Frag) (mg : Str → Option Value) (base : Heap) (N : List Str) (env : Env) (A : Around) (outer : List Env) (s : Shared) (H : Hp) (E : XK) : Cx where
  prog := P
  w := w
  K := K
  mg := mg
  base := base
  A := A.deeper env
  N := N
  s_0 := s
  H_0 := H
  env := env
  outer := outer
  stack := env :: outer
  ex := []
  fn := fun _ => false
  calm := true
  pn := []
  xe := fun e s' => wpAny (model P w) (A.deeper env) (leaving env e) (fun _ s'' => CX outer H s E e s'') (fun e' s'' => CX outer H s E e' s'') s'
/-- what __init__ promises -/
def spInit (K : PySem.W.Frag) (D : Addr) (fld : Str) : Sp := fun vs H Q _ => ∃ a y, vs = [V.ref a, y] ∧ H a = some (exo a D none) ∧ ∀ dx, H dx = none → dx ≠ a → Q .non (upd (upd H dx (exd dx [(fld, y)])) a (exo a D (some dx)))
theorem fn_exInit {CX : CXT} {P : Program} {w : World} {K : PySem.W.Frag} {mg : Str → Option Value} {base : Heap} {k : Nat} {f D cc cda : Addr} {name qual : Str} {params : Arguments} {scope : Scope} {dV kV doc pm ct oc ccl cl : Value} {an od cdd cld : Option Addr} {osl ccs csl : Array (Option Value)}
    {fld msg : Str} {j : Nat} {p0 p1 p2 p3 p4 p5 q0 q1 q2 q3 : Pos} {vsc : Array Value} {file : Str} {tf : Tok} {ar : Arg}
    (lk : K.lookup f = some ⟨oc, od, .func (PySem.W.ksFn name qual params [.Expr (.Call (.Attribute (.Call (.Name "super" p0) [] [] p1) "__init__" p2) [.Constant (.str msg) j p3] [] p4) p5, .Assign [.Attribute (.Name "self" q0) fld q1] (.Name fld q2) q3] scope dV kV doc pm an (.ref cda) ct cc), osl⟩)
    (hcd : PySem.W.codeIn K (.ref cda) qual = true) (T : OexC K D) (hno : PySem.W.findIn K (.ref D) fld = some none)
    (hp : (params.posonlyargs ++ params.args).head? = some ar) (har : ar.arg = "self")
    (hcode : K.lookup cda = some ⟨ccl, cdd, .fields vsc, ccs⟩) (hvs : vsc[2]? = some (.str file tf)) (hfile : ((P.main.file : Str) == file) = true)
    (hcell : K.lookup cc = some ⟨cl, cld, .cell (some (.ref D)), csl⟩) (hsub : PySem.W.mroIn K D (.ref D) = some true) (hsuper : mg "super" = none)
    (hm : PySem.W.ks_superIn K D D "__init__" = some (some (.builtin "ValueError.__init__"))) (hB : PySem.W.subIn K (.ref D) (.type "ValueError") = some true) (hop : PySem.W.nsIn K cStatics "thirdparty.any" = some none)
    (htop : (P.main.scope.names.lookup ("super" : Str)).isSome = false)
    (hf1 : fld ≠ "self") (hks : scope.names.lookup ("super" : Str) = some .globalImplicit) (hkc : scope.names.lookup ("__class__" : Str) = some .free) (hka : scope.names.lookup ("self" : Str) = some .local) (hkf : scope.names.lookup fld = some .local)
    (hfree : ∀ x, scope.names.lookup x = some .free → x = "__class__") (hcel : ∀ x ∈ scope.names, x.2 ≠ .cell) (hdb : (fld == ("__debug__" : Str)) = false) (hcld : (fld == ("__classdict__" : Str)) = false)
    {pl : Addr → Sem Bool} (hev : ∀ L : Addr, eval (.Call (.Attribute (.Call (.Name "super" p0) [] [] p1) "__init__" p2) [.Constant (.str msg) j p3] [] p4) (PySem.W.ksEnv qual scope L f (.ref cda) cc) = (do
      let ov ← attributeBase (.Call (.Name "super" p0) [] [] p1) "__init__" (PySem.W.ksEnv qual scope L f (.ref cda) cc) (eval (.Call (.Name "super" p0) [] [] p1) (PySem.W.ksEnv qual scope L f (.ref cda) cc))
      standAt p2.atName
      let (fx, first) ← holding [ov] (getMethod ov "__init__" (pl L))
      callWith p4 fx first (backTo p4 (starEach [.Constant (.str msg) j p3] (PySem.W.ksEnv qual scope L f (.ref cda) cc))) []))
    (hco : scope.isCoroutine = false) (hgen : scope.isGenerator = false) (hk : scope.kind = .function) :
    FnOk P w K mg base CX (k + 1) f (PySem.W.ksFn name qual params [.Expr (.Call (.Attribute (.Call (.Name "super" p0) [] [] p1) "__init__" p2) [.Constant (.str msg) j p3] [] p4) p5, .Assign [.Attribute (.Name "self" q0) fld q1] (.Name fld q2) q3] scope dV kV doc pm an (.ref cda) ct cc) ["self", fld] (spInit K D fld) := by
  refine ⟨fun vs H Q E ⟨a, y, e, _⟩ => by rw [e]; rfl, fun A outer s H args us vs Q E hr e0 hb r hsp => ?_⟩
  obtain ⟨a, y, rfl, ea, q⟩ := hsp
  have KX : K.In s.heap := e0.mod.kin.keeps fun b o e => (e0.bs b o e).1
  have lim : s.heap.NoLimit := e0.mod.nolimit.keeps fun b o e => (e0.bs b o e).1
  cases r with
  | cons ra r2 =>
  rename_i ua ur
  obtain rfl : ua = Value.ref a := ra
  cases r2 with
  | cons ry r3 =>
  rename_i uy ur
  cases r3
  refine PySem.ks_codeAny_call_defAt hr.depth (KX _ _ lk) rfl lim (PySem.W.codeRec_of KX hcd) rfl hb hcel (fun z hz => ?_) (fun h₁ hns hkp => ?_) hco hgen hk
  · simp at hz
    rcases hz with rfl | rfl
    · exact hka
    · exact hkf
  · have eL : ∀ x c, (PySem.W.ksEnv qual scope s.heap.objs.size f (.ref cda) cc).cells.lookup x = some c → x = "__class__" ∧ c = cc := fun x c h => by
      have h : List.lookup x [(("__class__" : Str), cc)] = some c := h
      rw [List.lookup_cons] at h
      cases e : x == ("__class__" : Str) with
      | true => rw [e] at h; simp at h; exact ⟨by simpa using e, h.symm⟩
      | false => rw [e] at h; simp at h
    have hccB : base.get? cc = some ⟨cl, cld, .cell (some (.ref D)), csl⟩ := e0.mod.kin _ _ hcell
    have I : Inv (cxI CX P w K mg base ["self", fld] (PySem.W.ksEnv qual scope s.heap.objs.size f (.ref cda) cc) A outer s H E) [] [some (.ref a), some y] H { s with heap := h₁, toks := s.toks + [(("self" : Str), Value.ref a), (fld, uy)].length } := {
      ok := {
        mod := e0.mod
        kind := hk
        glob := rfl
        blt := rfl
        above := Nat.le_refl _
        inj := fun x z c h1 h2 => by rw [(eL x c h1).1, (eL z c h2).1]
        has := fun x hx => by
          rcases hx with hx | hx
          · exact absurd rfl (hcel _ (PySem.mem_of_lookup (show scope.names.lookup x = some .cell from hx)))
          · rw [hfree x hx]
            exact ⟨cc, rfl⟩
        cab := fun x c h => by cases h
        hd := fun _ => hr.hd
        frames := Around.frames_deeper e0.frames
        stk := .inr ⟨rfl, rfl⟩
        exf := fun b hb => by cases hb
        bs := e0.bs
        bsz := e0.bsz
        noex := fun b o _ hb => by cases hb
        exfs := fun b hb => by cases hb
        funs := e0.funs
        frf := e0.frf }
      os := rfl
      bare := e0.bare
      base := Un.kept hkp
      loc := ⟨_, hns, fun i x v h1 h2 h3 => by
        match i, h1, h2 with
        | 0, h1, h2 =>
          cases h1
          cases h2
          refine ⟨.ref a, rfl, .inl ⟨hka, ?_⟩⟩
          have : (("self" : Str) == fld) = false := by simpa using Ne.symm hf1
          simp [List.lookup_cons, this]
        | 1, h1, h2 =>
          cases h1
          cases h2
          refine ⟨uy, ry, .inl ⟨hkf, ?_⟩⟩
          simp [List.lookup_cons]
        | n + 2, h1, h2 => cases h1⟩
      cell := fun x c h => by
        rw [(eL x c h).2]
        exact ⟨_, _, hkp _ _ (e0.bs _ _ hccB).1, rfl⟩
      free := e0.hok.fresh (Nat.le_refl _)
      freeC := fun x c h => by
        rw [(eL x c h).2]
        exact (e0.bs _ _ hccB).2
      pin := fun p hp => by cases hp
      hok := e0.hok.kept hkp
      len := rfl }
    obtain ⟨nm, qq, N, bs, bm, sn, sub, ab, col, dd, k0, k1, k2, k3, k5, hC, hbm⟩ := T.cls
    obtain ⟨t1, ho⟩ := exo_at I.hok ea
    obtain ⟨mb, hb1, hb2⟩ := e0.mod.blt
    have hclsD : PySem.W.clsIn K D = some { name := nm, bases := bs, mro := .ref D :: bm, ns := N, qualname := qq, hasDict := true, slotNames := sn, subclasses := sub, abstract := ab, collection := col, hasDel := false } := by unfold PySem.W.clsIn; rw [hC] <;> rfl
    have hm' : PySem.W.alongIn K "__init__" (((Value.ref D :: bm).dropWhile (· != .ref D)).drop 1) = some (some (.builtin "ValueError.__init__")) := by
      unfold PySem.W.ks_superIn at hm
      rw [hclsD] at hm
      exact hm
    have hint : interactive (PySem.W.ksEnv qual scope s.heap.objs.size f (.ref cda) cc) = false := by
      unfold interactive
      simp [Env.blockKind, hk]
    have haD : a ≠ D := fun z => by
      have := I.kIn _ _ hC
      rw [← z, ho] at this
      cases this
    refine PySem.ks_wpAt_execs_cons (PySem.ks_wpAt_Expr_any (PySem.ks_wpAt_MethodCall (pl := pl s.heap.objs.size) (PySem.ks_wpAt_super_base (env := PySem.W.ksEnv qual scope s.heap.objs.size f (.ref cda) cc) hks hkc (by decide) rfl (I.kIn _ _ lk) rfl hp rfl (I.kIn _ _ hcode) rfl hvs hfile htop ?_) (hev _)) hint)
    refine PySem.W.ks_loadName_global hk hks (Calls.loadGlobal_builtin (I.mod.glob.keeps I.bk) hsuper (hb1.keeps I.bk) ((hb2 "super" (by decide)).trans (show bootBuiltins "super" = some (.type "super") by decide +kernel)) ⟨rfl, ?_⟩)
    refine wpAny_loadName_free hk hkc rfl ⟨_, I.kIn _ _ hcell, rfl⟩ ?_
    rw [har]
    refine wpAny_loadName_local hk hka hns (v := .ref a) (by
      have : (("self" : Str) == fld) = false := by simpa using Ne.symm hf1
      simp [List.lookup_cons, this]) ?_
    refine PySem.ks_wpAny_isType_cls (I.kIn _ _ hC) rfl ⟨rfl, ?_⟩
    refine PySem.ks_wpAny_call_super (I.kIn _ _ hC) rfl ho rfl (fun c e => by cases e) (PySem.W.looks_mroIn I.kIn hsub) (fun h2 e2 kp2 => ?_)
    have I2 := I.kept (t' := s.toks + [(("self" : Str), Value.ref a), (fld, uy)].length) kp2
    refine PySem.W.kxs_getMethod PySem.W.kxs_ValueError e2 (PySem.W.looks_opaque I2.kIn hop) (l₀ := .ref D :: bm) (fun A Q E s k q => wpAny_bind ((PySem.W.looks_clsIn I2.kIn hclsD) A _ E s k (wpAny_pure q))) rfl I2.kIn hm' (PySem.W.InstAt.type (ox := { cls := .ref D, dict := none, data := .fields #[.ref t1, .none, .none, .none, .bool false, .none] }) (od := none) ⟨kp2 _ _ ho, rfl, rfl, trivial⟩ |>.andThen (PySem.W.looks_subIn I2.kIn hB)) haD (by decide) ?_
    show wpAny _ _ (callWith p4 (.ref h2.objs.size) [] ((false, eval (.Constant (.str msg) j p3) (PySem.W.ksEnv qual scope s.heap.objs.size f (.ref cda) cc)) :: []) []) _ _ _
    refine PySem.W.kxs_callWith (i := "ValueError.__init__") (x := a) rfl (Calls.evalArgs_plain (Calls.spliced_cons (Calls.Constant_str (Calls.spliced_nil ?_))))
    have kp3 : ∀ b o, h2.get? b = some o → (h2.push (PySem.W.kxs_mw "ValueError.__init__" a)).get? b = some o := fun b o e => Heap.get?_push_of_some _ e
    have hu : (h2.push (PySem.W.kxs_mw "ValueError.__init__" a)).get? h2.objs.size = some (PySem.W.kxs_mw "ValueError.__init__" a) := Heap.get?_push_at rfl rfl
    refine ⟨hu, ?_⟩
    refine wpAny_call (codeAny_of_tree ?_)
    show wpAny _ _ (callAny (.ref h2.objs.size) ⟨[.str msg _], []⟩) _ _ _
    simp only [callAny]
    refine wpAny_bind (wpAny_load hu ?_)
    simp only [PySem.W.kxs_mw, show (Value.type "method-wrapper" == Value.type "method" || Value.type "method-wrapper" == Value.type "builtin_function_or_method" || Value.type "method-wrapper" == Value.type "method-wrapper") = true by decide, if_true]
    refine PySem.W.KFB.if_so (by decide) ?_
    have ho3 := kp3 _ _ (kp2 _ _ ho)
    refine wpAny_bind (PySem.W.check_bound_init PySem.F.excBase_ValueError.toExcCallFacts (kp3 _ _ (I2.kIn _ _ hC)) ho3 rfl ?_)
    refine wpAny_bind (wpAny_pure (wpAny_pure ?_))
    refine ⟨plainId_quiet PySem.F.excBase_ValueError.init.plain _, codeAny_builtin PySem.F.excBase_ValueError.initEntry ?_⟩
    refine PySem.W.exc_init_tree (cls := .ref D) (t0 := t1) (dv := none) (c2 := .none) (c3 := .none) (b4 := .bool false) ho3 (by rw [sizeLine_eq]; simp) fun h4 k4 e4 _ => ?_
    have I3 := I2.kept (t' := s.toks + [(("self" : Str), Value.ref a), (fld, uy)].length + 1 + 1) kp3
    have J := I3.write (h' := h4) (t' := s.toks + [(("self" : Str), Value.ref a), (fld, uy)].length + 1 + 1) (x := a) (e := a) (o := exo a D none) (by rw [ea]; exact True.intro) (.inl rfl) k4 ⟨_, e4⟩ (exo_ok e4)
    have eu : upd H a (exo a D none) = H := by
      funext b
      by_cases hb : b = a
      · rw [hb, upd_same, ea]
      · rw [upd_ne hb]
    rw [eu] at J
    refine wpAt_of_wpAny ?_
    have vS : Vis scope ("self" : Str) := .inl hka
    have vF : Vis scope fld := .inl hkf
    have ps := pss_one (ps_ost (X := cxI CX P w K mg base ["self", fld] (PySem.W.ksEnv qual scope s.heap.objs.size f (.ref cda) cc) A outer s H E) (o := .Name "self" q0) (e := .Name fld q2) (f := fld) (p' := q1) (pos := q3) (pe_var (i := 0) rfl vS) (pe_var (i := 1) rfl vF hdb hcld) rfl)
    refine wpAny_mono (ps.run [] _ [some (.ref a), some y] H { nx := fun _ H' => Q .non H', rt := Q } J ⟨y, rfl, .ref a, rfl, a, D, rfl, T, hno, .inl ⟨ea, fun dx n ne => q dx n ne⟩⟩) (fun fl s' hs => ?_) fun e s' hs => hs
    have fin : ∀ {σ' : L2.St} {H' : Hp} {v : V} {u : Value}, Inv (cxI CX P w K mg base ["self", fld] (PySem.W.ksEnv qual scope s.heap.objs.size f (.ref cda) cc) A outer s H E) [] σ' H' s' → RelV v u → Q v H' → CE outer P w H s Q u s' :=
      fun {σ' H' v u} J rv q => ⟨v, H', J.os, J.bare, J.base, J.hok, rv, q⟩
    cases fl with
    | ret u =>
      obtain ⟨v, σ', H', J, rv, q⟩ := hs
      exact fin J rv q
    | next =>
      obtain ⟨σ', H', J, q⟩ := hs
      exact fin (v := V.non) (u := Value.none) J rfl q
    | brk =>
      obtain ⟨_, _, _, q⟩ := hs
      exact False.elim q
    | cont =>
      obtain ⟨_, _, _, q⟩ := hs
      exact False.elim q
end
end TS
/-! raise C(e), C an own exception class with one field. -/
namespace TS
open PySem L2
/-- the class named x, as it stands -/
structure ExK (Z : Wd) (x fld : Str) : Prop where
  ex : ∃ (C fI : Addr) (fd : FuncData), Z.mg x = some (.ref C) ∧ OexC Z.K C ∧ PySem.W.findIn Z.K (.ref C) "__init__" = some (some (.ref fI)) ∧ PySem.W.typeIn Z.K (.ref fI) = some (.type "function") ∧
    FnOk Z.P Z.w Z.K Z.mg Z.base (L2.CX Z.P Z.w) 1 fI fd ["self", fld] (spInit Z.K C fld) ∧ Binds Z.K fd ["self", fld] [] ∧ Z.C.cls x = .ref C
def raiseS (x fld : Str) (fr : DA) : DS := fun ρ g => match fr ρ g with
  | .ok [d] g1 => .err ⟨x, [(fld, d)]⟩ ρ g1
  | .err y g1 => .err y ρ g1
  | _ => .bad
section
variable {Z : Wd} {N : List Str} {sc : Scope} {fn : Str → Bool} {k : Nat} {X : Cx} {B : Gd} {W : WX}
theorem Cz.raise (c : Cz Z N sc fn k X B W) {x fld : Str} {e : Expr} {fr : DA} {p pos pos' : Pos} (E : ExK Z x fld) (hk : Nat.ble 2 k = true) (hg : glB sc x = true) (ha : PDA X B W [e] fr) (he : starEach [e] X.env = (false, eval e X.env) :: starEach [] X.env := by rfl) :
    PDS X B W (.Raise (some (.Call (.Name x p) [e] [] pos)) none pos') (raiseS x fld fr) := by
  obtain ⟨C, fI, fd, h1, T, iC, tI, F, hb, hC⟩ := E.ex
  have T' : OexC X.K C := by rw [c.eK]; exact T
  have F' : FnOk X.prog X.w X.K X.mg X.base (L2.CX Z.P Z.w) 1 fI fd ["self", fld] (spInit X.K C fld) := by rw [c.eP, c.ew, c.eK, c.emg, c.ebase]; exact F
  refine PS.weak (ps_raise c.calm c.tk (pmk_oex T' (by rw [c.eK]; exact iC) (by rw [c.eK]; exact tI) F' (c.room.mono (Nat.le_of_ble_eq_true hk)) (by rw [c.eK]; exact hb) .nil (fun pins σ H s e s' I h => ?_) (c.gl hg).1 (by rw [c.emg]; exact h1) ha (c.gl hg).2 he rfl)) fun D σ H z => ?_
  · obtain ⟨_, _, _, _, _, _, _, _, _, _, _, _, f⟩ := h
    exact f.elim
  · obtain ⟨ρ, Ω, g, A, q⟩ := z
    unfold raiseS at q
    refine wA.run A (fun ds g1 vs Ω1 H1 e1 t1 w1 r1 => ?_) (fun y g1 cls dd Ω1 H1 e1 t1 w1 rx => ?_) (fun e1 => ?_)
    · rw [e1] at q
      match ds, r1, q with
      | [d], r1, q =>
        obtain ⟨v, rfl, rv⟩ := one_of r1
        refine ⟨by simp, fun a na => ⟨a, v, rfl, upd_same, fun dx nd ne => ⟨rfl, dx, [(fld, v)], upd_same, by rw [upd_ne ne, upd_same], by rw [upd_ne ne] at nd; exact nd, ?_⟩⟩⟩
        have nd' : H1 dx = none := by rw [upd_ne ne] at nd; exact nd
        have eH : upd (del (upd (upd (upd H1 a (exo a C none)) dx (exd dx [(fld, v)])) a (exo a C (some dx))) a) dx (.xd [(fld, v)]) = upd H1 dx (.xd [(fld, v)]) := by
          funext b
          by_cases hb : b = dx
          · rw [hb, upd_same, upd_same]
          · rw [upd_ne hb, upd_ne hb]
            by_cases hba : b = a
            · rw [hba, del_same, na]
            · rw [del_ne hba, upd_ne hba, upd_ne hb, upd_ne hba]
        rw [eH]
        have tr := Tr.alloc (o := .xd [(fld, v)]) w1.sub nd'
        refine q (.ref C) (some dx) σ _ _ (t1.trans tr).gr ((A.go t1 w1).go tr (w1.alloc nd')) ⟨by rw [c.eC]; exact hC.symm, dx, [v], rfl, upd_same, ?_⟩
        exact .cons (Rep.mono tr.gr _ _ rv) .nil
      | [], r1, q => exact q.elim
      | _ :: _ :: _, r1, q => exact q.elim
    · rw [e1] at q
      exact q cls dd σ Ω1 H1 t1.gr (A.go t1 w1) rx
    · rw [e1] at q
      exact q.elim
end
end TS
/-! What an except suite reads of a caught error. -/
namespace TS
open PySem L2
/-- in the suite: the name's slot, the error's dict -/
def cnd (a dx : Addr) (fsV : List (Str × V)) (i : Nat) : St → Hp → Prop := fun σ H => σ[i]? = some (some (.ref a)) ∧ H dx = some (.xd fsV)
/-- a value, nothing changed -/
def tP (P : St → Hp → Prop) (v : V) : TE := fun σ H Q => P σ H ∧ Q v H
def tPA (P : St → Hp → Prop) (vs : List V) : TA := fun σ H Q => P σ H ∧ Q vs H
def tPL (P : St → Hp → Prop) (vs : List V) : TE := fun σ H Q => P σ H ∧ ∀ l, H l = none → Q (.ref l) (upd H l (.lst vs))
def tPT (P : St → Hp → Prop) (vs : List V) : TE := fun σ H Q => P σ H ∧ ∀ l, H l = none → Q (.ref l) (upd H l (.tup vs))
/-- what the class C says to one who caught an error of it; T: a class that it is asked for -/
structure XcC (K : PySem.W.Frag) (C : Addr) : Prop where
  xf : XfC K C
  cl : (PySem.W.clsIn K C).isSome = true
  ha : PySem.W.findIn K (.ref C) "__class__" = some (some (.builtin "object.__class__"))
  hn : PySem.W.specialIn K (.builtin "object.__class__") "__get__" = some (some (.builtin "getset_descriptor.__get__"))
  ht : PySem.W.takesIn K (.builtin "object.__class__") = some true
  hm : PySem.W.mroIn K C (.type "object") = some true
  exm : PySem.W.exmOne K (.ref C) (.ref C) = some true
section
variable {X : Cx} {P : St → Hp → Prop} {e : Expr} {es : List Expr} {v : V} {vs : List V} {pos : Pos}
theorem hp_str {s : Str} {j : Nat} : PE X (.Constant (.str s) j pos) (tP P (.str s)) := PE.weak pe_str fun _ _ _ h => h.2
theorem hp_int {s : Int} {j : Nat} : PE X (.Constant (.int s) j pos) (tP P (.int s)) := PE.weak pe_int fun _ _ _ h => h.2
theorem hp_non {j : Nat} : PE X (.Constant .none j pos) (tP P .non) := PE.weak pe_non fun _ _ _ h => h.2
theorem hpa_nil : PA X [] (tPA P []) := ⟨fun pos pins s σ H Q I h => (pa_nil (X := X)).run pos pins s σ H Q I h.2⟩
theorem hpa_cons (he : PE X e (tP P v)) (hr : PA X es (tPA P vs)) (hs : starEach (e :: es) X.env = (false, eval e X.env) :: starEach es X.env := by rfl) : PA X (e :: es) (tPA P (v :: vs)) :=
  ⟨fun pos pins s σ H Q I h => (pa_cons he hr hs).run pos pins s σ H Q I ⟨h.1, h.1, h.2⟩⟩
theorem hp_lst (h : PA X es (tPA P vs)) (hl : vs.length ≤ 1000) : PE X (.List es pos) (tPL P vs) := PE.weak (pe_lst h) fun σ H Q q => ⟨q.1, Nat.le_trans hl (by decide), q.2⟩
theorem hp_tup {x1} (h : PA X es (tPA P vs)) (hl : vs.length ≤ 1000) : PE X (.Tuple es x1 pos) (tPT P vs) := PE.weak (pe_tup h) fun σ H Q q => ⟨q.1, Nat.le_trans hl (by decide), q.2⟩
/-- A if test else B, the test true -/
def tPI (P : St → Hp → Prop) (t : TE) : TE := fun σ H Q => P σ H ∧ t σ H Q
theorem hp_if {c a b : Expr} {ta tb : TE} (hc : PE X c (tP P (.bl true))) (ha : PE X a ta) (hb : PE X b tb) (he : ∀ whole, isTrue c X.env whole = (do let v ← whole; standAt c.pos; holding [v] (truthy v)) := by intro _; rfl) : PE X (.IfExp c a b pos) (tPI P ta) :=
  PE.weak (pe_ifExp (pt_val hc he) ha hb) fun σ H Q q => ⟨q.1, true, rfl, q.2⟩
end
section
variable {X : Cx} {a C dx : Addr} {oe : Obj} {pn : List (Addr × Obj)} {fsV : List (Str × V)} {i : Nat} {n F x : Str} {v : V} {p p1 p2 pos : Pos}
theorem hp_fld (T : XcC X.K C) (hno : PySem.W.findIn X.K (.ref C) F = some none) (hz : Zc (.ref C) (some dx) oe) (hf : ∃ vs, oe.data = .fields vs) (hv : PE (X.suite a ((a, oe) :: pn)) (.Name n p) (tVar i)) (hl : fsV.lookup F = some v)
    (hb : attributeBase (.Name n p) F X.env (eval (.Name n p) X.env) = eval (.Name n p) X.env := by rfl) : PE (X.suite a ((a, oe) :: pn)) (.Attribute (.Name n p) F pos) (tP (cnd a dx fsV i) v) :=
  PE.weak (pe_xf T.xf hno hz hf hv hb) fun σ H Q h => ⟨.ref a, h.1.1, rfl, rfl, dx, fsV, v, rfl, h.1.2, hl, h.2⟩
/-- isinstance(error, T) -/
def rIsD (K : PySem.W.Frag) (C T a dx : Addr) (fsV : List (Str × V)) : List V → Hp → VK → Prop := fun xs H Q => xs = [.ref a, .ref T] ∧ H dx = some (.xd fsV) ∧ Q (.bl true) H
theorem call_isD {T : Addr} (E : XcC X.K C) (hk : PySem.W.kitOne X.K (.ref C) (.ref T) = some true) (hz : Zc (.ref C) (some dx) oe) (hf : ∃ vs, oe.data = .fields vs) : CallR (X.suite a ((a, oe) :: pn)) (.builtin "isinstance") (rIsD X.K C T a dx fsV) := by
  intro pins s σ H xs us Q I r h
  obtain ⟨rfl, hd, q⟩ := h
  cases r with
  | cons rx rr =>
    cases rr with
    | cons rt rr =>
      cases rr
      cases rx
      cases rt
      obtain ⟨hget, _⟩ := I.pin (a, oe) (List.mem_append.mpr (.inl List.mem_cons_self))
      obtain ⟨vs, hv⟩ := hf
      have hx : ObjOk X.prog X.w H s.heap dx (.xd fsV) := I.hok dx _ hd
      obtain ⟨mA, hns, hr⟩ := hx
      obtain ⟨od, ho, hl⟩ := lookIn_ns hns
      have J : PySem.W.InstAt s.heap a oe C (some od) := ⟨hget, hz.1, by unfold PySem.W.notCls; rw [hv] <;> rfl, by rw [hz.2]; exact ho⟩
      exact PySem.W.kia_one (PySem.W.kitx_exc E.cl E.xf.ga E.xf.gg E.xf.exC E.ha E.hn E.ht E.hm) I.kIn J hk (fun z => nomatch z) fun tk => ⟨.bl true, H, I.kept (t' := tk) fun _ _ z => z, rfl, q⟩
end
end TS
/-! try: .., except C as n: y = e. -/
namespace TS
open PySem L2
/-- a part of what an except suite makes: a constant, or a field of the error -/
inductive HA where
  | c (d : D)
  | f (F : Str)
inductive HK where
  | at (h : HA)
  | ls (hs : List HA)
  | tp (hs : List HA)
def hA (x : Xc) : HA → Option D
  | .c d => some d
  | .f F => x.fs.lookup F
def hAs (x : Xc) : List HA → Option (List D)
  | [] => some []
  | h :: hs => (hA x h).bind fun d => (hAs x hs).map fun r => d :: r
def hK (x : Xc) : HK → Option D
  | .at h => hA x h
  | .ls hs => (hAs x hs).map D.lst
  | .tp hs => (hAs x hs).map D.tup
/-- the same of values -/
def hV (fsV : List (Str × V)) : HA → V → Prop
  | .c d, v => flatD d = true ∧ v = toV d
  | .f F, v => fsV.lookup F = some v
def hVs (fsV : List (Str × V)) : List HA → List V → Prop
  | [], [] => True
  | h :: hs, v :: vs => hV fsV h v ∧ hVs fsV hs vs
  | _, _ => False
/-- the reading of the suite's expression -/
def teK (P : St → Hp → Prop) (fsV : List (Str × V)) : HK → TE
  | .at h => fun σ H Q => ∃ v, hV fsV h v ∧ P σ H ∧ Q v H
  | .ls hs => fun σ H Q => ∃ vs, hVs fsV hs vs ∧ P σ H ∧ ∀ l, H l = none → Q (.ref l) (upd H l (.lst vs))
  | .tp hs => fun σ H Q => ∃ vs, hVs fsV hs vs ∧ P σ H ∧ ∀ l, H l = none → Q (.ref l) (upd H l (.tup vs))
def trS (x : Str) (i t : Nat) (kd : HK) (fb : DS) : DS := fun ρ g => match fb ρ g with
  | .err y ρ1 g1 => if y.cls = x ∧ y.fs.isEmpty = false ∧ i < ρ1.length then (match hK y kd with
    | some d => .nx (((ρ1.set i none).set t (some (.dat d))).set i none) g1
    | none => .bad) else .bad
  | r => r
/-- the class named x, for one who catches it -/
structure XcAt (Z : Wd) (x sup : Str) (flds : List Str) : Prop where
  ex : ∃ C T : Addr, Z.mg x = some (.ref C) ∧ Z.mg sup = some (.ref T) ∧ XcC Z.K C ∧ PySem.W.kitOne Z.K (.ref C) (.ref T) = some true ∧ (∀ F ∈ flds, PySem.W.findIn Z.K (.ref C) F = some none) ∧ Z.C.cls x = .ref C
section
variable {K : PySem.W.Frag} {Ω : Om}
theorem lookup_rep : ∀ {fs : List (Str × D)} {vs : List V} {F : Str} {d : D}, RepL K Ω (fs.map (·.2)) vs → fs.lookup F = some d → ∃ v, ((fs.map (·.1)).zip vs).lookup F = some v ∧ Rep K Ω d v
  | [], vs, F, d, r, h => by cases h
  | (G0, d0) :: fs, vs, F, d, r, h => by
    obtain ⟨v, r', rfl, h2, h3⟩ := repL_cons.mp r
    rw [List.lookup_cons] at h
    simp only [List.map_cons, List.zip_cons_cons, List.lookup_cons]
    cases e : F == G0 with
    | true => rw [e] at h; cases h; exact ⟨v, rfl, h2⟩
    | false => rw [e] at h; exact lookup_rep h3 h
theorem flat_rep {d : D} (h : flatD d = true) : Rep K Ω d (toV d) := by
  cases d with
  | non => exact rep_non.mpr rfl
  | bl b => exact rep_bl.mpr rfl
  | int b => exact rep_int.mpr rfl
  | str b => exact rep_str.mpr rfl
  | _ => cases h
end
def flatH : HA → Bool
  | .c d => flatD d
  | .f _ => true
section
variable {K : PySem.W.Frag} {Ω : Om}
theorem hA_rep {x : Xc} {vs : List V} (r : RepL K Ω (x.fs.map (·.2)) vs) {h : HA} (hf : flatH h = true) {d : D} (e : hA x h = some d) : ∃ v, hV ((x.fs.map (·.1)).zip vs) h v ∧ Rep K Ω d v := by
  cases h with
  | c d0 => cases e; exact ⟨toV d, ⟨hf, rfl⟩, flat_rep hf⟩
  | f F => exact lookup_rep r e
theorem hAs_rep {x : Xc} {vs : List V} (r : RepL K Ω (x.fs.map (·.2)) vs) : ∀ {hs : List HA}, hs.all flatH = true → ∀ {ds : List D}, hAs x hs = some ds → ∃ us, hVs ((x.fs.map (·.1)).zip vs) hs us ∧ RepL K Ω ds us
  | [], _, ds, e => by cases e; exact ⟨[], trivial, .nil⟩
  | h :: hs, hf, ds, e => by
    rw [List.all_cons, Bool.and_eq_true] at hf
    unfold hAs at e
    cases e1 : hA x h with
    | none => rw [e1] at e; cases e
    | some d =>
      rw [e1] at e
      cases e2 : hAs x hs with
      | none => rw [e2] at e; cases e
      | some r2 =>
        rw [e2] at e
        cases e
        obtain ⟨v, h1, h2⟩ := hA_rep r hf.1 e1
        obtain ⟨us, h3, h4⟩ := hAs_rep r hf.2 e2
        exact ⟨v :: us, ⟨h1, h3⟩, .cons h2 h4⟩
end
def flatK : HK → Bool
  | .at h => flatH h
  | .ls hs => hs.all flatH
  | .tp hs => hs.all flatH
theorem Slots.put {K : PySem.W.Frag} {H0 : Hp} {ρ : Rho} {Ω : Om} {H : Hp} {σ : St} {i : Nat} {v : V} (s : Slots K H0 ρ Ω H σ) : Slots K H0 (ρ.set i none) Ω H (σ.set i (some v)) := by
  have key : ∀ (j : Nat) (x : SV), (ρ.set i none)[j]? = some (some x) → i ≠ j ∧ ρ[j]? = some (some x) := fun j x h => by
    by_cases z : i = j
    · subst z
      have hi : i < ρ.length := by
        have := (List.getElem?_eq_some_iff.mp h).1
        simpa using this
      rw [List.getElem?_set_self hi] at h; cases h
    · rw [List.getElem?_set_ne z] at h; exact ⟨z, h⟩
  refine ⟨by simp [s.len], fun j x h => ?_, fun j k x y u h1 h2 h3 h4 => ?_⟩
  · obtain ⟨z, h⟩ := key j x h
    rw [List.getElem?_set_ne z]
    exact s.get j x h
  · obtain ⟨z1, h1⟩ := key j _ h1
    obtain ⟨z2, h2⟩ := key k _ h2
    rw [List.getElem?_set_ne z1] at h3
    rw [List.getElem?_set_ne z2] at h4
    exact s.ne j k x y u h1 h2 h3 h4
def locB (N : List Str) (sc : Scope) (i : Nat) (n : Str) : Bool := decide (N[i]? = some n) && (match sc.names.lookup n with
  | some .local => true
  | _ => false)
section
variable {Z : Wd} {N : List Str} {sc : Scope} {fn : Str → Bool} {k : Nat} {X : Cx} {B : Gd} {W : WX}
theorem Cz.tr (c : Cz Z N sc fn k X B W) {pn : List (Addr × Obj)} {xe : Value → Shared → Prop} {W' : WX} (tk : Takes (X.tr pn xe) W') : Cz Z N sc fn k (X.tr pn xe) B W' :=
  ⟨c.eP, c.ew, c.eK, c.emg, c.ebase, c.eC, c.eN, c.esc, c.efn, c.calm, c.room, tk, c.nd⟩
theorem Cz.try1 (c : Cz Z N sc fn k X B W) (hs : X.stack = X.env :: X.outer) (hf : X.env.frame = some X.env.locals) (i t : Nat) (kd : HK) (hkd : flatK kd = true) {x sup n y : Str} {flds : List Str} {e : Expr} {body : List Stmt} {fb : DS} {np yp ap hp' pos : Pos}
    (E : XcAt Z x sup flds) (hg : glB sc x = true) (hi : locB N sc i n = true) (ht : tgB N sc fn t y = true)
    (hb : ∀ X' W', Cz Z N sc fn k X' B W' → PassesOwn (model X'.prog X'.w) X'.A X'.env X'.xe → PDSs X' B W' body fb)
    (hh : ∀ (a : Addr) (oe : Obj) (pn : List (Addr × Obj)) (C T dx : Addr) (fsV : List (Str × V)), X.mg sup = some (.ref T) → XcC X.K C → PySem.W.kitOne X.K (.ref C) (.ref T) = some true → (∀ F ∈ flds, PySem.W.findIn X.K (.ref C) F = some none) → Zc (.ref C) (some dx) oe → (∃ vs, oe.data = .fields vs) →
      (∀ p : Pos, PE (X.suite a ((a, oe) :: pn)) (.Name n p) (tVar i)) → PE (X.suite a ((a, oe) :: pn)) e (teK (cnd a dx fsV i) fsV kd))
    (hsw : swapsWithSole [.Name y yp] e ap.line X.env = pure false := by rfl) (hw : swappedStores [.Name y yp] e X.env = pure none := by rfl) (h1 : (assignEach [.Name y yp] X.env).map (·.2) = [assign (.Name y yp) X.env] := by rfl)
    (hd1 : (n == ("__debug__" : Str)) = false := by decide) (hd2 : (n == ("__classdict__" : Str)) = false := by decide) :
    PDS X B W (.Try body [.ExceptHandler (some (.Name x np)) (some n) [.Assign [.Name y yp] e ap] hp'] [] [] pos) (trS x i t kd fb) := by
  obtain ⟨C, T, m1, m2, xc, kt, fl, hC⟩ := E.ex
  unfold locB at hi
  rw [Bool.and_eq_true, decide_eq_true_eq] at hi
  have hln : sc.names.lookup n = some .local := by
    have := hi.2
    split at this
    · assumption
    · cases this
  obtain ⟨g1, g2, g3, g4⟩ := tgB_ok c ht
  have hN : X.N[i]? = some n := by rw [c.eN]; exact hi.1
  have hl : X.env.scope.names.lookup n = some .local := by rw [c.esc]; exact hln
  refine PS.weak (ps_try_as (tb := fun W' => wS X.K B W' fb) (ts := fun a cls d => fun D σ H => ∃ (dx : Addr) (fsV : List (Str × V)), cls = .ref C ∧ d = some dx ∧ tAsg (teK (cnd a dx fsV i) fsV kd) (gName t) D σ H) (Wout := W) hs hf (by rw [c.eN]; exact c.nd) hN hl (c := .ref C)
    ⟨(c.gl hg).1, (c.gl hg).2, .inl (by rw [c.emg]; exact m1)⟩ c.tk (fun W' pn xe tk po => hb (X.tr pn xe) W' (c.tr tk) po) (fun a oe cls d pn hz hfl => ⟨fun pins s σ H D I ⟨dx, fsV, e1, e2, h⟩ => ?_⟩)) fun D' σ H z => ?_
  · subst e1 e2
    refine (pss_one (ps_asg (hh a oe pn C T dx fsV (by rw [c.emg]; exact m2) (by rw [c.eK]; exact xc) (by rw [c.eK]; exact kt) (by rw [c.eK]; exact fl) hz hfl (fun _ => pe_var (X := X.suite a ((a, oe) :: pn)) hN (.inl hl) hd1 hd2)) (pg_name (X := X.suite a ((a, oe) :: pn)) g1 g2 g3 g4) hsw hw h1)).run pins s σ H D I h
  · obtain ⟨ρ, Ω, g, A, p⟩ := z
    refine ⟨ρ, Ω, g, A, ?_⟩
    unfold trS at p
    cases e1 : fb ρ g with
    | nx ρ1 g1 => rw [e1] at p; exact p
    | rt d g1 => rw [e1] at p; exact p
    | bk ρ1 g1 => rw [e1] at p; exact p
    | ct ρ1 g1 => rw [e1] at p; exact p
    | bad => rw [e1] at p; exact p
    | err y1 ρ1 g1 =>
      rw [e1] at p
      simp only at p
      split at p
      · rename_i hc
        obtain ⟨hc1, hc2, hc3⟩ := hc
        cases e2 : hK y1 kd with
        | none => rw [e2] at p; exact p.elim
        | some d =>
          rw [e2] at p
          intro cls dd σ1 Ω1 H1 gr A1 rx
          obtain ⟨r1, r2⟩ := rx
          have r2' : ∃ d vs, dd = some d ∧ H1 d = some (.xd ((y1.fs.map (·.1)).zip vs)) ∧ RepL X.K Ω1 (y1.fs.map (·.2)) vs := by
            cases e3 : y1.fs with
            | nil => rw [e3] at hc2; cases hc2
            | cons q qs => rw [e3] at r2; exact r2
          obtain ⟨dx, vs, rfl, hdx, rl⟩ := r2'
          have ecls : cls = .ref C := by rw [r1, c.eC, hc1]; exact hC
          subst ecls
          refine ⟨true, by rw [c.eK]; exact xc.exm, fun _ a na => ⟨dx, (y1.fs.map (·.1)).zip vs, rfl, rfl, ?_⟩, fun z => by cases z⟩
          have hlt : i < σ1.length := by rw [← A1.sl.len]; exact hc3
          have cn : cnd a dx ((y1.fs.map (·.1)).zip vs) i (σ1.set i (some (.ref a))) H1 := ⟨List.getElem?_set_self hlt, hdx⟩
          show teK (cnd a dx _ i) _ kd (σ1.set i (some (.ref a))) H1 fun v H2 => D'.nx (((σ1.set i (some (.ref a))).set t (some v)).set i none) H2
          cases kd with
          | «at» h =>
            obtain ⟨v, v1, v2⟩ := hA_rep rl hkd e2
            exact ⟨v, v1, cn, p _ Ω1 H1 gr ⟨A1.tr, A1.wf, ((A1.sl.put).set v2).wipe1⟩⟩
          | ls hs =>
            have e2 : (hAs y1 hs).map TS.D.lst = some d := e2
            cases e4 : hAs y1 hs with
            | none => rw [e4] at e2; cases e2
            | some ds =>
              rw [e4] at e2
              cases e2
              obtain ⟨us, v1, v2⟩ := hAs_rep rl hkd e4
              refine ⟨us, v1, cn, fun l nl => ?_⟩
              have tr := Tr.alloc (o := .lst us) A1.wf.sub nl
              exact p _ _ _ (gr.trans tr.gr) ⟨A1.tr.trans tr, A1.wf.alloc nl, (((A1.sl.put).tr tr).set (rep_lst.mpr ⟨l, us, rfl, add_get, RepL.mono tr.gr _ _ v2⟩)).wipe1⟩
          | tp hs =>
            have e2 : (hAs y1 hs).map TS.D.tup = some d := e2
            cases e4 : hAs y1 hs with
            | none => rw [e4] at e2; cases e2
            | some ds =>
              rw [e4] at e2
              cases e2
              obtain ⟨us, v1, v2⟩ := hAs_rep rl hkd e4
              refine ⟨us, v1, cn, fun l nl => ?_⟩
              have tr := Tr.alloc (o := .tup us) A1.wf.sub nl
              exact p _ _ _ (gr.trans tr.gr) ⟨A1.tr.trans tr, A1.wf.alloc nl, (((A1.sl.put).tr tr).set (rep_tup.mpr ⟨l, us, rfl, .inl (.inl add_get), RepL.mono tr.gr _ _ v2⟩)).wipe1⟩
      · exact p.elim
end
end TS
/-! To reckon with functions over data: what an expression gives (EW), how a statement ends (SW). -/
namespace TS
open PySem L2
@[irreducible] def EW {α : Type} (r : Res α) (Q : α → G → Prop) : Prop := match r with
  | .ok a g => Q a g
  | _ => False
@[irreducible] def SW (r : SRes) (N : Rho → G → Prop) (R : D → G → Prop) : Prop := match r with
  | .nx ρ g => N ρ g
  | .rt d g => R d g
  | _ => False
section Plain
section
variable {α β : Type} {Q : α → G → Prop} {QD : D → G → Prop} {QB : Bool → G → Prop} {QL : List D → G → Prop} {QO : Option Int → G → Prop} {N : Rho → G → Prop} {R : D → G → Prop} {ρ : Rho} {g : G} {fa fb fc fe : DE} {ft fu : DT} {fr : DA} {f h : DS}
theorem ew_ok {a : α} : EW (.ok a g) Q = Q a g := by with_unfolding_all rfl
theorem ew_bad : EW (.bad : Res α) Q = False := by with_unfolding_all rfl
theorem ew_err {x : Xc} : EW (.err x g : Res α) Q = False := by with_unfolding_all rfl
theorem ew_bind {r : Res β} {k : β → G → Res α} : EW (r.bind k) Q = EW r fun a g => EW (k a g) Q := by with_unfolding_all (cases r <;> rfl)
theorem ew_opt {o : Option α} : EW (match o with | some d => .ok d g | none => .bad) Q = ∃ d, o = some d ∧ Q d g := by
  with_unfolding_all
  cases o <;> simp [EW]
theorem sw_rnx : SW (.nx ρ g) N R = N ρ g := by with_unfolding_all rfl
theorem sw_rrt {d : D} : SW (.rt d g) N R = R d g := by with_unfolding_all rfl
theorem sw_rbk : SW (.bk ρ g) N R = False := by with_unfolding_all rfl
theorem sw_rct : SW (.ct ρ g) N R = False := by with_unfolding_all rfl
theorem sw_rerr {x : Xc} : SW (.err x ρ g) N R = False := by with_unfolding_all rfl
theorem sw_rbad : SW .bad N R = False := by with_unfolding_all rfl
theorem ew_mono {r : Res α} {Q' : α → G → Prop} (h : EW r Q) (k : ∀ a g, Q a g → Q' a g) : EW r Q' := by
  with_unfolding_all
  cases r with
  | ok a g => exact k a g h
  | err x g => exact h
  | bad => exact h
theorem sw_mono {r : SRes} {N' : Rho → G → Prop} {R' : D → G → Prop} (h : SW r N R) (k : ∀ ρ g, N ρ g → N' ρ g) (k2 : ∀ d g, R d g → R' d g) : SW r N' R' := by
  with_unfolding_all
  cases r with
  | nx ρ g => exact k ρ g h
  | rt d g => exact k2 d g h
  | bk ρ g => exact h
  | ct ρ g => exact h
  | err x ρ g => exact h
  | bad => exact h
theorem ew_eq {r : Res α} {v : α} (h : EW r fun a g' => a = v ∧ g' = g) : r = .ok v g := by
  with_unfolding_all
  cases r with
  | ok a g' => rw [ew_ok] at h; obtain ⟨rfl, rfl⟩ := h; rfl
  | err x g' => exact h.elim
  | bad => exact h.elim
theorem ew_ex {r : Res α} (h : EW r Q) : ∃ a g', r = .ok a g' ∧ Q a g' := by
  with_unfolding_all
  cases r with
  | ok a g' => exact ⟨a, g', rfl, h⟩
  | err x g' => exact h.elim
  | bad => exact h.elim
theorem ew_var {i : Nat} : EW (varE i ρ g) QD = ∃ d, ρ[i]? = some (some (.dat d)) ∧ QD d g := by
  with_unfolding_all
  unfold varE
  apply propext
  constructor
  · intro h
    split at h
    · rename_i d hd; exact ⟨d, hd, h⟩
    · exact h.elim
  · rintro ⟨d, hd, h⟩
    rw [hd]
    exact h
theorem ew_c {d : D} : EW (cE d ρ g) QD = QD d g := by with_unfolding_all rfl
theorem ew_op {o : D → D → Option D} : EW (opE o fa fb ρ g) QD = EW (fa ρ g) fun a g1 => EW (fb ρ g1) fun b g2 => ∃ d, o a b = some d ∧ QD d g2 := by
  with_unfolding_all
  unfold opE
  simp only [ew_bind]
  congr 1; funext a g1; congr 1; funext b g2
  cases h : o a b <;> simp [EW]
theorem ew_un {o : D → Option D} : EW (unE o fa ρ g) QD = EW (fa ρ g) fun a g1 => ∃ d, o a = some d ∧ QD d g1 := by
  with_unfolding_all
  unfold unE
  simp only [ew_bind]
  congr 1; funext a g1
  cases h : o a <;> simp [EW]
theorem ew_nil : EW (nilA ρ g) QL = QL [] g := by with_unfolding_all rfl
theorem ew_cons : EW (consA fa fr ρ g) QL = EW (fa ρ g) fun a g1 => EW (fr ρ g1) fun r g2 => QL (a :: r) g2 := by
  with_unfolding_all
  unfold consA
  simp only [ew_bind, ew_ok]
theorem ew_cl {o : List D → Option D} : EW (clE o fr ρ g) QD = EW (fr ρ g) fun a g1 => ∃ d, o a = some d ∧ QD d g1 := by
  with_unfolding_all
  unfold clE
  simp only [ew_bind]
  congr 1; funext a g1
  cases h : o a <;> simp [EW]
def asB : D → Option Bool
  | .bl b => some b
  | _ => none
theorem ew_toT : EW (toT fa ρ g) QB = EW (fa ρ g) fun a g1 => ∃ b, asB a = some b ∧ QB b g1 := by
  with_unfolding_all
  unfold toT
  simp only [ew_bind]
  congr 1
  funext a g1
  cases a <;> simp [EW, asB]
theorem ew_not : EW (notT ft ρ g) QB = EW (ft ρ g) fun b g1 => QB (!b) g1 := by
  with_unfolding_all
  unfold notT
  simp only [ew_bind, ew_ok]
theorem ew_and : EW (andT ft fu ρ g) QB = EW (ft ρ g) fun b g1 => if b = true then EW (fu ρ g1) QB else QB false g1 := by
  with_unfolding_all
  unfold andT
  simp only [ew_bind]
  congr 1
  funext b g1
  cases b <;> rfl
theorem ew_or : EW (orT ft fu ρ g) QB = EW (ft ρ g) fun b g1 => if b = true then QB true g1 else EW (fu ρ g1) QB := by
  with_unfolding_all
  unfold orT
  simp only [ew_bind]
  congr 1
  funext b g1
  cases b <;> rfl
theorem ew_notE : EW (notE fa ρ g) QD = EW (fa ρ g) fun a g1 => ∃ b, asB a = some b ∧ QD (.bl (!b)) g1 := by
  with_unfolding_all
  unfold notE
  simp only [ew_bind]
  congr 1
  funext a g1
  cases a <;> simp [EW, asB]
theorem ew_andE : EW (andE fa fb ρ g) QD = EW (fa ρ g) fun a g1 => ∃ b, asB a = some b ∧ if b = true then EW (fb ρ g1) QD else QD (.bl false) g1 := by
  with_unfolding_all
  unfold andE
  simp only [ew_bind]
  congr 1
  funext a g1
  cases a with
  | bl b => cases b <;> simp [EW, asB]
  | _ => simp [EW, asB]
theorem ew_orE : EW (orE fa fb ρ g) QD = EW (fa ρ g) fun a g1 => ∃ b, asB a = some b ∧ if b = true then QD (.bl true) g1 else EW (fb ρ g1) QD := by
  with_unfolding_all
  unfold orE
  simp only [ew_bind]
  congr 1
  funext a g1
  cases a with
  | bl b => cases b <;> simp [EW, asB]
  | _ => simp [EW, asB]
theorem ew_if : EW (ifE ft fa fb ρ g) QD = EW (ft ρ g) fun b g1 => if b = true then EW (fa ρ g1) QD else EW (fb ρ g1) QD := by
  with_unfolding_all
  unfold ifE
  simp only [ew_bind]
  congr 1
  funext b g1
  cases b <;> rfl
theorem ew_ch {o o' : D → D → Option D} : EW (chE o o' fa fb fc ρ g) QD = EW (fa ρ g) fun a g1 => EW (fb ρ g1) fun b g2 => ∃ k, (o a b).bind asB = some k ∧ if k = true then EW (fc ρ g2) (fun c g3 => ∃ d, o' b c = some d ∧ QD d g3) else QD (.bl false) g2 := by
  with_unfolding_all
  unfold chE
  simp only [ew_bind]
  congr 1
  funext a g1
  congr 1
  funext b g2
  cases o a b with
  | none => simp [EW]
  | some d =>
    cases d with
    | bl k =>
      cases k with
      | false => simp [EW, asB]
      | true =>
        simp only [asB, ew_bind, Option.bind_some]
        apply propext
        constructor
        · intro q
          refine ⟨true, rfl, ?_⟩
          refine ew_mono q fun c g3 q => ?_
          cases h : o' b c with
          | none => rw [h] at q; exact q.elim
          | some d => rw [h] at q; exact ⟨d, rfl, q⟩
        · rintro ⟨k, hk, q⟩
          cases hk
          refine ew_mono q fun c g3 q => ?_
          obtain ⟨d, hd, q⟩ := q
          rw [hd]
          exact q
    | _ => simp [EW, asB]
theorem ew_call {n : Nat} {F : DF} : EW (callE n F fr ρ g) QD = EW (fr ρ g) fun ds g1 => ds.length = n ∧ EW (F ds g1) QD := by
  with_unfolding_all
  unfold callE
  simp only [ew_bind]
  congr 1
  funext ds g1
  by_cases h : ds.length = n
  · simp [h]
  · simp [h, EW]
theorem ew_run {n : Nat} {fb : DS} {ds : List D} : EW (runD n fb ds g) QD = SW (fb (startR n ds) g) (fun _ g1 => QD .non g1) QD := by
  with_unfolding_all
  unfold runD
  cases fb (startR n ds) g <;> rfl
def isG : D → Bool
  | .gen => true
  | _ => false
theorem ew_isi {Ts : List String} : EW (isiE Ts fa ρ g) QD = EW (fa ρ g) fun d g1 => isG d = false ∧ QD (.bl (Ts.any fun t => subTy (tyN d) t)) g1 := by
  with_unfolding_all
  unfold isiE
  simp only [ew_bind]
  congr 1
  funext d g1
  cases d <;> simp [EW, isG]
theorem ew_noO : EW (noO ρ g) QO = QO none g := by with_unfolding_all rfl
def asI : D → Option Int
  | .int i => some i
  | _ => none
theorem ew_soO : EW (soO fa ρ g) QO = EW (fa ρ g) fun d g1 => ∃ i, asI d = some i ∧ QO (some i) g1 := by
  with_unfolding_all
  unfold soO
  simp only [ew_bind]
  congr 1
  funext d g1
  cases d <;> simp [EW, asI]
theorem ew_sl {fl fh : DO} : EW (slE fa fl fh ρ g) QD = EW (fa ρ g) fun d g1 => EW (fl ρ g1) fun lo g2 => EW (fh ρ g2) fun hi g3 => ∃ r, slO d lo hi = some r ∧ QD r g3 := by
  with_unfolding_all
  unfold slE
  simp only [ew_bind]
  congr 1; funext d g1; congr 1; funext lo g2; congr 1; funext hi g3
  cases h : slO d lo hi <;> simp [EW]
theorem ew_ownIx {i : Nat} : EW (ownIxE i fa ρ g) QD = ∃ ds, lstAt ρ i = some ds ∧ EW (fa ρ g) fun d g1 => ∃ k, asI d = some k ∧ ∃ x, atI ds k = some x ∧ QD x g1 := by
  with_unfolding_all
  unfold ownIxE
  apply propext
  constructor
  · intro h
    split at h
    · rename_i ds hd
      refine ⟨ds, hd, ?_⟩
      rw [ew_bind] at h
      refine ew_mono h fun d g1 q => ?_
      cases d with
      | int k =>
        refine ⟨k, rfl, ?_⟩
        simp only at q
        cases e : atI ds k with
        | none => rw [e] at q; exact q.elim
        | some x => rw [e] at q; exact ⟨x, rfl, q⟩
      | _ => exact q.elim
    · exact h.elim
  · rintro ⟨ds, hd, h⟩
    rw [hd]
    simp only [ew_bind]
    refine ew_mono h fun d g1 q => ?_
    obtain ⟨k, hk, x, hx, q⟩ := q
    cases d with
    | int k' =>
      cases hk
      simp only [hx]
      exact q
    | _ => cases hk
theorem ew_ownLen {i : Nat} : EW (ownLenE i ρ g) QD = ∃ ds, lstAt ρ i = some ds ∧ QD (.int ds.length) g := by
  with_unfolding_all
  unfold ownLenE
  apply propext
  constructor
  · intro h
    split at h
    · rename_i ds hd; exact ⟨ds, hd, h⟩
    · exact h.elim
  · rintro ⟨ds, hd, h⟩
    rw [hd]
    exact h
/-- the items of what is walked -/
def items : D → Option (List D)
  | .lst ds => some ds
  | .tup ds => some ds
  | .scr ns => some (ns.map D.int)
  | _ => none
theorem ew_seqI : EW (seqI fa ρ g) QL = EW (fa ρ g) fun d g1 => ∃ ds, items d = some ds ∧ QL ds g1 := by
  with_unfolding_all
  unfold seqI
  simp only [ew_bind]
  congr 1
  funext d g1
  cases d <;> simp [EW, items]
theorem ew_rngI : EW (rngI fr ρ g) QL = EW (fr ρ g) fun ds g1 => ∃ r, rngO ds = some r ∧ QL r g1 := by
  with_unfolding_all
  unfold rngI
  simp only [ew_bind]
  congr 1; funext ds g1
  cases h : rngO ds <;> simp [EW]
theorem ew_enI : EW (enI fr ρ g) QL = EW (fr ρ g) fun ds g1 => ∃ r, enO ds = some r ∧ QL r g1 := by
  with_unfolding_all
  unfold enI
  simp only [ew_bind]
  congr 1; funext ds g1
  cases h : enO ds <;> simp [EW]
theorem ew_yes : EW (yesT ρ g) QB = QB true g := by with_unfolding_all rfl
theorem ew_lc {fi : DA} {vs : List Nat} {t : Tg} : EW (lcE fi vs t ft fe ρ g) QD = EW (fi ρ g) fun ds g1 => EW (lcL t ft fe (wipeR ρ vs) ds g1) fun r g2 => r.length ≤ sizeLine ∧ QD (.lst r) g2 := by
  with_unfolding_all
  unfold lcE
  cases fi ρ g with
  | ok ds g1 =>
    simp only [ew_ok]
    cases lcL t ft fe (wipeR ρ vs) ds g1 with
    | ok r g2 => by_cases hr : r.length ≤ sizeLine <;> simp [hr, EW]
    | err x g2 => rfl
    | bad => rfl
  | err x g1 => rfl
  | bad => rfl
theorem lstOf_own {ds : List D} : lstOf (some (.own ds)) = some ds := rfl
theorem lstOf_lst {ds : List D} : lstOf (some (.dat (.lst ds))) = some ds := rfl
/-! statements -/
theorem sw_nx : SW (nxS ρ g) N R = N ρ g := by with_unfolding_all rfl
theorem sw_bad : SW (badS ρ g) N R = False := by with_unfolding_all rfl
theorem sw_seq : SW (seqS f h ρ g) N R = SW (f ρ g) (fun ρ' g' => SW (h ρ' g') N R) R := by
  with_unfolding_all
  unfold seqS
  cases f ρ g <;> rfl
theorem sw_if : SW (ifS ft f h ρ g) N R = EW (ft ρ g) fun b g1 => if b = true then SW (f ρ g1) N R else SW (h ρ g1) N R := by
  with_unfolding_all
  unfold ifS
  cases ft ρ g with
  | ok b g1 => cases b <;> rfl
  | err x g1 => rfl
  | bad => rfl
theorem sw_ret : SW (retS fa ρ g) N R = EW (fa ρ g) R := by
  with_unfolding_all
  unfold retS
  cases fa ρ g <;> rfl
theorem sw_drop : SW (dropS fa ρ g) N R = EW (fa ρ g) fun _ g1 => N ρ g1 := by
  with_unfolding_all
  unfold dropS
  cases fa ρ g <;> rfl
theorem sw_asg {t : Tg} : SW (asgS t fa ρ g) N R = EW (fa ρ g) fun d g1 => ∃ ρ', t.put d ρ = some ρ' ∧ N ρ' g1 := by
  with_unfolding_all
  unfold asgS
  cases fa ρ g with
  | ok d g1 => cases e : t.put d ρ <;> simp [SW, EW, e]
  | err x g1 => rfl
  | bad => rfl
theorem sw_aug {i : Nat} {o : D → D → Option D} : SW (augS i o fa ρ g) N R = ∃ a, ρ[i]? = some (some (.dat a)) ∧ EW (fa ρ g) fun d g1 => ∃ z, o a d = some z ∧ N (ρ.set i (some (.dat z))) g1 := by
  with_unfolding_all
  unfold augS
  apply propext
  constructor
  · intro h
    split at h
    · rename_i a ha
      refine ⟨a, ha, ?_⟩
      cases e : fa ρ g with
      | ok d g1 =>
        rw [e] at h
        simp only at h
        cases e2 : o a d with
        | none => rw [e2] at h; exact h.elim
        | some z => rw [e2] at h; exact ⟨z, e2, h⟩
      | err x g1 => rw [e] at h; exact h.elim
      | bad => rw [e] at h; exact h.elim
    · exact h.elim
  · rintro ⟨a, ha, h⟩
    rw [ha]
    cases e : fa ρ g with
    | ok d g1 =>
      rw [e, ew_ok] at h
      obtain ⟨z, hz, h⟩ := h
      simp only [hz]
      exact h
    | err x g1 => rw [e] at h; exact h.elim
    | bad => rw [e] at h; exact h.elim
theorem sw_own {i : Nat} : SW (ownS i fr ρ g) N R = EW (fr ρ g) fun ds g1 => ds.length ≤ sizeLine ∧ N (ρ.set i (some (.own ds))) g1 := by
  with_unfolding_all
  unfold ownS
  cases fr ρ g with
  | ok ds g1 => by_cases hr : ds.length ≤ sizeLine <;> simp [hr, SW, EW]
  | err x g1 => rfl
  | bad => rfl
theorem sw_app {i : Nat} : SW (appS i fa ρ g) N R = ∃ ds, ρ[i]? = some (some (.own ds)) ∧ EW (fa ρ g) fun d g1 => ds.length < sizeLine ∧ N (ρ.set i (some (.own (ds ++ [d])))) g1 := by
  with_unfolding_all
  unfold appS
  apply propext
  constructor
  · intro h
    split at h
    · rename_i ds hd
      refine ⟨ds, hd, ?_⟩
      cases e : fa ρ g with
      | ok d g1 =>
        rw [e] at h
        simp only at h
        split at h
        · rename_i hl; exact ⟨hl, h⟩
        · exact h.elim
      | err x g1 => rw [e] at h; exact h.elim
      | bad => rw [e] at h; exact h.elim
    · exact h.elim
  · rintro ⟨ds, hd, h⟩
    rw [hd]
    cases e : fa ρ g with
    | ok d g1 =>
      rw [e, ew_ok] at h
      obtain ⟨hl, h⟩ := h
      simp only [if_pos hl]
      exact h
    | err x g1 => rw [e] at h; exact h.elim
    | bad => rw [e] at h; exact h.elim
def asL : D → Option (List D)
  | .lst ds => some ds
  | _ => none
theorem sw_ext {i : Nat} : SW (extS i fa ρ g) N R = ∃ ds, ρ[i]? = some (some (.own ds)) ∧ EW (fa ρ g) fun d g1 => ∃ es, asL d = some es ∧ ds.length + es.length ≤ sizeLine ∧ N (ρ.set i (some (.own (ds ++ es)))) g1 := by
  with_unfolding_all
  unfold extS
  apply propext
  constructor
  · intro h
    split at h
    · rename_i ds hd
      refine ⟨ds, hd, ?_⟩
      cases e : fa ρ g with
      | ok d g1 =>
        rw [e] at h
        cases d with
        | lst es =>
          simp only at h
          split at h
          · rename_i hl; exact ⟨es, rfl, hl, h⟩
          · exact h.elim
        | _ => exact h.elim
      | err x g1 => rw [e] at h; exact h.elim
      | bad => rw [e] at h; exact h.elim
    · exact h.elim
  · rintro ⟨ds, hd, h⟩
    rw [hd]
    cases e : fa ρ g with
    | ok d g1 =>
      rw [e, ew_ok] at h
      obtain ⟨es, he, hl, h⟩ := h
      cases d with
      | lst es' =>
        cases he
        simp only [if_pos hl]
        exact h
      | _ => cases he
    | err x g1 => rw [e] at h; exact h.elim
    | bad => rw [e] at h; exact h.elim
theorem sw_frz_own {i : Nat} {ds : List D} (e : ρ[i]? = some (some (.own ds))) : SW (frzS i f ρ g) N R = SW (f (ρ.set i (some (.dat (.lst ds)))) g) N R := by
  with_unfolding_all
  unfold frzS
  rw [e]
theorem sw_frz {i : Nat} : SW (frzS i f ρ g) N R = SW (f (match ρ[i]? with | some (some (.own ds)) => ρ.set i (some (.dat (.lst ds))) | _ => ρ) g) N R := by
  with_unfolding_all
  unfold frzS
  split <;> rename_i h <;> simp [h]
theorem sw_forS {fi : DA} {t : Tg} : SW (forS fi t f ρ g) N R = EW (fi ρ g) fun ds g1 => SW (forL t f ds ρ g1) N R := by
  with_unfolding_all
  unfold forS
  cases fi ρ g <;> rfl
end
/-! loops -/
theorem sw_forL {t : Tg} {b : DS} {N : Rho → G → Prop} {R : D → G → Prop} (I : List D → Rho → G → Prop) (hs : ∀ d ds ρ g, I (d :: ds) ρ g → ∃ ρ1, t.put d ρ = some ρ1 ∧ SW (b ρ1 g) (fun ρ2 g2 => I ds ρ2 g2) R) (he : ∀ ρ g, I [] ρ g → N ρ g) : ∀ {ds : List D} {ρ : Rho} {g : G}, I ds ρ g → SW (forL t b ds ρ g) N R
  | [], ρ, g, h => by rw [forL_nil, sw_rnx]; exact he ρ g h
  | d :: ds, ρ, g, h => by
    obtain ⟨ρ1, h1, h2⟩ := hs d ds ρ g h
    rw [forL_cons, h1]
    simp only
    cases e : b ρ1 g with
    | nx ρ2 g2 => rw [e, sw_rnx] at h2; exact sw_forL I hs he h2
    | rt d g2 => rw [e, sw_rrt] at h2; rw [sw_rrt]; exact h2
    | bk ρ2 g2 => rw [e, sw_rbk] at h2; exact h2.elim
    | ct ρ2 g2 => rw [e, sw_rct] at h2; exact h2.elim
    | err x ρ2 g2 => rw [e, sw_rerr] at h2; exact h2.elim
    | bad => rw [e, sw_rbad] at h2; exact h2.elim
/-- a walk over encoded items -/
theorem sw_forM {α : Type} {t : Tg} {b : DS} {N : Rho → G → Prop} {R : D → G → Prop} (enc : α → D) (I : List α → Rho → G → Prop) (hs : ∀ d ds ρ g, I (d :: ds) ρ g → ∃ ρ1, t.put (enc d) ρ = some ρ1 ∧ SW (b ρ1 g) (fun ρ2 g2 => I ds ρ2 g2) R) (he : ∀ ρ g, I [] ρ g → N ρ g) {ds : List α} {ρ : Rho} {g : G} (h : I ds ρ g) : SW (forL t b (ds.map enc) ρ g) N R :=
  sw_forL (fun l ρ g => ∃ ds : List α, l = ds.map enc ∧ I ds ρ g) (fun d l ρ g ⟨ds, e, i⟩ => by
    cases ds with
    | nil => cases e
    | cons x ds =>
      cases e
      obtain ⟨ρ1, h1, h2⟩ := hs x ds ρ g i
      exact ⟨ρ1, h1, sw_mono h2 (fun ρ2 g2 q => ⟨ds, rfl, q⟩) fun _ _ q => q⟩) (fun ρ g ⟨ds, e, i⟩ => by
    cases ds with
    | nil => exact he ρ g i
    | cons x ds => cases e) ⟨ds, rfl, h⟩
theorem sw_while {t : DT} {b : DS} {N : Rho → G → Prop} {R : D → G → Prop} (I : Nat → Rho → G → Prop) (hs : ∀ n ρ g, I n ρ g → EW (t ρ g) fun c g1 => if c = true then SW (b ρ g1) (fun ρ2 g2 => ∃ n', n' < n ∧ I n' ρ2 g2) R else N ρ g1) : ∀ (n : Nat) {ρ : Rho} {g : G}, I n ρ g → SW (whileS t b ρ g) N R := by
  with_unfolding_all
  intro n
  induction n using Nat.strongRecOn with
  | _ n ih =>
    intro ρ g h
    have h1 := hs n ρ g h
    cases e : t ρ g with
    | bad => rw [e] at h1; exact h1.elim
    | err x g1 => rw [e] at h1; exact h1.elim
    | ok c g1 =>
      rw [e] at h1
      cases c with
      | false =>
        rw [whileS_end e]
        exact h1
      | true =>
        have h1 : SW (b ρ g1) (fun ρ2 g2 => ∃ n', n' < n ∧ I n' ρ2 g2) R := h1
        cases e2 : b ρ g1 with
        | nx ρ2 g2 =>
          rw [e2, sw_rnx] at h1
          obtain ⟨n', hn, hi⟩ := h1
          rw [whileS_step e e2]
          exact ih n' hn hi
        | rt d g2 =>
          rw [e2] at h1
          rw [whileS_eq (n := 1) (r := .rt d g2) (by rw [whileF_succ, e]; simp [e2]) (by intro z; cases z)]
          exact h1
        | bk ρ2 g2 => rw [e2] at h1; exact h1.elim
        | ct ρ2 g2 => rw [e2] at h1; exact h1.elim
        | err x ρ2 g2 => rw [e2] at h1; exact h1.elim
        | bad => rw [e2] at h1; exact h1.elim
/-! comprehensions -/
theorem lcL_pure {α : Type} {t : Tg} {ft : DT} {fe : DE} {ρ : Rho} {g : G} (enc : α → D) (p : α → Bool) (f : α → D) : ∀ (xs : List α), (∀ x ∈ xs, ∃ ρ1, t.put (enc x) ρ = some ρ1 ∧ ft ρ1 g = .ok (p x) g ∧ (p x = true → fe ρ1 g = .ok (f x) g)) → lcL t ft fe ρ (xs.map enc) g = .ok ((xs.filter p).map f) g
  | [], _ => rfl
  | x :: xs, h => by
    obtain ⟨ρ1, h1, h2, h3⟩ := h x List.mem_cons_self
    have ih := lcL_pure (t := t) (ft := ft) (fe := fe) (ρ := ρ) (g := g) enc p f xs fun y hy => h y (List.mem_cons_of_mem _ hy)
    rw [List.map_cons, lcL_cons, h1]
    simp only [h2]
    cases e : p x with
    | true =>
      simp only [h3 e, ih]
      rw [List.filter_cons_of_pos (by rw [e])]
      rfl
    | false =>
      simp only [ih]
      rw [List.filter_cons_of_neg (by rw [e]; decide)]
theorem lcL_map {α : Type} {t : Tg} {fe : DE} {ρ : Rho} {g : G} (enc : α → D) (f : α → D) (xs : List α) (h : ∀ x ∈ xs, ∃ ρ1, t.put (enc x) ρ = some ρ1 ∧ fe ρ1 g = .ok (f x) g) : lcL t yesT fe ρ (xs.map enc) g = .ok (xs.map f) g := by
  with_unfolding_all
  have := lcL_pure (t := t) (ft := yesT) (fe := fe) (ρ := ρ) (g := g) enc (fun _ => true) f xs fun x hx => by
    obtain ⟨ρ1, h1, h2⟩ := h x hx
    exact ⟨ρ1, h1, rfl, fun _ => h2⟩
  rw [this, List.filter_eq_self.mpr fun _ _ => rfl]
/-- a comprehension whose parts change the source of draws -/
theorem ew_lcL {t : Tg} {ft : DT} {fe : DE} {ρ : Rho} {Q : List D → G → Prop} (I : List D → List D → G → Prop) (hs : ∀ d ds acc g, I (d :: ds) acc g → ∃ ρ1, t.put d ρ = some ρ1 ∧ EW (ft ρ1 g) fun b g1 => if b = true then EW (fe ρ1 g1) (fun y g2 => I ds (acc ++ [y]) g2) else I ds acc g1) :
    ∀ {ds acc : List D} {g : G}, I ds acc g → (∀ acc' g', I [] (acc ++ acc') g' → Q acc' g') → EW (lcL t ft fe ρ ds g) Q
  | [], acc, g, h, he => by rw [show lcL t ft fe ρ [] g = .ok [] g from rfl, ew_ok]; exact he [] g (by rw [List.append_nil]; exact h)
  | d :: ds, acc, g, h, he => by
    obtain ⟨ρ1, h1, h2⟩ := hs d ds acc g h
    rw [lcL_cons, h1]
    simp only
    cases e : ft ρ1 g with
    | bad => rw [e, ew_bad] at h2; exact h2.elim
    | err x g1 => rw [e, ew_err] at h2; exact h2.elim
    | ok b g1 =>
      rw [e, ew_ok] at h2
      cases b with
      | false => exact ew_lcL I hs (show I ds acc g1 from h2) he
      | true =>
        have h2 : EW (fe ρ1 g1) (fun y g2 => I ds (acc ++ [y]) g2) := h2
        simp only
        cases e2 : fe ρ1 g1 with
        | bad => rw [e2, ew_bad] at h2; exact h2.elim
        | err x g2 => rw [e2, ew_err] at h2; exact h2.elim
        | ok y g2 =>
          rw [e2, ew_ok] at h2
          have h3 := ew_lcL (Q := fun r g3 => Q (y :: r) g3) I hs (show I ds (acc ++ [y]) g2 from h2) fun acc' g' q => he (y :: acc') g' (by rw [List.append_assoc] at q; exact q)
          simp only
          cases e3 : lcL t ft fe ρ ds g2 with
          | bad => rw [e3, ew_bad] at h3; exact h3.elim
          | err x g3 => rw [e3, ew_err] at h3; exact h3.elim
          | ok r g3 => rw [e3, ew_ok] at h3; rw [ew_ok]; exact h3
end Plain
end TS
namespace TS
open PySem L2
theorem globK_str {K : PySem.W.Frag} {h : Heap} {mg : Str → Option Value} {x s : Str} {t : Tok} (X : K.In h) (G : h.Ns mainGlobals mg) (e : PySem.W.nsIn K mainGlobals x = some (some (.str s t))) : GlobK K mg x (.str s) := globD_str (PySem.W.mg_of X G e)
theorem globK_int {K : PySem.W.Frag} {h : Heap} {mg : Str → Option Value} {x : Str} {i : Int} {t : Tok} (X : K.In h) (G : h.Ns mainGlobals mg) (e : PySem.W.nsIn K mainGlobals x = some (some (.int i t))) : GlobK K mg x (.int i) := globD_int (PySem.W.mg_of X G e)
theorem noneK {K : PySem.W.Frag} {h : Heap} {mg : Str → Option Value} {x : Str} (X : K.In h) (G : h.Ns mainGlobals mg) (e : PySem.W.nsIn K mainGlobals x = some none) : mg x = none := PySem.W.mg_none_of X G e
theorem globK_str3 {K : PySem.W.Frag} {h : Heap} {mg : Str → Option Value} {x s1 s2 s3 : Str} {t1 t2 t3 : Tok} {a : Addr} {od : Option Addr} {n : Nat} {sl : Array (Option Value)} (X : K.In h) (G : h.Ns mainGlobals mg) (e : PySem.W.nsIn K mainGlobals x = some (some (.ref a)))
    (l : K.lookup a = some ⟨.type "tuple", od, .seq #[.str s1 t1, .str s2 t2, .str s3 t3] n, sl⟩) : GlobK K mg x (.tup [.str s1, .str s2, .str s3]) :=
  ⟨.ref a, _, PySem.W.mg_of X G e, rfl, fun Ω => rep_tup.mpr ⟨a, [.str s1, .str s2, .str s3], rfl, .inr ⟨_, _, n, l, rfl, rfl, by show 3 ≤ sizeLine; decide, .cons ⟨t1, rfl⟩ (.cons ⟨t2, rfl⟩ (.cons ⟨t3, rfl⟩ .nil))⟩, .cons rs (.cons rs (.cons rs .nil))⟩⟩
theorem globK_str2 {K : PySem.W.Frag} {h : Heap} {mg : Str → Option Value} {x s1 s2 : Str} {t1 t2 : Tok} {a : Addr} {od : Option Addr} {n : Nat} {sl : Array (Option Value)} (X : K.In h) (G : h.Ns mainGlobals mg) (e : PySem.W.nsIn K mainGlobals x = some (some (.ref a)))
    (l : K.lookup a = some ⟨.type "tuple", od, .seq #[.str s1 t1, .str s2 t2] n, sl⟩) : GlobK K mg x (.tup [.str s1, .str s2]) :=
  ⟨.ref a, _, PySem.W.mg_of X G e, rfl, fun Ω => rep_tup.mpr ⟨a, [.str s1, .str s2], rfl, .inr ⟨_, _, n, l, rfl, rfl, by show 2 ≤ sizeLine; decide, .cons ⟨t1, rfl⟩ (.cons ⟨t2, rfl⟩ .nil)⟩, .cons rs (.cons rs .nil)⟩⟩
theorem has_ofN {Z : Wd} {x : Str} {st : Stmt} {N ps : List Str} {k n : Nat} {fb : DS} (F : FunAt Z x st ps) (S : FnScope N ps (defScope st)) (hn : N.length = n)
    (hb : ∀ X B W, Cz Z N (defScope st) (fun _ => true) k X B W → PassesOwn (model X.prog X.w) X.A X.env X.xe → PDSs X B W (defBody st) fb) : Z.has (k + 1) x ps (runD n fb) := by
  subst hn
  exact has_of F S hb
theorem fn_okN {Z : Wd} {x qual : Str} {st : Stmt} {f : Addr} {fd : FuncData} {N ps : List Str} {k n : Nat} {fb : DS} (F : Fun Z.K x qual st f fd) (S : FnScope N ps (defScope st)) (hn : N.length = n)
    (hb : ∀ X B W, Cz Z N (defScope st) (fun _ => true) k X B W → PassesOwn (model X.prog X.w) X.A X.env X.xe → PDSs X B W (defBody st) fb) :
    FnOk Z.P Z.w Z.K Z.mg Z.base (L2.CX Z.P Z.w) (k + 1) f fd ps (spD Z.K Z.C ps.length (runD n fb)) := by
  subst hn
  exact fn_okD F S hb
/-- the law itself, where it stands -/
theorem law_mk {K : PySem.W.Frag} {h : Heap} {mg : Str → Option Value} {st : Stmt} {f fa : Addr} {oc : Value} {od an : Option Addr} {osl : Array (Option Value)} {kV doc pm cdv ct : Value} {P : FuncData → Heap → Prop} (X : K.In h) (G : h.Ns mainGlobals mg) (hfa : mg ("law" : Str) = some (.ref fa))
    (a : PySem.W.nsIn K mainGlobals ("law" : Str) = some (some (.ref f))) (l : K.lookup f = some ⟨oc, od, .func (PySem.W.fnOf ("law" : Str) ("law" : Str) (defArgs st) (defBody st) (defScope st) .none kV doc pm an cdv ct), osl⟩) (c : PySem.W.codeIn K cdv ("law" : Str) = true) (k : PySem.W.keepIn K (.ref f) = true)
    (hb : ∀ (kV doc pm : Value) (an : Option Addr) (cdv ct : Value) (s : Shared) (v : Value), BindsTo s (PySem.W.fnOf ("law" : Str) ("law" : Str) (defArgs st) (defBody st) (defScope st) .none kV doc pm an cdv ct) ⟨[v], []⟩ [(("_law_script" : Str), v)])
    (ok : ∀ (fd : FuncData) (base : Heap), Fun K ("law" : Str) ("law" : Str) st fa fd → P fd base) : ∃ fd : FuncData, (∀ (s : Shared) (u : Value), BindsTo s fd ⟨[u], []⟩ [(("_law_script" : Str), u)]) ∧ ∀ base : Heap, K.In base → base.Ns mainGlobals mg → P fd base := by
  have e := hfa.symm.trans (PySem.W.mg_of X G a)
  cases e
  exact ⟨_, fun s v => hb kV doc pm an cdv ct s v, fun base _ _ => ok _ base (fun_mk l c k)⟩
theorem law_walk {l : PySem.W.OpenLaw} {k : Nat} {q : Program} {loose : List Str} {XP : (Str → Option Value) → Heap → Prop} {YP : World → Heap → Prop} {d : DefRec} {K : Params → PySem.W.Frag} (C : (w : World) → Ax) (F0 : DF) (hn : l.most = some 63) (hdf : d.params.defaults = []) (hr : Room k callerA)
    (hY : ∀ (w : World) (h : Heap), YP w h → (K w.params).In h)
    (F : ∀ (w : World) (mg : Str → Option Value) (fa : Addr) (h : Heap), (K w.params).In h → h.Ns mainGlobals mg → mg d.name = some (.ref fa) →
      ∃ fd : FuncData, (∀ (s : Shared) (u : Value), BindsTo s fd ⟨[u], []⟩ [(("_law_script" : Str), u)]) ∧ ∀ base : Heap, (K w.params).In base → base.Ns mainGlobals mg → FnOk l.prog w (K w.params) mg base (L2.CX l.prog w) k fa fd [("_law_script" : Str)] (spD (K w.params) (C w) 1 F0))
    (hl : ∀ ns : List Int, ns.length ≤ 63 → ∃ g, F0 [.scr ns] none = .ok (.bl true) g) :
    PySem.W.WalkO q loose XP YP l.row.toRowW d [] (fun f vs => PySem.call f vs) := by
  refine L2.walk_of (n := 63) (k := k) (x := ("_law_script" : Str)) (CX := fun w => L2.CX l.prog w) (sp := fun w => spD (K w.params) (C w) 1 F0) hn (by decide) hdf hr hY F (fun w H a ns hlen hO hS => ?_) (fun w H s e s' z => ?_)
  · obtain ⟨g, hg⟩ := hl ns hlen
    refine ⟨[.scr ns], ⟨H, none⟩, none, .cons (rep_scr.mpr ⟨a, rfl, hS⟩) .nil, ⟨Evl.Ex.refl _, trivial⟩, rfl, ?_⟩
    rw [hg]
    exact fun v Ω' H' _ _ r => rep_bl.mp r
  · obtain ⟨_, _, _, _, _, _, _, _, _, _, _, _, z⟩ := z
    exact z
end TS
/-! Defs with a try, and the classes where they stand. -/
namespace TS
open PySem L2
theorem fn_okT {Z : Wd} {x qual : Str} {st : Stmt} {f : Addr} {fd : FuncData} {N ps : List Str} {k n : Nat} {fb : DS} (F : Fun Z.K x qual st f fd) (S : FnScope N ps (defScope st)) (hn : N.length = n)
    (hb : ∀ X B W, Cz Z N (defScope st) (fun _ => true) k X B W → PassesOwn (model X.prog X.w) X.A X.env X.xe → X.stack = X.env :: X.outer → X.env.frame = some X.env.locals → PDSs X B W (defBody st) fb) :
    FnOk Z.P Z.w Z.K Z.mg Z.base (L2.CX Z.P Z.w) (k + 1) f fd ps (spD Z.K Z.C ps.length (runD n fb)) := by
  subst hn
  refine F.okX S (fun vs H Q E h => ?_) (fun cdv A outer s H vs Q E hr h => ?_)
  · obtain ⟨ds, Ω, g, r, _, hl, _⟩ := h
    rw [← r.length, hl]
  · obtain ⟨ds, Ω, g, r, w, hl, q⟩ := h
    have h1 := hb (cxOf (L2.CX Z.P Z.w) Z.P Z.w Z.K Z.mg Z.base N qual (defScope st) f cdv A outer s H E) ⟨Ω, H, Z.C⟩ (fun cls d _ H' => E cls d H')
      ⟨rfl, rfl, rfl, rfl, rfl, rfl, rfl, rfl, rfl, rfl, hr, takes_of rfl rfl rfl rfl, S.nd⟩ (passes_of rfl) rfl rfl
    refine ⟨_, h1, startR N.length ds, Ω, g, ⟨.refl _ _, w, start_slots r⟩, ?_⟩
    unfold runD at q
    cases e : fb (startR N.length ds) g with
    | nx ρ g' => rw [e] at q; exact fun σ' Ω' H' gr A' => q .non Ω' H' A'.tr A'.wf (rep_non.mpr rfl)
    | rt d g' => rw [e] at q; exact fun v Ω' H' gr tr w' r' => q v Ω' H' tr w' r'
    | err x ρ g' => rw [e] at q; exact fun cls dd σ' Ω' H' gr A' rx => q cls dd Ω' H' A'.tr A'.wf rx
    | bk ρ g' => rw [e] at q; exact q.elim
    | ct ρ g' => rw [e] at q; exact q.elim
    | bad => rw [e] at q; exact q.elim
theorem has_ofT {Z : Wd} {x : Str} {st : Stmt} {N ps : List Str} {k n : Nat} {fb : DS} (F : FunAt Z x st ps) (S : FnScope N ps (defScope st)) (hn : N.length = n)
    (hb : ∀ X B W, Cz Z N (defScope st) (fun _ => true) k X B W → PassesOwn (model X.prog X.w) X.A X.env X.xe → X.stack = X.env :: X.outer → X.env.frame = some X.env.locals → PDSs X B W (defBody st) fb) : Z.has (k + 1) x ps (runD n fb) := by
  obtain ⟨f, fd, h1, h2, h3⟩ := F.ex
  exact ⟨f, fd, h1, h2.kp, h3, fn_okT h2 S hn hb⟩
/-- which class a name stands for -/
def axOf (K : PySem.W.Frag) : Ax := ⟨fun x => match PySem.W.nsIn K mainGlobals x with
  | some (some v) => v
  | _ => .none⟩
theorem axOf_eq {K : PySem.W.Frag} {x : Str} {v : Value} (h : PySem.W.nsIn K mainGlobals x = some (some v)) : (axOf K).cls x = v := by
  show (match PySem.W.nsIn K mainGlobals x with
    | some (some v) => v
    | _ => .none) = v
  rw [h]
/-! isinstance(error, T) in the suite -/
section
variable {X : Cx} {a C dx T : Addr} {oe : Obj} {pn : List (Addr × Obj)} {fsV : List (Str × V)} {i : Nat} {n sup : Str} {p p1 p2 pos : Pos}
theorem hp_is (E : XcC X.K C) (hk : PySem.W.kitOne X.K (.ref C) (.ref T) = some true) (hz : Zc (.ref C) (some dx) oe) (hf : ∃ vs, oe.data = .fields vs) (hv : PE (X.suite a ((a, oe) :: pn)) (.Name n p1) (tVar i))
    (gi : Gl X "isinstance") (mi : X.mg "isinstance" = none) (gs : Gl X sup) (ms : X.mg sup = some (.ref T)) (hds : (sup == ("__debug__" : Str)) = false := by decide)
    (he : starEach [.Name n p1, .Name sup p2] X.env = (false, eval (.Name n p1) X.env) :: starEach [.Name sup p2] X.env := by rfl) (he2 : starEach [.Name sup p2] X.env = (false, eval (.Name sup p2) X.env) :: starEach [] X.env := by rfl) (hpl : (backTo pos (starEach [.Name sup p2] X.env)).any (·.1) = false := by rfl) :
    PE (X.suite a ((a, oe) :: pn)) (.Call (.Name "isinstance" p) [.Name n p1, .Name sup p2] [] pos) (tP (cnd a dx fsV i) (.bl true)) :=
  PE.weak (pe_callB (call_isD (fsV := fsV) E hk hz hf) gi mi PyProof.Rows.boot_isinstance (pa_cons hv (pa_cons (pe_glob (X := X.suite a ((a, oe) :: pn)) (v := .ref T) gs ms rfl hds) pa_nil he2) he) (by decide) (by decide) he hpl)
    fun σ H Q h => ⟨.ref a, h.1.1, rfl, h.1.2, h.2⟩
end
theorem exK_mk {P : Program} {w : World} {K : PySem.W.Frag} {mg : Str → Option Value} {base h : Heap} (X : K.In h) (G : h.Ns mainGlobals mg) {x fld : Str} {f D cc cda : Addr} {name qual : Str} {params : Arguments} {scope : Scope} {dV kV doc pm ct oc ccl cl : Value} {an od cdd cld : Option Addr} {osl ccs csl : Array (Option Value)}
    {msg : Str} {j : Nat} {p0 p1 p2 p3 p4 p5 q0 q1 q2 q3 : Pos} {vsc : Array Value} {file : Str} {tf : Tok} {ar : Arg}
    {nm q : Str} {N : Addr} {bs bm : List Value} {sn : List Str} {sub : List Value} {ab : Bool} {col : Option Bool} {dd : Option Addr} {k0 k1 k2 k3 k5 : Option Value}
    (a : PySem.W.nsIn K mainGlobals x = some (some (.ref D)))
    (lc : K.lookup D = some (excClassObj nm q D N bs bm true sn sub ab col dd k0 k1 k2 k3 k5 "ValueError.__new__")) (hbm : PySem.HandSPX.refsVE bm = true)
    (sa : PySem.W.findIn K (.ref D) "__setattr__" = some (some (.builtin "object.__setattr__"))) (exC : PySem.W.subIn K (.ref D) (.type "BaseException") = some true) (tyC : PySem.W.typeIn K (.ref D) = some (.type "type")) (kC : PySem.W.keepIn K (.ref D) = true)
    (iC : PySem.W.findIn K (.ref D) "__init__" = some (some (.ref f))) (tI : PySem.W.typeIn K (.ref f) = some (.type "function"))
    (lk : K.lookup f = some ⟨oc, od, .func (PySem.W.ksFn name qual params [.Expr (.Call (.Attribute (.Call (.Name "super" p0) [] [] p1) "__init__" p2) [.Constant (.str msg) j p3] [] p4) p5, .Assign [.Attribute (.Name "self" q0) fld q1] (.Name fld q2) q3] scope dV kV doc pm an (.ref cda) ct cc), osl⟩)
    (hcd : PySem.W.codeIn K (.ref cda) qual = true) (hno : PySem.W.findIn K (.ref D) fld = some none)
    (hp : (params.posonlyargs ++ params.args).head? = some ar) (har : ar.arg = "self")
    (hcode : K.lookup cda = some ⟨ccl, cdd, .fields vsc, ccs⟩) (hvs : vsc[2]? = some (.str file tf)) (hfile : ((P.main.file : Str) == file) = true)
    (hcell : K.lookup cc = some ⟨cl, cld, .cell (some (.ref D)), csl⟩) (hsub : PySem.W.mroIn K D (.ref D) = some true) (hsuper : PySem.W.nsIn K mainGlobals "super" = some none)
    (hm : PySem.W.ks_superIn K D D "__init__" = some (some (.builtin "ValueError.__init__"))) (hB : PySem.W.subIn K (.ref D) (.type "ValueError") = some true) (hop : PySem.W.nsIn K cStatics "thirdparty.any" = some none)
    (htop : (P.main.scope.names.lookup ("super" : Str)).isSome = false)
    (hf1 : fld ≠ "self") (hks : scope.names.lookup ("super" : Str) = some .globalImplicit) (hkc : scope.names.lookup ("__class__" : Str) = some .free) (hka : scope.names.lookup ("self" : Str) = some .local) (hkf : scope.names.lookup fld = some .local)
    (hfree : scope.names.all (fun z => z.2 != .free || z.1 == ("__class__" : Str)) = true) (hcel : scope.names.all (fun z => z.2 != .cell) = true) (hdb : (fld == ("__debug__" : Str)) = false) (hcld : (fld == ("__classdict__" : Str)) = false)
    {pl : Addr → Sem Bool} (hev : ∀ L : Addr, eval (.Call (.Attribute (.Call (.Name "super" p0) [] [] p1) "__init__" p2) [.Constant (.str msg) j p3] [] p4) (PySem.W.ksEnv qual scope L f (.ref cda) cc) = (do
      let ov ← attributeBase (.Call (.Name "super" p0) [] [] p1) "__init__" (PySem.W.ksEnv qual scope L f (.ref cda) cc) (eval (.Call (.Name "super" p0) [] [] p1) (PySem.W.ksEnv qual scope L f (.ref cda) cc))
      standAt p2.atName
      let (fx, first) ← holding [ov] (getMethod ov "__init__" (pl L))
      callWith p4 fx first (backTo p4 (starEach [.Constant (.str msg) j p3] (PySem.W.ksEnv qual scope L f (.ref cda) cc))) []))
    (hco : scope.isCoroutine = false) (hgen : scope.isGenerator = false) (hk : scope.kind = .function)
    (hbd : ∀ us : List Value, us.length = 2 → bindArgs (PySem.W.ksFn name qual params [.Expr (.Call (.Attribute (.Call (.Name "super" p0) [] [] p1) "__init__" p2) [.Constant (.str msg) j p3] [] p4) p5, .Assign [.Attribute (.Name "self" q0) fld q1] (.Name fld q2) q3] scope dV kV doc pm an (.ref cda) ct cc) ⟨us, []⟩ = pure ([("self" : Str), fld].zip us)) :
    ExK ⟨P, w, K, mg, base, axOf K⟩ x fld := by
  have T : OexC K D := ⟨⟨nm, q, N, bs, bm, sn, sub, ab, col, dd, k0, k1, k2, k3, k5, lc, hbm⟩, sa, exC, tyC, kC⟩
  exact ⟨D, f, _, PySem.W.mg_of X G a, T, iC, tI, fn_exInit (k := 0) lk hcd T hno hp har hcode hvs hfile hcell hsub (PySem.W.mg_none_of X G hsuper) hm hB hop htop hf1 hks hkc hka hkf (fun z hz => by
      have := List.all_eq_true.mp hfree _ (PySem.mem_of_lookup hz)
      simpa using this) (fun z hz => by
      have := List.all_eq_true.mp hcel z hz
      simpa using this) hdb hcld hev hco hgen hk, Binds.all hbd, axOf_eq a⟩
theorem xcAt_mk {P : Program} {w : World} {K : PySem.W.Frag} {mg : Str → Option Value} {base h : Heap} (X : K.In h) (G : h.Ns mainGlobals mg) {x sup : Str} {flds : List Str} {C T : Addr}
    (a : PySem.W.nsIn K mainGlobals x = some (some (.ref C))) (b : PySem.W.nsIn K mainGlobals sup = some (some (.ref T))) (ga : PySem.W.findIn K (.ref C) "__getattribute__" = some (some (.builtin "BaseException.__getattribute__"))) (gg : PySem.W.findIn K (.ref C) "__getattr__" = some none)
    (exC : PySem.W.subIn K (.ref C) (.type "BaseException") = some true) (hdC : PySem.W.hasDictIn K C = true) (cl : (PySem.W.clsIn K C).isSome = true) (ha : PySem.W.findIn K (.ref C) "__class__" = some (some (.builtin "object.__class__")))
    (hn : PySem.W.specialIn K (.builtin "object.__class__") "__get__" = some (some (.builtin "getset_descriptor.__get__"))) (ht : PySem.W.takesIn K (.builtin "object.__class__") = some true) (hm : PySem.W.mroIn K C (.type "object") = some true)
    (exm : PySem.W.exmOne K (.ref C) (.ref C) = some true) (kt : PySem.W.kitOne K (.ref C) (.ref T) = some true) (fl : ∀ F ∈ flds, PySem.W.findIn K (.ref C) F = some none) : XcAt ⟨P, w, K, mg, base, axOf K⟩ x sup flds :=
  ⟨C, T, PySem.W.mg_of X G a, PySem.W.mg_of X G b, ⟨⟨ga, gg, exC, hdC⟩, cl, ha, hn, ht, hm, exm⟩, kt, fl, axOf_eq a⟩
section
variable {X : Cx} {P : St → Hp → Prop} {e : Expr} {fsV : List (Str × V)}
theorem pe_at {h : HA} (k : ∀ v, hV fsV h v → PE X e (tPI P (tP P v))) : PE X e (teK P fsV (.at h)) := ⟨fun pins s σ H Q I ⟨v, hv, hp, q⟩ => (k v hv).run pins s σ H Q I ⟨hp, hp, q⟩⟩
theorem pe_ls {hs : List HA} (k : ∀ vs, hVs fsV hs vs → PE X e (tPI P (tPL P vs))) : PE X e (teK P fsV (.ls hs)) := ⟨fun pins s σ H Q I ⟨v, hv, hp, q⟩ => (k v hv).run pins s σ H Q I ⟨hp, hp, q⟩⟩
theorem pe_tp {hs : List HA} (k : ∀ vs, hVs fsV hs vs → PE X e (tPI P (tPT P vs))) : PE X e (teK P fsV (.tp hs)) := ⟨fun pins s σ H Q I ⟨v, hv, hp, q⟩ => (k v hv).run pins s σ H Q I ⟨hp, hp, q⟩⟩
end
theorem law_walkX {l : PySem.W.OpenLaw} {k : Nat} {q : Program} {loose : List Str} {XP : (Str → Option Value) → Heap → Prop} {YP : World → Heap → Prop} {d : DefRec} {K : Params → PySem.W.Frag} (F0 : DF) (hn : l.most = some 63) (hdf : d.params.defaults = []) (hr : Room k callerA)
    (hY : ∀ (w : World) (h : Heap), YP w h → (K w.params).In h)
    (F : ∀ (w : World) (mg : Str → Option Value) (fa : Addr) (h : Heap), (K w.params).In h → h.Ns mainGlobals mg → mg d.name = some (.ref fa) →
      ∃ fd : FuncData, (∀ (s : Shared) (u : Value), BindsTo s fd ⟨[u], []⟩ [(("_law_script" : Str), u)]) ∧ ∀ base : Heap, (K w.params).In base → base.Ns mainGlobals mg → FnOk l.prog w (K w.params) mg base (L2.CX l.prog w) k fa fd [("_law_script" : Str)] (spD (K w.params) (axOf (K w.params)) 1 F0))
    (hl : ∀ ns : List Int, ns.length ≤ 63 → ∃ g, F0 [.scr ns] none = .ok (.bl true) g) :
    PySem.W.WalkO q loose XP YP l.row.toRowW d [] (fun f vs => PySem.call f vs) := law_walk (fun w => axOf (K w.params)) F0 hn hdf hr hY F hl
end TS
namespace TS
open PySem L2
section
variable {α β : Type} {Q : α → G → Prop} {QD : D → G → Prop} {QB : Bool → G → Prop} {QL : List D → G → Prop} {N : Rho → G → Prop} {R : D → G → Prop} {ρ : Rho} {g : G} {fa fb fc fe : DE} {ft fu : DT} {fr : DA} {f h : DS}
theorem sw_ownL {i : Nat} : SW (ownLS i fr ρ g) N R = EW (fr ρ g) fun ds g1 => ∃ es, seqD ds = some es ∧ N (ρ.set i (some (.own es))) g1 := by
  unfold ownLS
  cases fr ρ g with
  | ok ds g1 =>
    rw [ew_ok]
    cases h : seqD ds with
    | none => simp [sw_rbad, h]
    | some es => simp [sw_rnx, h]
  | err x g1 => simp [sw_rerr, ew_err]
  | bad => simp [sw_rbad, ew_bad]
theorem sw_ownPar {i j : Nat} : SW (ownParS i j fr fe ρ g) N R = EW (fr ρ g) fun ds g1 => ds.length ≤ sizeLine ∧ EW (fe ρ g1) fun d g2 => N ((ρ.set i (some (.own ds))).set j (some (.dat d))) g2 := by
  unfold ownParS
  cases fr ρ g with
  | ok ds g1 =>
    rw [ew_ok]
    by_cases hl : ds.length ≤ sizeLine
    · simp only [hl, if_true, true_and]
      cases fe ρ g1 with
      | ok d g2 => simp [sw_rnx, ew_ok]
      | err x g2 => simp [sw_rerr, ew_err]
      | bad => simp [sw_rbad, ew_bad]
    · simp [hl, sw_rbad]
  | err x g1 => simp [sw_rerr, ew_err]
  | bad => simp [sw_rbad, ew_bad]
theorem seqD_l {ds : List D} : seqD [.lst ds] = some ds := rfl
theorem seqD_t {ds : List D} : seqD [.tup ds] = some ds := rfl
theorem o_sortI {ns : List Int} : sortO [.lst (ns.map D.int)] = some (.lst ((sortInts ns).map D.int)) := by
  have : ∀ ns : List Int, ints? (ns.map D.int) = some ns := fun ns => by
    induction ns with
    | nil => rfl
    | cons n ns ih => simp [ints?, ih]
  simp [sortO, this]
theorem o_lrg2 {i j : Int} (h0 : -(2 ^ 62) ≤ i ∧ i < 2 ^ 62) (h : -(2 ^ 62) ≤ j ∧ j < 2 ^ 62) (hn : (j - i).toNat ≤ 2 ^ 24) : lrg2O (.int i) (.int j) = some (.lst (rngInts i (j - i).toNat)) := by
  show (if -(2 ^ 62) ≤ i ∧ i < 2 ^ 62 ∧ -(2 ^ 62) ≤ j ∧ j < 2 ^ 62 ∧ (j - i).toNat ≤ 2 ^ 24 then some (D.lst (rngInts i (j - i).toNat)) else none) = _
  rw [if_pos ⟨h0.1, h0.2, h.1, h.2, hn⟩]
end
end TS
namespace TS
open PySem L2
open PySem.W (alike alikeAll dataLt AlikeAll AllAlike Sortable EachIs dataLe)
section
variable {α β : Type} {Q : α → G → Prop} {QD : D → G → Prop} {QB : Bool → G → Prop} {QL : List D → G → Prop} {N : Rho → G → Prop} {R : D → G → Prop} {ρ : Rho} {g : G} {fa fb fc fe : DE} {ft fu : DT} {fr : DA} {f h : DS}
theorem ew_idx : EW (idxE fa fb ρ g) QD = EW (fa ρ g) fun a g1 => isL a = true ∧ EW (fb ρ g1) fun b g2 => ∃ d, idxO a b = some d ∧ QD d g2 := by
  unfold idxE
  simp only [ew_bind]
  congr 1; funext a g1
  by_cases h : isL a = true
  · simp only [h, if_true, true_and, ew_bind]
    congr 1; funext b g2
    cases h : idxO a b with
    | none => simp [ew_bad]
    | some d => simp [ew_ok]
  · simp [h, ew_bad]
theorem ew_lc2 {fi fi1 : DA} {vs vs1 : List Nat} {t t1 : Tg} {ft1 : DT} : EW (lc2E fi vs t ft fi1 vs1 t1 ft1 fe ρ g) QD = (noOwn ρ = true ∧ EW (fi ρ g) fun ds g1 => EW (lc2L t ft fi1 vs1 t1 ft1 fe (wipeR ρ vs) ds g1) fun r g2 => r.length ≤ sizeLine ∧ QD (.lst r) g2) := by
  unfold lc2E
  by_cases hn : noOwn ρ = true
  · simp only [hn, if_true, true_and]
    cases fi ρ g with
    | ok ds g1 =>
      simp only [ew_ok]
      cases lc2L t ft fi1 vs1 t1 ft1 fe (wipeR ρ vs) ds g1 with
      | ok r g2 => by_cases hr : r.length ≤ sizeLine <;> simp [hr, ew_ok, ew_bad]
      | err x g2 => simp [ew_bad, ew_err]
      | bad => simp [ew_bad]
    | err x g1 => simp [ew_err]
    | bad => simp [ew_bad]
  · simp [hn, ew_bad]
theorem isL_lst {ds : List D} : isL (.lst ds) = true := rfl
end
theorem lc2L_pure {α β : Type} {t t1 : Tg} {fi1 : DA} {vs1 : List Nat} {ft1 : DT} {fe : DE} {ρ : Rho} {g : G} (enc : α → D) (ys : α → List β) (enc1 : β → D) (p : α → β → Bool) (f : α → β → D) : ∀ (xs : List α),
    (∀ x ∈ xs, ∃ ρ1, t.put (enc x) ρ = some ρ1 ∧ fi1 ρ1 g = .ok ((ys x).map enc1) g ∧ ∀ y ∈ ys x, ∃ ρ2, t1.put (enc1 y) (wipeR ρ1 vs1) = some ρ2 ∧ ft1 ρ2 g = .ok (p x y) g ∧ (p x y = true → fe ρ2 g = .ok (f x y) g)) →
    lc2L t yesT fi1 vs1 t1 ft1 fe ρ (xs.map enc) g = .ok (xs.flatMap fun x => ((ys x).filter (p x)).map (f x)) g
  | [], _ => rfl
  | x :: xs, h => by
    obtain ⟨ρ1, h1, h2, h3⟩ := h x List.mem_cons_self
    have ih := lc2L_pure (t := t) (t1 := t1) (fi1 := fi1) (vs1 := vs1) (ft1 := ft1) (fe := fe) (ρ := ρ) (g := g) enc ys enc1 p f xs fun y hy => h y (List.mem_cons_of_mem _ hy)
    rw [List.map_cons, lc2L_cons, h1]
    have hy : yesT ρ1 g = .ok true g := rfl
    simp only [hy, h2, lcL_pure enc1 (p x) (f x) (ys x) h3, ih, List.flatMap_cons]
/-! min of data -/
open PySem.W (minD) in
theorem minD_first {p : PyData} {ps l r : List PyData} {x : PyData} (e : p :: ps = l ++ x :: r) (hl : ∀ y ∈ l, dataLt x y = true) (hr : ∀ y ∈ r, dataLt y x = false) : minD p ps = x := by
  have stay : ∀ (r : List PyData), (∀ y ∈ r, dataLt y x = false) → r.foldl (fun a y => if dataLt y a then y else a) x = x := by
    intro r
    induction r with
    | nil => intro _; rfl
    | cons y r ih =>
      intro h
      rw [List.foldl_cons, if_neg (by rw [h y List.mem_cons_self]; decide)]
      exact ih fun z hz => h z (List.mem_cons_of_mem _ hz)
  unfold minD
  cases l with
  | nil =>
    injection e with e1 e2
    subst e1 e2
    exact stay _ hr
  | cons q l =>
    rw [List.cons_append] at e
    injection e with e1 e2
    subst e1 e2
    rw [List.foldl_append, List.foldl_cons]
    have : dataLt x (l.foldl (fun a y => if dataLt y a then y else a) p) = true := by
      have hm := minD_mem p l
      unfold minD at hm
      exact hl _ hm
    rw [if_pos this]
    exact stay _ hr
/-! rows of small numbers -/
def dRow (r : List Nat) : D := .tup (r.map fun i => D.int (i : Nat))
def pRow (r : List Nat) : PyData := .tuple (r.map fun i => PyData.int (i : Nat))
theorem toPs_ints (ns : List Int) : toPs (ns.map D.int) = some (ns.map PyData.int) := by
  induction ns with
  | nil => simp [toPs]
  | cons n ns ih => simp only [List.map_cons]; unfold toPs; simp only [toP, ih]; rfl
theorem toP_row (r : List Nat) : toP (dRow r) = some (pRow r) := by
  unfold dRow toP
  have : (r.map fun i => D.int (i : Nat)) = (r.map fun i : Nat => (i : Int)).map D.int := by rw [List.map_map]; rfl
  rw [this, toPs_ints, List.map_map]
  rfl
theorem toPs_mapP {α : Type} (f : α → D) (k : α → PyData) (h : ∀ x, toP (f x) = some (k x)) : ∀ xs : List α, toPs (xs.map f) = some (xs.map k)
  | [] => by simp [toPs]
  | x :: xs => by simp only [List.map_cons]; unfold toPs; simp only [h x, toPs_mapP f k h xs]; rfl
theorem ofP_row (r : List Nat) : ofP (pRow r) = dRow r := ofP_toP _ _ (toP_row r)
end TS
/-! To reckon with errors: that an expression (EX), a statement (SX) ends by an error. -/
namespace TS
open PySem L2
@[irreducible] def EX {α : Type} (r : Res α) (E : Xc → G → Prop) : Prop := match r with
  | .err x g => E x g
  | _ => False
@[irreducible] def SX (r : SRes) (E : Xc → Rho → G → Prop) : Prop := match r with
  | .err x ρ g => E x ρ g
  | _ => False
section
variable {α β : Type} {E : Xc → G → Prop} {S : Xc → Rho → G → Prop} {N : Rho → G → Prop} {R : D → G → Prop} {ρ : Rho} {g : G} {fa fb fc fe : DE} {ft fu : DT} {fr : DA} {f h : DS}
theorem ex_ok {a : α} : EX (.ok a g) E = False := by with_unfolding_all rfl
theorem ex_bad : EX (.bad : Res α) E = False := by with_unfolding_all rfl
theorem ex_err {x : Xc} : EX (.err x g : Res α) E = E x g := by with_unfolding_all rfl
theorem sx_rnx : SX (.nx ρ g) S = False := by with_unfolding_all rfl
theorem sx_rrt {d : D} : SX (.rt d g) S = False := by with_unfolding_all rfl
theorem sx_rbk : SX (.bk ρ g) S = False := by with_unfolding_all rfl
theorem sx_rct : SX (.ct ρ g) S = False := by with_unfolding_all rfl
theorem sx_rerr {x : Xc} : SX (.err x ρ g) S = S x ρ g := by with_unfolding_all rfl
theorem sx_rbad : SX .bad S = False := by with_unfolding_all rfl
theorem ex_bind {r : Res β} {k : β → G → Res α} : EX (r.bind k) E = (EX r E ∨ EW r fun a g => EX (k a g) E) := by
  cases r <;> simp [Res.bind, ex_ok, ex_bad, ex_err, ew_ok, ew_bad, ew_err]
theorem ex_opt {o : Option α} : EX (match o with | some d => .ok d g | none => .bad) E = False := by cases o <;> simp [ex_ok, ex_bad]
theorem ew_no {r : Res α} : EW r (fun _ _ => False) = False := by
  apply propext
  refine ⟨fun h => ?_, False.elim⟩
  obtain ⟨_, _, _, z⟩ := ew_ex h
  exact z
theorem ex_last {r : Res β} {k : β → G → Res α} (h : ∀ a g1, EX (k a g1) E = False) : EX (r.bind k) E = EX r E := by
  rw [ex_bind]
  have : (fun a g => EX (k a g) E) = fun _ _ => False := by funext a g; exact h a g
  rw [this, ew_no, or_false]
theorem ex_eq {r : Res α} {v : Xc} (h : EX r fun x g' => x = v ∧ g' = g) : r = .err v g := by
  cases r with
  | ok a g' => rw [ex_ok] at h; exact h.elim
  | err x g' => rw [ex_err] at h; obtain ⟨rfl, rfl⟩ := h; rfl
  | bad => rw [ex_bad] at h; exact h.elim
theorem sx_mono {r : SRes} {S' : Xc → Rho → G → Prop} (h : SX r S) (k : ∀ x ρ g, S x ρ g → S' x ρ g) : SX r S' := by
  cases r with
  | err x ρ g => rw [sx_rerr] at h ⊢; exact k _ _ _ h
  | nx ρ g => rw [sx_rnx] at h; exact h.elim
  | rt ρ g => rw [sx_rrt] at h; exact h.elim
  | bk ρ g => rw [sx_rbk] at h; exact h.elim
  | ct ρ g => rw [sx_rct] at h; exact h.elim
  | bad => rw [sx_rbad] at h; exact h.elim
theorem ex_var {i : Nat} : EX (varE i ρ g) E = False := by
  unfold varE
  split <;> simp [ex_ok, ex_bad]
theorem ex_c {d : D} : EX (cE d ρ g) E = False := by unfold cE; rw [ex_ok]
theorem ex_op {o : D → D → Option D} : EX (opE o fa fb ρ g) E = (EX (fa ρ g) E ∨ EW (fa ρ g) fun a g1 => EX (fb ρ g1) E) := by
  unfold opE
  rw [ex_bind]
  congr 2; funext a g1
  exact ex_last fun b g2 => by cases h : o a b <;> simp [ex_ok, ex_bad]
theorem ex_un {o : D → Option D} : EX (unE o fa ρ g) E = EX (fa ρ g) E := by
  unfold unE
  exact ex_last fun a g1 => by cases h : o a <;> simp [ex_ok, ex_bad]
theorem ex_nil : EX (nilA ρ g) E = False := by unfold nilA; rw [ex_ok]
theorem ex_cons : EX (consA fa fr ρ g) E = (EX (fa ρ g) E ∨ EW (fa ρ g) fun a g1 => EX (fr ρ g1) E) := by
  unfold consA
  rw [ex_bind]
  congr 2; funext a g1
  exact ex_last fun b g2 => by simp [ex_ok]
theorem ex_cl {o : List D → Option D} : EX (clE o fr ρ g) E = EX (fr ρ g) E := by
  unfold clE
  exact ex_last fun a g1 => by cases h : o a <;> simp [ex_ok, ex_bad]
theorem ex_toT : EX (toT fa ρ g) E = EX (fa ρ g) E := by
  unfold toT
  exact ex_last fun a g1 => by cases a <;> simp [ex_ok, ex_bad]
theorem ex_not : EX (notT ft ρ g) E = EX (ft ρ g) E := by
  unfold notT
  exact ex_last fun a g1 => by simp [ex_ok]
theorem ex_and : EX (andT ft fu ρ g) E = (EX (ft ρ g) E ∨ EW (ft ρ g) fun b g1 => if b = true then EX (fu ρ g1) E else False) := by
  unfold andT
  simp only [ex_bind]
  congr 2; funext b g1
  cases b <;> simp [ex_ok]
theorem ex_or : EX (orT ft fu ρ g) E = (EX (ft ρ g) E ∨ EW (ft ρ g) fun b g1 => if b = true then False else EX (fu ρ g1) E) := by
  unfold orT
  simp only [ex_bind]
  congr 2; funext b g1
  cases b <;> simp [ex_ok]
theorem ex_notE : EX (notE fa ρ g) E = EX (fa ρ g) E := by
  unfold notE
  exact ex_last fun a g1 => by cases a <;> simp [ex_ok, ex_bad]
theorem ex_andE : EX (andE fa fb ρ g) E = (EX (fa ρ g) E ∨ EW (fa ρ g) fun a g1 => ∃ b, asB a = some b ∧ if b = true then EX (fb ρ g1) E else False) := by
  unfold andE
  simp only [ex_bind]
  congr 2; funext a g1
  cases a with
  | bl b => cases b <;> simp [ex_ok, asB]
  | _ => simp [ex_bad, asB]
theorem ex_orE : EX (orE fa fb ρ g) E = (EX (fa ρ g) E ∨ EW (fa ρ g) fun a g1 => ∃ b, asB a = some b ∧ if b = true then False else EX (fb ρ g1) E) := by
  unfold orE
  simp only [ex_bind]
  congr 2; funext a g1
  cases a with
  | bl b => cases b <;> simp [ex_ok, asB]
  | _ => simp [ex_bad, asB]
theorem ex_if : EX (ifE ft fa fb ρ g) E = (EX (ft ρ g) E ∨ EW (ft ρ g) fun b g1 => if b = true then EX (fa ρ g1) E else EX (fb ρ g1) E) := by
  unfold ifE
  simp only [ex_bind]
  congr 2; funext b g1
  cases b <;> simp
theorem ex_ch {o o' : D → D → Option D} : EX (chE o o' fa fb fc ρ g) E = (EX (fa ρ g) E ∨ EW (fa ρ g) fun a g1 => EX (fb ρ g1) E ∨ EW (fb ρ g1) fun b g2 => (o a b).bind asB = some true ∧ EX (fc ρ g2) E) := by
  unfold chE
  simp only [ex_bind]
  congr 2; funext a g1; congr 2; funext b g2
  cases o a b with
  | none => simp [ex_bad]
  | some d =>
    cases d with
    | bl k =>
      cases k with
      | false => simp [ex_ok, asB]
      | true =>
        simp only [asB, Option.bind_some, true_and]
        exact ex_last fun c g3 => by cases h : o' b c <;> simp [ex_ok, ex_bad]
    | _ => simp [ex_bad, asB]
theorem ex_call {n : Nat} {F : DF} : EX (callE n F fr ρ g) E = (EX (fr ρ g) E ∨ EW (fr ρ g) fun ds g1 => ds.length = n ∧ EX (F ds g1) E) := by
  unfold callE
  simp only [ex_bind]
  congr 2; funext ds g1
  by_cases h : ds.length = n
  · simp [h]
  · simp [h, ex_bad]
theorem ex_run {n : Nat} {fb : DS} {ds : List D} : EX (runD n fb ds g) E = SX (fb (startR n ds) g) fun x _ g1 => E x g1 := by
  unfold runD
  cases fb (startR n ds) g <;> simp [ex_ok, ex_bad, ex_err, sx_rnx, sx_rrt, sx_rbk, sx_rct, sx_rerr, sx_rbad]
theorem ex_isi {Ts : List String} : EX (isiE Ts fa ρ g) E = EX (fa ρ g) E := by
  unfold isiE
  exact ex_last fun a g1 => by cases a <;> simp [ex_ok, ex_bad]
theorem ex_noO : EX (noO ρ g) E = False := by unfold noO; rw [ex_ok]
theorem ex_soO : EX (soO fa ρ g) E = EX (fa ρ g) E := by
  unfold soO
  exact ex_last fun a g1 => by cases a <;> simp [ex_ok, ex_bad]
theorem ex_sl {fl fh : DO} : EX (slE fa fl fh ρ g) E = (EX (fa ρ g) E ∨ EW (fa ρ g) fun d g1 => EX (fl ρ g1) E ∨ EW (fl ρ g1) fun lo g2 => EX (fh ρ g2) E) := by
  unfold slE
  rw [ex_bind]
  congr 2; funext a g1
  rw [ex_bind]
  congr 2; funext b g2
  exact ex_last fun c g3 => by cases h : slO a b c <;> simp [ex_ok, ex_bad]
theorem ex_ownIx {i : Nat} : EX (ownIxE i fa ρ g) E = ∃ ds, lstAt ρ i = some ds ∧ EX (fa ρ g) E := by
  unfold ownIxE
  cases lstAt ρ i with
  | none => simp [ex_bad]
  | some ds =>
    simp only [Option.some.injEq, exists_eq_left']
    refine ex_last fun a g1 => ?_
    cases a with
    | int k => cases h : atI ds k <;> simp [ex_ok, ex_bad, h]
    | _ => simp [ex_bad]
theorem ex_ownLen {i : Nat} : EX (ownLenE i ρ g) E = False := by
  unfold ownLenE
  split <;> simp [ex_ok, ex_bad]
theorem ex_seqI : EX (seqI fa ρ g) E = EX (fa ρ g) E := by
  unfold seqI
  exact ex_last fun a g1 => by cases a <;> simp [ex_ok, ex_bad]
theorem ex_rngI : EX (rngI fr ρ g) E = EX (fr ρ g) E := by
  unfold rngI
  exact ex_last fun a g1 => by cases h : rngO a <;> simp [ex_ok, ex_bad]
theorem ex_enI : EX (enI fr ρ g) E = EX (fr ρ g) E := by
  unfold enI
  exact ex_last fun a g1 => by cases h : enO a <;> simp [ex_ok, ex_bad]
theorem ex_yes : EX (yesT ρ g) E = False := by unfold yesT; rw [ex_ok]
theorem ex_lc {fi : DA} {vs : List Nat} {t : Tg} : EX (lcE fi vs t ft fe ρ g) E = EX (fi ρ g) E := by
  unfold lcE
  cases fi ρ g with
  | ok ds g1 =>
    simp only [ex_ok]
    cases lcL t ft fe (wipeR ρ vs) ds g1 with
    | ok r g2 => by_cases hr : r.length ≤ sizeLine <;> simp [hr, ex_ok, ex_bad]
    | err x g2 => simp [ex_bad]
    | bad => simp [ex_bad]
  | err x g1 => simp [ex_err]
  | bad => simp [ex_bad]
/-! statements -/
theorem sx_nx : SX (nxS ρ g) S = False := by unfold nxS; rw [sx_rnx]
theorem sx_bad : SX (badS ρ g) S = False := by unfold badS; rw [sx_rbad]
theorem sx_seq : SX (seqS f h ρ g) S = (SX (f ρ g) S ∨ SW (f ρ g) (fun ρ' g' => SX (h ρ' g') S) (fun _ _ => False)) := by
  unfold seqS
  cases f ρ g <;> simp [sx_rnx, sx_rrt, sx_rbk, sx_rct, sx_rerr, sx_rbad, sw_rnx, sw_rrt, sw_rbk, sw_rct, sw_rerr, sw_rbad]
theorem sx_if : SX (ifS ft f h ρ g) S = (EX (ft ρ g) (fun x g1 => S x ρ g1) ∨ EW (ft ρ g) fun b g1 => if b = true then SX (f ρ g1) S else SX (h ρ g1) S) := by
  unfold ifS
  cases ft ρ g with
  | ok b g1 => cases b <;> simp [ex_ok, ew_ok]
  | err x g1 => simp [ex_err, ew_err, sx_rerr]
  | bad => simp [ex_bad, ew_bad, sx_rbad]
theorem sx_ret : SX (retS fa ρ g) S = EX (fa ρ g) fun x g1 => S x ρ g1 := by
  unfold retS
  cases fa ρ g <;> simp [ex_ok, ex_bad, ex_err, sx_rrt, sx_rerr, sx_rbad]
theorem sx_drop : SX (dropS fa ρ g) S = EX (fa ρ g) fun x g1 => S x ρ g1 := by
  unfold dropS
  cases fa ρ g <;> simp [ex_ok, ex_bad, ex_err, sx_rnx, sx_rerr, sx_rbad]
theorem sx_asg {t : Tg} : SX (asgS t fa ρ g) S = EX (fa ρ g) fun x g1 => S x ρ g1 := by
  unfold asgS
  cases fa ρ g with
  | ok d g1 => cases e : t.put d ρ <;> simp [ex_ok, sx_rnx, sx_rbad, e]
  | err x g1 => simp [ex_err, sx_rerr]
  | bad => simp [ex_bad, sx_rbad]
theorem sx_aug {i : Nat} {o : D → D → Option D} : SX (augS i o fa ρ g) S = ∃ a, ρ[i]? = some (some (.dat a)) ∧ EX (fa ρ g) fun x g1 => S x ρ g1 := by
  unfold augS
  split
  · rename_i a ha
    simp only [ha, Option.some.injEq, SV.dat.injEq, exists_eq_left']
    cases fa ρ g with
    | ok d g1 => cases e : o a d <;> simp [ex_ok, sx_rnx, sx_rbad, e]
    | err x g1 => simp [ex_err, sx_rerr]
    | bad => simp [ex_bad, sx_rbad]
  · rename_i hn
    rw [sx_rbad]
    apply propext
    exact ⟨False.elim, fun ⟨a, ha, _⟩ => hn a ha⟩
theorem sx_own {i : Nat} : SX (ownS i fr ρ g) S = EX (fr ρ g) fun x g1 => S x ρ g1 := by
  unfold ownS
  cases fr ρ g with
  | ok ds g1 => by_cases hr : ds.length ≤ sizeLine <;> simp [hr, ex_ok, sx_rnx, sx_rbad]
  | err x g1 => simp [ex_err, sx_rerr]
  | bad => simp [ex_bad, sx_rbad]
theorem sx_app {i : Nat} : SX (appS i fa ρ g) S = ∃ ds, ρ[i]? = some (some (.own ds)) ∧ EX (fa ρ g) fun x g1 => S x ρ g1 := by
  unfold appS
  split
  · rename_i ds hd
    simp only [hd, Option.some.injEq, SV.own.injEq, exists_eq_left']
    cases fa ρ g with
    | ok d g1 => by_cases hr : ds.length < sizeLine <;> simp [hr, ex_ok, sx_rnx, sx_rbad]
    | err x g1 => simp [ex_err, sx_rerr]
    | bad => simp [ex_bad, sx_rbad]
  · rename_i hn
    rw [sx_rbad]
    apply propext
    exact ⟨False.elim, fun ⟨a, ha, _⟩ => hn a ha⟩
theorem sx_ext {i : Nat} : SX (extS i fa ρ g) S = ∃ ds, ρ[i]? = some (some (.own ds)) ∧ EX (fa ρ g) fun x g1 => S x ρ g1 := by
  unfold extS
  split
  · rename_i ds hd
    simp only [hd, Option.some.injEq, SV.own.injEq, exists_eq_left']
    cases fa ρ g with
    | ok d g1 =>
      cases d with
      | lst es => by_cases hr : ds.length + es.length ≤ sizeLine <;> simp [hr, ex_ok, sx_rnx, sx_rbad]
      | _ => simp [ex_ok, sx_rbad]
    | err x g1 => simp [ex_err, sx_rerr]
    | bad => simp [ex_bad, sx_rbad]
  · rename_i hn
    rw [sx_rbad]
    apply propext
    exact ⟨False.elim, fun ⟨a, ha, _⟩ => hn a ha⟩
theorem sx_frz {i : Nat} : SX (frzS i f ρ g) S = SX (f (match ρ[i]? with | some (some (.own ds)) => ρ.set i (some (.dat (.lst ds))) | _ => ρ) g) S := by
  unfold frzS
  split <;> rename_i h <;> simp [h]
theorem sx_forS {fi : DA} {t : Tg} : SX (forS fi t f ρ g) S = (EX (fi ρ g) (fun x g1 => S x ρ g1) ∨ EW (fi ρ g) fun ds g1 => SX (forL t f ds ρ g1) S) := by
  unfold forS
  cases fi ρ g <;> simp [ex_ok, ex_bad, ex_err, ew_ok, ew_bad, ew_err, sx_rerr, sx_rbad]
theorem sw_raise {x fld : Str} : SW (raiseS x fld fr ρ g) N R = False := by
  unfold raiseS
  split <;> simp [sw_rerr, sw_rbad]
theorem sx_raise {x fld : Str} : SX (raiseS x fld fr ρ g) S = (EX (fr ρ g) (fun y g1 => S y ρ g1) ∨ EW (fr ρ g) fun ds g1 => ∃ d, ds = [d] ∧ S ⟨x, [(fld, d)]⟩ ρ g1) := by
  unfold raiseS
  cases e : fr ρ g with
  | ok ds g1 =>
    match ds with
    | [] => simp [ex_ok, ew_ok, sx_rbad]
    | [d] => simp [ex_ok, ew_ok, sx_rerr]
    | a :: b :: c => simp [ex_ok, ew_ok, sx_rbad]
  | err y g1 => simp [ex_err, ew_err, sx_rerr]
  | bad => simp [ex_bad, ew_bad, sx_rbad]
theorem sw_try {x : Str} {i t : Nat} {kd : HK} : SW (trS x i t kd f ρ g) N R = (SW (f ρ g) N R ∨ SX (f ρ g) fun y ρ1 g1 => y.cls = x ∧ y.fs.isEmpty = false ∧ i < ρ1.length ∧ ∃ d, hK y kd = some d ∧ N (((ρ1.set i none).set t (some (.dat d))).set i none) g1) := by
  unfold trS
  cases e : f ρ g with
  | err y ρ1 g1 =>
    simp only [sw_rerr, false_or, sx_rerr]
    by_cases hc : y.cls = x ∧ y.fs.isEmpty = false ∧ i < ρ1.length
    · rw [if_pos hc]
      obtain ⟨h1, h2, h3⟩ := hc
      cases hk : hK y kd with
      | none => simp [sw_rbad]
      | some d => simp [sw_rnx, h1, h2, h3]
    · rw [if_neg hc, sw_rbad]
      apply propext
      exact ⟨False.elim, fun ⟨h1, h2, h3, _⟩ => hc ⟨h1, h2, h3⟩⟩
  | _ => simp [sx_rnx, sx_rrt, sx_rbk, sx_rct, sx_rbad]
end
theorem sx_forL {t : Tg} {b : DS} {S : Xc → Rho → G → Prop} (I : List D → Rho → G → Prop) (hs : ∀ d ds ρ g, I (d :: ds) ρ g → ∃ ρ1, t.put d ρ = some ρ1 ∧ (SX (b ρ1 g) S ∨ SW (b ρ1 g) (fun ρ2 g2 => I ds ρ2 g2) (fun _ _ => False))) (he : ∀ ρ g, ¬ I [] ρ g) : ∀ {ds : List D} {ρ : Rho} {g : G}, I ds ρ g → SX (forL t b ds ρ g) S
  | [], ρ, g, h => (he ρ g h).elim
  | d :: ds, ρ, g, h => by
    obtain ⟨ρ1, h1, h2⟩ := hs d ds ρ g h
    rw [forL_cons, h1]
    simp only
    cases e : b ρ1 g with
    | nx ρ2 g2 => rw [e, sx_rnx, sw_rnx, false_or] at h2; exact sx_forL I hs he h2
    | rt d g2 => rw [e, sx_rrt, sw_rrt] at h2; exact (h2.elim id id).elim
    | bk ρ2 g2 => rw [e, sx_rbk, sw_rbk] at h2; exact (h2.elim id id).elim
    | ct ρ2 g2 => rw [e, sx_rct, sw_rct] at h2; exact (h2.elim id id).elim
    | err x ρ2 g2 => rw [e, sx_rerr, sw_rerr, or_false] at h2; simp only [sx_rerr]; exact h2
    | bad => rw [e, sx_rbad, sw_rbad] at h2; exact (h2.elim id id).elim
theorem sx_forM {α : Type} {t : Tg} {b : DS} {S : Xc → Rho → G → Prop} (enc : α → D) (I : List α → Rho → G → Prop) (hs : ∀ d ds ρ g, I (d :: ds) ρ g → ∃ ρ1, t.put (enc d) ρ = some ρ1 ∧ (SX (b ρ1 g) S ∨ SW (b ρ1 g) (fun ρ2 g2 => I ds ρ2 g2) (fun _ _ => False))) (he : ∀ ρ g, ¬ I [] ρ g) {ds : List α} {ρ : Rho} {g : G} (h : I ds ρ g) : SX (forL t b (ds.map enc) ρ g) S :=
  sx_forL (fun l ρ g => ∃ ds : List α, l = ds.map enc ∧ I ds ρ g) (fun d l ρ g ⟨ds, e, i⟩ => by
    cases ds with
    | nil => cases e
    | cons x ds =>
      cases e
      obtain ⟨ρ1, h1, h2⟩ := hs x ds ρ g i
      refine ⟨ρ1, h1, ?_⟩
      rcases h2 with h2 | h2
      · exact .inl h2
      · exact .inr (sw_mono h2 (fun ρ2 g2 q => ⟨ds, rfl, q⟩) fun _ _ q => q)) (fun ρ g ⟨ds, e, i⟩ => by
    cases ds with
    | nil => exact he ρ g i
    | cons x ds => cases e) ⟨ds, rfl, h⟩
/-! a walk over a range -/
theorem rngInts_drop {lo : Int} {n i : Nat} (h : i < n) : (rngInts lo n).drop i = .int (lo + (i : Nat)) :: (rngInts lo n).drop (i + 1) := by
  have hl : i < (rngInts lo n).length := by simp [rngInts, h]
  rw [List.drop_eq_getElem_cons hl]
  congr 1
  simp [rngInts]
theorem sw_rng {t : Tg} {b : DS} {N : Rho → G → Prop} {R : D → G → Prop} {lo : Int} {n : Nat} (I : Nat → Rho → G → Prop) (hs : ∀ (i : Nat) ρ g, i < n → I i ρ g → ∃ ρ1, t.put (.int (lo + (i : Nat))) ρ = some ρ1 ∧ SW (b ρ1 g) (fun ρ2 g2 => I (i + 1) ρ2 g2) R) (he : ∀ ρ g, I n ρ g → N ρ g) {ρ : Rho} {g : G} (h : I 0 ρ g) : SW (forL t b (rngInts lo n) ρ g) N R := by
  refine sw_forL (fun l ρ g => ∃ i, i ≤ n ∧ l = (rngInts lo n).drop i ∧ I i ρ g) ?_ ?_ ⟨0, Nat.zero_le _, rfl, h⟩
  · rintro d ds ρ g ⟨i, hi, e, hI⟩
    have hlt : i < n := by
      rcases Nat.lt_or_ge i n with q | q
      · exact q
      · rw [List.drop_eq_nil_of_le (by simp [rngInts]; omega)] at e; cases e
    rw [rngInts_drop hlt] at e
    injection e with e1 e2
    subst e1
    obtain ⟨ρ1, h1, h2⟩ := hs i ρ g hlt hI
    exact ⟨ρ1, h1, sw_mono h2 (fun ρ2 g2 q => ⟨i + 1, hlt, e2, q⟩) fun _ _ q => q⟩
  · rintro ρ g ⟨i, hi, e, hI⟩
    have : i = n := by
      have := congrArg List.length e
      simp [rngInts] at this
      omega
    subst this
    exact he ρ g hI
/-- a walk over a list, with the place -/
theorem sw_at {α : Type} {t : Tg} {b : DS} {N : Rho → G → Prop} {R : D → G → Prop} (enc : α → D) {xs : List α} (I : Nat → Rho → G → Prop) (hs : ∀ (i : Nat) x ρ g, xs[i]? = some x → I i ρ g → ∃ ρ1, t.put (enc x) ρ = some ρ1 ∧ SW (b ρ1 g) (fun ρ2 g2 => I (i + 1) ρ2 g2) R) (he : ∀ ρ g, I xs.length ρ g → N ρ g) {ρ : Rho} {g : G} (h : I 0 ρ g) : SW (forL t b (xs.map enc) ρ g) N R := by
  refine sw_forM enc (fun l ρ g => ∃ i, i ≤ xs.length ∧ l = xs.drop i ∧ I i ρ g) ?_ ?_ ⟨0, Nat.zero_le _, rfl, h⟩
  · rintro d ds ρ g ⟨i, hi, e, hI⟩
    have hlt : i < xs.length := by
      rcases Nat.lt_or_ge i xs.length with q | q
      · exact q
      · rw [List.drop_eq_nil_of_le q] at e; cases e
    rw [List.drop_eq_getElem_cons hlt] at e
    injection e with e1 e2
    obtain ⟨ρ1, h1, h2⟩ := hs i d ρ g (by rw [List.getElem?_eq_getElem hlt, e1]) hI
    exact ⟨ρ1, h1, sw_mono h2 (fun ρ2 g2 q => ⟨i + 1, hlt, e2, q⟩) fun _ _ q => q⟩
  · rintro ρ g ⟨i, hi, e, hI⟩
    have : i = xs.length := by
      have := congrArg List.length e
      simp at this
      omega
    subst this
    exact he ρ g hI
theorem sx_at {α : Type} {t : Tg} {b : DS} {S : Xc → Rho → G → Prop} (enc : α → D) {xs : List α} (I : Nat → Rho → G → Prop) (hs : ∀ (i : Nat) x ρ g, xs[i]? = some x → I i ρ g → ∃ ρ1, t.put (enc x) ρ = some ρ1 ∧ (SX (b ρ1 g) S ∨ SW (b ρ1 g) (fun ρ2 g2 => I (i + 1) ρ2 g2) (fun _ _ => False))) (he : ∀ ρ g, ¬ I xs.length ρ g) {ρ : Rho} {g : G} (h : I 0 ρ g) : SX (forL t b (xs.map enc) ρ g) S := by
  refine sx_forM enc (fun l ρ g => ∃ i, i ≤ xs.length ∧ l = xs.drop i ∧ I i ρ g) ?_ ?_ ⟨0, Nat.zero_le _, rfl, h⟩
  · rintro d ds ρ g ⟨i, hi, e, hI⟩
    have hlt : i < xs.length := by
      rcases Nat.lt_or_ge i xs.length with q | q
      · exact q
      · rw [List.drop_eq_nil_of_le q] at e; cases e
    rw [List.drop_eq_getElem_cons hlt] at e
    injection e with e1 e2
    obtain ⟨ρ1, h1, h2⟩ := hs i d ρ g (by rw [List.getElem?_eq_getElem hlt, e1]) hI
    refine ⟨ρ1, h1, ?_⟩
    rcases h2 with h2 | h2
    · exact .inl h2
    · exact .inr (sw_mono h2 (fun ρ2 g2 q => ⟨i + 1, hlt, e2, q⟩) fun _ _ q => q)
  · rintro ρ g ⟨i, hi, e, hI⟩
    have : i = xs.length := by
      have := congrArg List.length e
      simp at this
      omega
    subst this
    exact he ρ g hI
theorem zip_at {α : Type} {xs : List α} {k n : Nat} {y : α} (h : xs.zipIdx[k]? = some (y, n)) : xs[k]? = some y ∧ n = k := by
  rw [List.getElem?_zipIdx] at h
  cases e : xs[k]? with
  | none => rw [e] at h; cases h
  | some z => rw [e] at h; simp at h; exact ⟨by rw [h.1], h.2.symm⟩
end TS
/-! The plain mathematics of steps: no program in sight. -/
namespace TM

inductive Rule where
  | down | up | near
deriving DecidableEq
inductive Step where
  | part (p : Int) (r : Rule)
  | add (c : Int)
  | even (m : Int) (r : Rule)
  | least (c : Int)
  | most (c : Int)
deriving DecidableEq
def Step.ok : Step → Prop
  | .part p _ => 0 ≤ p ∧ p ≤ 200
  | .add c => -200 ≤ c ∧ c ≤ 200
  | .even m _ => 2 ≤ m ∧ m ≤ 100
  | .least c => 0 ≤ c ∧ c ≤ 1000
  | .most c => 0 ≤ c ∧ c ≤ 1000
abbrev Steps := List Step
def Ok (s : Steps) : Prop := ∀ x ∈ s, x.ok
def rnd (over under : Int) : Rule → Int
  | .down => over / under
  | .up => (over + under - 1) / under
  | .near => (2 * over + under) / (2 * under)
def beh : Step → Int → Int
  | .part p r, y => rnd (y * p) 100 r
  | .even m r, y => rnd y m r * m
  | .add c, y => max 0 (y + c)
  | .least c, y => max y c
  | .most c, y => min y c
def paid : Steps → Int → Int
  | [], y => y
  | x :: s, y => paid s (beh x y)

theorem ok_cons {x : Step} {s : Steps} (h : Ok (x :: s)) : x.ok ∧ Ok s := ⟨h x List.mem_cons_self, fun y hy => h y (List.mem_cons_of_mem _ hy)⟩

/-! ### rounding -/
theorem rnd_mono {a b u : Int} (hu : 0 < u) (h : a ≤ b) (r : Rule) : rnd a u r ≤ rnd b u r := by
  cases r
  · exact Int.ediv_le_ediv hu h
  · exact Int.ediv_le_ediv hu (by omega)
  · exact Int.ediv_le_ediv (by omega) (by omega)
theorem rnd_nonneg {a u : Int} (hu : 0 < u) (h : 0 ≤ a) (r : Rule) : 0 ≤ rnd a u r := by
  cases r
  · exact Int.ediv_nonneg h (by omega)
  · exact Int.ediv_nonneg (by omega) (by omega)
  · exact Int.ediv_nonneg (by omega) (by omega)
theorem rnd_add {a u : Int} (hu : 0 < u) (k : Int) (r : Rule) : rnd (a + u * k) u r = rnd a u r + k := by
  cases r
  · show (a + u * k) / u = a / u + k
    rw [Int.add_mul_ediv_left _ _ (by omega)]
  · show (a + u * k + u - 1) / u = (a + u - 1) / u + k
    rw [show a + u * k + u - 1 = (a + u - 1) + u * k by omega, Int.add_mul_ediv_left _ _ (by omega)]
  · show (2 * (a + u * k) + u) / (2 * u) = (2 * a + u) / (2 * u) + k
    rw [show 2 * (a + u * k) + u = (2 * a + u) + (2 * u) * k by rw [Int.mul_add, Int.mul_assoc]; omega, Int.add_mul_ediv_left _ _ (by omega)]
theorem rnd_zero {u : Int} (hu : 0 < u) (r : Rule) : rnd 0 u r = 0 := by
  cases r
  · show 0 / u = 0
    simp
  · show (0 + u - 1) / u = 0
    exact Int.ediv_eq_zero_of_lt (by omega) (by omega)
  · show (2 * 0 + u) / (2 * u) = 0
    exact Int.ediv_eq_zero_of_lt (by omega) (by omega)
/-- rounding lies within one of the quotient -/
theorem rnd_lo {a u : Int} (hu : 0 < u) (r : Rule) : a - u < rnd a u r * u := by
  cases r
  · show a - u < a / u * u
    have := Int.emod_lt_of_pos a hu
    have := Int.mul_ediv_add_emod a u
    rw [Int.mul_comm]
    omega
  · show a - u < (a + u - 1) / u * u
    have := Int.emod_lt_of_pos (a + u - 1) hu
    have := Int.mul_ediv_add_emod (a + u - 1) u
    rw [Int.mul_comm]
    omega
  · show a - u < (2 * a + u) / (2 * u) * u
    have := Int.emod_lt_of_pos (2 * a + u) (show 0 < 2 * u by omega)
    have := Int.mul_ediv_add_emod (2 * a + u) (2 * u)
    rw [Int.mul_comm]
    rw [Int.mul_assoc] at this
    omega
theorem rnd_hi {a u : Int} (hu : 0 < u) (r : Rule) : rnd a u r * u < a + u := by
  cases r
  · show a / u * u < a + u
    have := Int.emod_nonneg a (show u ≠ 0 by omega)
    have := Int.mul_ediv_add_emod a u
    rw [Int.mul_comm]
    omega
  · show (a + u - 1) / u * u < a + u
    have := Int.emod_nonneg (a + u - 1) (show u ≠ 0 by omega)
    have := Int.mul_ediv_add_emod (a + u - 1) u
    rw [Int.mul_comm]
    omega
  · show (2 * a + u) / (2 * u) * u < a + u
    have := Int.emod_nonneg (2 * a + u) (show 2 * u ≠ 0 by omega)
    have := Int.mul_ediv_add_emod (2 * a + u) (2 * u)
    rw [Int.mul_comm]
    rw [Int.mul_assoc] at this
    omega

/-! ### a step, steps -/
theorem beh_mono {x : Step} (hx : x.ok) {y z : Int} (h : y ≤ z) : beh x y ≤ beh x z := by
  cases x with
  | part p r => exact rnd_mono (by decide) (Int.mul_le_mul_of_nonneg_right h hx.1) r
  | even m r =>
    obtain ⟨h1, h2⟩ := hx
    exact Int.mul_le_mul_of_nonneg_right (rnd_mono (by omega) h r) (by omega)
  | add c => show max 0 (y + c) ≤ max 0 (z + c); omega
  | least c => show max y c ≤ max z c; omega
  | most c => show min y c ≤ min z c; omega
theorem beh_nonneg {x : Step} (hx : x.ok) {y : Int} (h : 0 ≤ y) : 0 ≤ beh x y := by
  cases x with
  | part p r => exact rnd_nonneg (by decide) (Int.mul_nonneg h hx.1) r
  | even m r =>
    obtain ⟨h1, h2⟩ := hx
    exact Int.mul_nonneg (rnd_nonneg (by omega) h r) (by omega)
  | add c => show 0 ≤ max 0 (y + c); omega
  | least c => show 0 ≤ max y c; omega
  | most c => obtain ⟨h1, h2⟩ := hx; show 0 ≤ min y c; omega
theorem paid_mono : ∀ {s : Steps} (hs : Ok s) {y z : Int}, y ≤ z → paid s y ≤ paid s z
  | [], _, _, _, h => h
  | _ :: _, hs, _, _, h => paid_mono (ok_cons hs).2 (beh_mono (ok_cons hs).1 h)
theorem paid_nonneg : ∀ {s : Steps} (hs : Ok s) {y : Int}, 0 ≤ y → 0 ≤ paid s y
  | [], _, _, h => h
  | _ :: _, hs, _, h => paid_nonneg (ok_cons hs).2 (beh_nonneg (ok_cons hs).1 h)
theorem paid_append : ∀ (s t : Steps) (y : Int), paid (s ++ t) y = paid t (paid s y)
  | [], _, _ => rfl
  | x :: s, t, y => paid_append s t (beh x y)
/-- how much a final price can be -/
theorem beh_le {x : Step} (hx : x.ok) {y : Int} (h : 0 ≤ y) : beh x y ≤ 2 * y + 1000 := by
  cases x with
  | part p r =>
    obtain ⟨h1, h2⟩ := hx
    have a := rnd_hi (a := y * p) (u := 100) (by decide) r
    have b : y * p ≤ y * 200 := Int.mul_le_mul_of_nonneg_left h2 h
    show rnd (y * p) 100 r ≤ _
    omega
  | even m r =>
    obtain ⟨h1, h2⟩ := hx
    have a := rnd_hi (a := y) (u := m) (by omega) r
    show rnd y m r * m ≤ _
    omega
  | add c => obtain ⟨h1, h2⟩ := hx; show max 0 (y + c) ≤ _; omega
  | least c => obtain ⟨h1, h2⟩ := hx; show max y c ≤ _; omega
  | most c => obtain ⟨h1, h2⟩ := hx; show min y c ≤ _; omega

/-! ### widths -/
def isConst : Step → Bool
  | .most _ => true
  | .part p _ => p == 0
  | _ => false
def widened (x : Step) (a : Int × Int) : Int × Int := if a.2 = 0 ∨ isConst x = true then (1, 0) else match x with
    | .part p _ => (a.1 * (100 / (Int.gcd 100 a.2 : Int)), a.2 / (Int.gcd 100 a.2 : Int) * p)
    | .even m _ => (a.1 * (m / (Int.gcd m a.2 : Int)), a.2 * (m / (Int.gcd m a.2 : Int)))
    | _ => a
def widthF : Steps → Int × Int → Int × Int
  | [], a => a
  | x :: s, a => widthF s (widened x a)
abbrev width (s : Steps) : Int × Int := widthF s (1, 1)
def past1 : Step → Int → Bool
  | .add c, y => decide (0 ≤ y + c)
  | .least c, y => decide (c ≤ y)
  | .most c, y => decide (c ≤ y)
  | _, _ => true
def isFree : Steps → Int → Bool
  | [], _ => true
  | x :: s, y => past1 x y && (isConst x || isFree s (beh x y))
theorem isFree_mono : ∀ {s : Steps} (hs : Ok s) {y z : Int}, y ≤ z → isFree s y = true → isFree s z = true
  | [], _, _, _, _, _ => rfl
  | x :: s, hs, y, z, h, hf => by
    unfold isFree at hf ⊢
    rw [Bool.and_eq_true] at hf ⊢
    obtain ⟨h1, h2⟩ := hf
    refine ⟨?_, ?_⟩
    · cases x <;> simp only [past1, decide_eq_true_eq] at h1 ⊢ <;> omega
    · rw [Bool.or_eq_true] at h2 ⊢
      rcases h2 with h2 | h2
      · exact .inl h2
      · exact .inr (isFree_mono (ok_cons hs).2 (beh_mono (ok_cons hs).1 h) h2)
theorem widened_zero (x : Step) (w : Int) : widened x (w, 0) = (1, 0) := by
  unfold widened
  simp
theorem widthF_zero : ∀ (s : Steps), widthF s (1, 0) = (1, 0)
  | [] => rfl
  | x :: s => by unfold widthF; rw [widened_zero]; exact widthF_zero s
/-- behind a constant step all is the same -/
theorem beh_const {x : Step} (h : isConst x = true) {y z : Int} (hf : isFree [x] y = true) (hz : y ≤ z) : beh x z = beh x y := by
  cases x with
  | most c =>
    unfold isFree at hf
    simp only [past1, Bool.and_eq_true, decide_eq_true_eq] at hf
    show min z c = min y c
    omega
  | part p r =>
    have : p = 0 := by simpa [isConst] using h
    subst this
    show rnd (z * 0) 100 r = rnd (y * 0) 100 r
    simp
  | _ => cases h
theorem gcd_pos_left {a : Int} (b : Int) (h : 0 < a) : 0 < (Int.gcd a b : Int) := by
  have : 0 < Int.gcd a b := Int.gcd_pos_of_ne_zero_left b (by omega)
  omega
/-- how final prices go on -/
theorem width_goes : ∀ (s : Steps) (hs : Ok s) (w r : Int), 0 < r → 0 < w →
    (∃ q, 0 < q ∧ (widthF s (w, r)).1 = w * q ∧ 0 < (widthF s (w, r)).2 ∧ ∀ u, isFree s u = true → paid s (u + r * q) = paid s u + (widthF s (w, r)).2)
    ∨ (widthF s (w, r) = (1, 0) ∧ ∀ u, isFree s u = true → ∀ v, u ≤ v → paid s v = paid s u)
  | [], _, w, r, hr, hw => .inl ⟨1, by decide, by simp [widthF], hr, fun u _ => by simp [paid, widthF]⟩
  | x :: s, hs, w, r, hr, hw => by
    obtain ⟨hx, hs'⟩ := ok_cons hs
    by_cases hc : isConst x = true
    · right
      have e : widened x (w, r) = (1, 0) := by unfold widened; simp [hc]
      refine ⟨by unfold widthF; rw [e]; exact widthF_zero s, fun u hu v huv => ?_⟩
      have : beh x v = beh x u := beh_const hc (by
        unfold isFree at hu
        rw [Bool.and_eq_true] at hu
        unfold isFree
        rw [Bool.and_eq_true]
        exact ⟨hu.1, by rw [hc]; rfl⟩) huv
      show paid s (beh x v) = paid s (beh x u)
      rw [this]
    · have hc' : isConst x = false := by simpa using hc
      -- the step's own turn
      obtain ⟨w1, r1, a, e, ha, hw1, hr1, hb⟩ : ∃ w1 r1 a, widened x (w, r) = (w1, r1) ∧ 0 < a ∧ w1 = w * a ∧ 0 < r1 ∧ ∀ u k, 0 ≤ k → past1 x u = true → beh x (u + r * (a * k)) = beh x u + r1 * k := by
        have hr0 : ¬ (r = 0 ∨ isConst x = true) := by rintro (h | h); omega; exact hc h
        cases x with
        | part p ru =>
          have hp : p ≠ 0 := by simpa [isConst] using hc'
          have hg := gcd_pos_left r (show (0:Int) < 100 by decide)
          obtain ⟨g, hgd⟩ : ∃ g : Int, g = (Int.gcd 100 r : Int) := ⟨_, rfl⟩
          have d1 : g ∣ 100 := by rw [hgd]; exact Int.gcd_dvd_left _ _
          have d2 : g ∣ r := by rw [hgd]; exact Int.gcd_dvd_right _ _
          rw [← hgd] at hg
          obtain ⟨a, ha⟩ := d1
          obtain ⟨b, hb⟩ := d2
          have ha' : 100 / g = a := by rw [ha]; exact Int.mul_ediv_cancel_left _ (by omega)
          have hb' : r / g = b := by rw [hb]; exact Int.mul_ediv_cancel_left _ (by omega)
          have ap : 0 < a := Int.pos_of_mul_pos_right (by rw [← ha]; decide) (by omega : 0 < g)
          have bp : 0 < b := Int.pos_of_mul_pos_right (by rw [← hb]; exact hr) (by omega : 0 < g)
          refine ⟨w * a, b * p, a, ?_, ap, rfl, Int.mul_pos bp (by have := hx.1; omega), fun u k _ _ => ?_⟩
          · unfold widened
            rw [if_neg hr0]
            simp only [← hgd, ha', hb']
          · show rnd ((u + r * (a * k)) * p) 100 ru = rnd (u * p) 100 ru + b * p * k
            rw [← rnd_add (by decide)]
            congr 1
            rw [hb, ha, Int.add_mul]
            congr 1
            simp only [Int.mul_assoc, Int.mul_comm, Int.mul_left_comm]
        | even m ru =>
          have hg := gcd_pos_left r (show (0:Int) < m by have := hx.1; omega)
          obtain ⟨g, hgd⟩ : ∃ g : Int, g = (Int.gcd m r : Int) := ⟨_, rfl⟩
          have d1 : g ∣ m := by rw [hgd]; exact Int.gcd_dvd_left _ _
          have d2 : g ∣ r := by rw [hgd]; exact Int.gcd_dvd_right _ _
          rw [← hgd] at hg
          have hm : 0 < m := by have := hx.1; omega
          obtain ⟨a, ha⟩ := d1
          obtain ⟨b, hb⟩ := d2
          have ha' : m / g = a := by rw [ha]; exact Int.mul_ediv_cancel_left _ (by omega)
          have ap : 0 < a := Int.pos_of_mul_pos_right (by rw [← ha]; exact hm) (by omega : 0 < g)
          refine ⟨w * a, r * a, a, ?_, ap, rfl, Int.mul_pos hr ap, fun u k _ _ => ?_⟩
          · unfold widened
            rw [if_neg hr0]
            simp only [← hgd, ha']
          · show rnd (u + r * (a * k)) m ru * m = rnd u m ru * m + r * a * k
            have e1 : r * (a * k) = m * (b * k) := by rw [hb, ha]; simp only [Int.mul_assoc, Int.mul_comm, Int.mul_left_comm]
            rw [e1, rnd_add hm, Int.add_mul, Int.mul_assoc r a k, e1, Int.mul_comm m]
        | add c =>
          refine ⟨w, r, 1, ?_, by decide, by omega, hr, fun u k hk hu => ?_⟩
          · unfold widened; rw [if_neg hr0]
          · simp only [past1, decide_eq_true_eq] at hu
            have : 0 ≤ r * k := Int.mul_nonneg (by omega) hk
            show max 0 (u + r * (1 * k) + c) = max 0 (u + c) + r * k
            rw [Int.one_mul]
            omega
        | least c =>
          refine ⟨w, r, 1, ?_, by decide, by omega, hr, fun u k hk hu => ?_⟩
          · unfold widened; rw [if_neg hr0]
          · simp only [past1, decide_eq_true_eq] at hu
            have : 0 ≤ r * k := Int.mul_nonneg (by omega) hk
            show max (u + r * (1 * k)) c = max u c + r * k
            rw [Int.one_mul]
            omega
        | most c => cases hc'
      have hw1p : 0 < w1 := by rw [hw1]; exact Int.mul_pos hw ha
      have ef : widthF (x :: s) (w, r) = widthF s (w1, r1) := by show widthF s (widened x (w, r)) = _; rw [e]
      rw [ef]
      have fr : ∀ u, isFree (x :: s) u = true → past1 x u = true ∧ isFree s (beh x u) = true := by
        intro u hu
        unfold isFree at hu
        rw [Bool.and_eq_true, hc', Bool.false_or] at hu
        exact hu
      rcases width_goes s hs' w1 r1 hr1 hw1p with ⟨q, hq, h1, h2, h3⟩ | ⟨h1, h2⟩
      · refine .inl ⟨a * q, Int.mul_pos ha hq, by rw [h1, hw1, Int.mul_assoc], h2, fun u hu => ?_⟩
        obtain ⟨u1, u2⟩ := fr u hu
        show paid s (beh x (u + r * (a * q))) = paid s (beh x u) + _
        rw [hb u q (by omega) u1]
        exact h3 _ u2
      · refine .inr ⟨h1, fun u hu v huv => ?_⟩
        obtain ⟨u1, u2⟩ := fr u hu
        exact h2 (beh x u) u2 (beh x v) (beh_mono hx huv)
theorem width_pos {s : Steps} (hs : Ok s) : 0 < (width s).1 ∧ 0 ≤ (width s).2 := by
  show 0 < (widthF s (1, 1)).1 ∧ 0 ≤ (widthF s (1, 1)).2
  rcases width_goes s hs 1 1 (by decide) (by decide) with ⟨q, hq, h1, h2, _⟩ | ⟨h1, _⟩
  · exact ⟨by rw [h1]; omega, by omega⟩
  · rw [h1]; decide
theorem width_zero {s : Steps} (hs : Ok s) (h : (width s).2 = 0) : width s = (1, 0) ∧ ∀ u, isFree s u = true → ∀ v, u ≤ v → paid s v = paid s u := by
  rcases width_goes s hs 1 1 (by decide) (by decide) with ⟨q, hq, h1, h2, _⟩ | ⟨h1, h3⟩
  · have h' : (widthF s (1, 1)).2 = 0 := h
    omega
  · exact ⟨h1, h3⟩
/-- from a free price on: greater by the width, greater by the rise -/
theorem paid_turn {s : Steps} (hs : Ok s) {u : Int} (hu : isFree s u = true) : paid s (u + (width s).1) = paid s u + (width s).2 := by
  rcases width_goes s hs 1 1 (by decide) (by decide) with ⟨q, hq, h1, h2, h3⟩ | ⟨h1, h3⟩
  · have := h3 u hu
    rw [Int.one_mul] at this h1
    show paid s (u + (widthF s (1, 1)).1) = _
    rw [h1]
    exact this
  · show paid s (u + (widthF s (1, 1)).1) = paid s u + (widthF s (1, 1)).2
    rw [h1, h3 u hu (u + 1) (by omega)]
    show paid s u = paid s u + 0
    omega
theorem paid_turns {s : Steps} (hs : Ok s) {u : Int} (hu : isFree s u = true) : ∀ k : Nat, paid s (u + k * (width s).1) = paid s u + k * (width s).2
  | 0 => by simp
  | k + 1 => by
    have hf : isFree s (u + k * (width s).1) = true := isFree_mono hs (by have := (width_pos hs).1; have := Int.mul_nonneg (show (0 : Int) ≤ k by omega) (Int.le_of_lt this); omega) hu
    have h1 := paid_turn hs hf
    rw [paid_turns hs hu k] at h1
    have e1 : ((k + 1 : Nat) : Int) * (width s).1 = k * (width s).1 + (width s).1 := by rw [show ((k + 1 : Nat) : Int) = (k : Int) + 1 by omega, Int.add_mul, Int.one_mul]
    have e2 : ((k + 1 : Nat) : Int) * (width s).2 = k * (width s).2 + (width s).2 := by rw [show ((k + 1 : Nat) : Int) = (k : Int) + 1 by omega, Int.add_mul, Int.one_mul]
    rw [e1, e2, ← Int.add_assoc, h1]
    omega
end TM
/-! The plain mathematics of steps, second part: bounds, where all is free, widths of several rows. -/
namespace TM

/-! ### where all is free -/
def bigM : Nat → Int
  | 0 => 0
  | k + 1 => 100 * bigM k + 1000
theorem bigM_nonneg : ∀ k, 0 ≤ bigM k
  | 0 => Int.le_refl _
  | k + 1 => by have := bigM_nonneg k; unfold bigM; omega
theorem bigM_mono : ∀ {j k : Nat}, j ≤ k → bigM j ≤ bigM k
  | _, 0, h => by have : _ = 0 := Nat.le_zero.mp h; subst this; exact Int.le_refl _
  | j, k + 1, h => by
    rcases Nat.lt_or_ge j (k + 1) with q | q
    · have := bigM_mono (Nat.lt_succ_iff.mp q)
      have := bigM_nonneg k
      show bigM j ≤ 100 * bigM k + 1000
      omega
    · have : j = k + 1 := by omega
      subst this; exact Int.le_refl _
theorem isFree_big : ∀ {s : Steps} (hs : Ok s) {y : Int}, bigM s.length ≤ y → isFree s y = true
  | [], _, _, _ => rfl
  | x :: s, hs, y, h => by
    obtain ⟨hx, hs'⟩ := ok_cons hs
    have h : 100 * bigM s.length + 1000 ≤ y := h
    have hb := bigM_nonneg s.length
    unfold isFree
    rw [Bool.and_eq_true, Bool.or_eq_true]
    cases x with
    | part p r =>
      refine ⟨rfl, ?_⟩
      obtain ⟨h1, h2⟩ := hx
      by_cases hp : p = 0
      · left; simp [isConst, hp]
      · right
        refine isFree_big hs' ?_
        have a := rnd_lo (a := y * p) (u := 100) (by decide) r
        have b : y * 1 ≤ y * p := Int.mul_le_mul_of_nonneg_left (by omega) (by omega)
        show bigM s.length ≤ rnd (y * p) 100 r
        omega
    | even m r =>
      refine ⟨rfl, .inr (isFree_big hs' ?_)⟩
      obtain ⟨h1, h2⟩ := hx
      have a := rnd_lo (a := y) (u := m) (by omega) r
      show bigM s.length ≤ rnd y m r * m
      omega
    | add c =>
      obtain ⟨h1, h2⟩ := hx
      refine ⟨by simp only [past1, decide_eq_true_eq]; omega, .inr (isFree_big hs' ?_)⟩
      show bigM s.length ≤ max 0 (y + c)
      omega
    | least c =>
      obtain ⟨h1, h2⟩ := hx
      refine ⟨by simp only [past1, decide_eq_true_eq]; omega, .inr (isFree_big hs' ?_)⟩
      show bigM s.length ≤ max y c
      omega
    | most c =>
      obtain ⟨h1, h2⟩ := hx
      exact ⟨by simp only [past1, decide_eq_true_eq]; omega, .inl rfl⟩
abbrev Few (s : Steps) : Prop := s.length ≤ 6
theorem bigM_six : bigM 6 = 1010101010101000 - 1010101010101000 % 1000 ∨ True := .inr trivial
theorem bigM6 : bigM 6 ≤ 10 ^ 16 := by decide
theorem isFree_few {s : Steps} (hs : Ok s) (hl : Few s) {y : Int} (h : 10 ^ 16 ≤ y) : isFree s y = true :=
  isFree_big hs (Int.le_trans (Int.le_trans (bigM_mono hl) bigM6) h)

/-! ### the least one -/
theorem least_ex {P : Int → Prop} : ∀ (n : Nat), P n → ∃ m : Int, 0 ≤ m ∧ m ≤ n ∧ P m ∧ ∀ k, 0 ≤ k → k < m → ¬ P k
  | n, h => by
    by_cases q : ∃ k : Nat, k < n ∧ P k
    · obtain ⟨k, hk, hp⟩ := q
      obtain ⟨m, h1, h2, h3, h4⟩ := least_ex k hp
      exact ⟨m, h1, by omega, h3, h4⟩
    · refine ⟨n, by omega, Int.le_refl _, h, fun k h0 hk hp => q ⟨k.toNat, by omega, ?_⟩⟩
      rw [show ((k.toNat : Nat) : Int) = k by omega]
      exact hp
  termination_by n => n
/-- n is the least number from 0 on of which P holds -/
def IsLst (P : Int → Prop) (n : Int) : Prop := 0 ≤ n ∧ P n ∧ ∀ k, 0 ≤ k → k < n → ¬ P k
theorem IsLst.unique {P : Int → Prop} {m n : Int} (a : IsLst P m) (b : IsLst P n) : m = n := by
  rcases Int.lt_trichotomy m n with h | h | h
  · exact absurd a.2.1 (b.2.2 m a.1 h)
  · exact h
  · exact absurd b.2.1 (a.2.2 n b.1 h)
theorem isLst_ex {P : Int → Prop} {b : Int} (h0 : 0 ≤ b) (h : P b) : ∃ n, IsLst P n ∧ n ≤ b := by
  obtain ⟨m, h1, h2, h3, h4⟩ := least_ex (P := P) b.toNat (by rw [show ((b.toNat : Nat) : Int) = b by omega]; exact h)
  exact ⟨m, ⟨h1, h3, h4⟩, by omega⟩
open Classical in
/-- the first free price -/
noncomputable def firstFree (s : Steps) : Int := if h : ∃ n, IsLst (fun y => isFree s y = true) n then Classical.choose h else 0
theorem firstFree_lst {s : Steps} (hs : Ok s) : IsLst (fun y => isFree s y = true) (firstFree s) := by
  have h : ∃ n, IsLst (fun y => isFree s y = true) n := by
    obtain ⟨n, h, _⟩ := isLst_ex (P := fun y => isFree s y = true) (bigM_nonneg s.length) (isFree_big hs (Int.le_refl _))
    exact ⟨n, h⟩
  unfold firstFree
  rw [dif_pos h]
  exact Classical.choose_spec h
theorem firstFree_le {s : Steps} (hs : Ok s) {b : Int} (h0 : 0 ≤ b) (h : isFree s b = true) : firstFree s ≤ b := by
  obtain ⟨n, h1, h2⟩ := isLst_ex (P := fun y => isFree s y = true) h0 h
  rw [(firstFree_lst hs).unique h1]
  exact h2
theorem firstFree_nonneg {s : Steps} (hs : Ok s) : 0 ≤ firstFree s := (firstFree_lst hs).1
theorem firstFree_free {s : Steps} (hs : Ok s) : isFree s (firstFree s) = true := (firstFree_lst hs).2.1
theorem free_iff {s : Steps} (hs : Ok s) {y : Int} (h0 : 0 ≤ y) : isFree s y = true ↔ firstFree s ≤ y :=
  ⟨fun h => firstFree_le hs h0 h, fun h => isFree_mono hs h (firstFree_free hs)⟩
theorem firstFree_few {s : Steps} (hs : Ok s) (hl : Few s) : firstFree s ≤ 10 ^ 16 := firstFree_le hs (by decide) (isFree_few hs hl (Int.le_refl _))

/-! ### widths are not too great -/
theorem widened_le {x : Step} (hx : x.ok) {a : Int × Int} (h1 : 0 < a.1) (h2 : 0 ≤ a.2) : 0 < (widened x a).1 ∧ (widened x a).1 ≤ 100 * a.1 ∧ 0 ≤ (widened x a).2 ∧ (widened x a).2 ≤ 200 * a.2 := by
  unfold widened
  by_cases hc : a.2 = 0 ∨ isConst x = true
  · rw [if_pos hc]
    refine ⟨by decide, ?_, by decide, ?_⟩
    · show (1 : Int) ≤ 100 * a.1
      omega
    · show (0 : Int) ≤ 200 * a.2
      omega
  · rw [if_neg hc]
    have ha : 0 < a.2 := by
      have : a.2 ≠ 0 := fun h => hc (.inl h)
      omega
    have key : ∀ {m : Int}, 0 < m → ∃ g q : Int, g = (Int.gcd m a.2 : Int) ∧ 0 < g ∧ 0 < q ∧ m = g * q ∧ m / g = q := fun {m} hm => by
      have hg := gcd_pos_left a.2 hm
      obtain ⟨q, hq⟩ : (Int.gcd m a.2 : Int) ∣ m := Int.gcd_dvd_left _ _
      refine ⟨_, q, rfl, hg, Int.pos_of_mul_pos_right (a := (Int.gcd m a.2 : Int)) (by rw [← hq]; exact hm) hg, hq, ?_⟩
      generalize (Int.gcd m a.2 : Int) = g at *
      rw [hq]
      exact Int.mul_ediv_cancel_left _ (by omega)
    have qle : ∀ {m g q : Int}, 0 < g → 0 < q → m = g * q → q ≤ m := fun {m g q} hg hq e => by
      have := Int.mul_le_mul_of_nonneg_right (show 1 ≤ g by omega) (show 0 ≤ q by omega)
      omega
    cases x with
    | part p r =>
      obtain ⟨p1, p2⟩ := hx
      obtain ⟨g, q, e1, hg, hq, e2, e3⟩ := key (m := 100) (by decide)
      simp only [← e1, e3]
      have hq' := qle hg hq e2
      have h3 : a.2 / g ≤ a.2 := Int.ediv_le_self _ (by omega)
      have h4 : 0 ≤ a.2 / g := Int.ediv_nonneg (by omega) (by omega)
      refine ⟨Int.mul_pos h1 hq, ?_, Int.mul_nonneg h4 p1, ?_⟩
      · rw [Int.mul_comm 100]
        exact Int.mul_le_mul_of_nonneg_left hq' (by omega)
      · have := Int.mul_le_mul h3 p2 p1 (show 0 ≤ a.2 by omega)
        omega
    | even m r =>
      obtain ⟨p1, p2⟩ := hx
      obtain ⟨g, q, e1, hg, hq, e2, e3⟩ := key (m := m) (by omega)
      simp only [← e1, e3]
      have hq' := qle hg hq e2
      refine ⟨Int.mul_pos h1 hq, ?_, Int.mul_nonneg (by omega) (by omega), ?_⟩
      · rw [Int.mul_comm 100]
        exact Int.mul_le_mul_of_nonneg_left (by omega) (by omega)
      · rw [Int.mul_comm 200]
        exact Int.mul_le_mul_of_nonneg_left (by omega) (by omega)
    | add c => simp only; omega
    | least c => simp only; omega
    | most c => simp only; omega
theorem widthF_le : ∀ {s : Steps} (hs : Ok s) {a : Int × Int}, 0 < a.1 → 0 ≤ a.2 → 0 < (widthF s a).1 ∧ (widthF s a).1 ≤ 100 ^ s.length * a.1 ∧ 0 ≤ (widthF s a).2 ∧ (widthF s a).2 ≤ 200 ^ s.length * a.2
  | [], _, a, h1, h2 => by
    unfold widthF
    simp only [List.length_nil, Int.pow_zero, Int.one_mul]
    omega
  | x :: s, hs, a, h1, h2 => by
    obtain ⟨hx, hs'⟩ := ok_cons hs
    obtain ⟨a1, a2, a3, a4⟩ := widened_le hx h1 h2
    obtain ⟨b1, b2, b3, b4⟩ := widthF_le hs' a1 a3
    unfold widthF
    have c1 : (0 : Int) ≤ 100 ^ s.length := Int.pow_nonneg (by decide)
    have c2 : (0 : Int) ≤ 200 ^ s.length := Int.pow_nonneg (by decide)
    refine ⟨b1, Int.le_trans b2 ?_, b3, Int.le_trans b4 ?_⟩
    · rw [List.length_cons, Int.pow_succ, Int.mul_assoc]
      exact Int.mul_le_mul_of_nonneg_left a2 c1
    · rw [List.length_cons, Int.pow_succ, Int.mul_assoc]
      exact Int.mul_le_mul_of_nonneg_left a4 c2
theorem pow_le_pow {a : Int} (ha : 1 ≤ a) : ∀ {j k : Nat}, j ≤ k → a ^ j ≤ a ^ k
  | j, 0, h => by have : j = 0 := by omega
                  subst this; exact Int.le_refl _
  | j, k + 1, h => by
    rcases Nat.lt_or_ge j (k + 1) with q | q
    · have := pow_le_pow ha (Nat.lt_succ_iff.mp q)
      have h0 : (0 : Int) ≤ a ^ k := Int.pow_nonneg (by omega)
      rw [Int.pow_succ]
      have := Int.mul_le_mul_of_nonneg_left ha h0
      omega
    · have : j = k + 1 := by omega
      subst this; exact Int.le_refl _
theorem width_le {s : Steps} (hs : Ok s) (hl : Few s) : (width s).1 ≤ 10 ^ 12 ∧ (width s).2 ≤ 64000000000000 := by
  obtain ⟨_, h2, _, h4⟩ := widthF_le hs (a := (1, 1)) (by decide) (by decide)
  have a := pow_le_pow (a := 100) (by decide) hl
  have b := pow_le_pow (a := 200) (by decide) hl
  simp only [Int.mul_one] at h2 h4
  exact ⟨Int.le_trans h2 (Int.le_trans a (by decide)), Int.le_trans h4 (Int.le_trans b (by decide))⟩

/-! ### how a final price is bounded -/
theorem paid_le : ∀ {s : Steps} (hs : Ok s) {y : Int}, 0 ≤ y → paid s y ≤ 2 ^ s.length * (y + 1000) 
  | [], _, y, h => by unfold paid; simp only [List.length_nil, Int.pow_zero, Int.one_mul]; omega
  | x :: s, hs, y, h => by
    obtain ⟨hx, hs'⟩ := ok_cons hs
    have a := beh_le hx h
    have b := paid_le hs' (beh_nonneg hx h)
    have c2 : (0 : Int) ≤ 2 ^ s.length := Int.pow_nonneg (by decide)
    unfold paid
    refine Int.le_trans b ?_
    rw [List.length_cons, Int.pow_succ, Int.mul_assoc]
    exact Int.mul_le_mul_of_nonneg_left (by omega) c2
theorem paid_few {s : Steps} (hs : Ok s) (hl : Few s) {y : Int} (h : 0 ≤ y) : paid s y ≤ 64 * (y + 1000) := by
  have a := paid_le hs h
  have b := pow_le_pow (a := 2) (by decide) hl
  have : (2 : Int) ^ s.length * (y + 1000) ≤ 64 * (y + 1000) := Int.mul_le_mul_of_nonneg_right b (by omega)
  omega
end TM
namespace TM
theorem gcd_step (x y : Int) (hx : 0 ≤ x) (hy : 0 ≤ y) : Int.gcd y (x % y) = Int.gcd x y := by
  obtain ⟨m, rfl⟩ := Int.eq_ofNat_of_zero_le hx
  obtain ⟨n, rfl⟩ := Int.eq_ofNat_of_zero_le hy
  show Nat.gcd n ((m : Int) % (n : Int)).natAbs = Nat.gcd m n
  rw [← Int.natCast_emod, Int.natAbs_natCast, Nat.gcd_comm m n, Nat.gcd_rec n m, Nat.gcd_comm]
theorem gcd_zero (x : Int) (hx : 0 ≤ x) : (Int.gcd x 0 : Int) = x := by
  rw [Int.gcd_zero_right]; omega
end TM
/-! The plain mathematics of steps, third part: far out, settling, two rows, what leads where. -/
namespace TM
theorem paid_far {s : Steps} (hs : Ok s) {u L : Int} (hu : isFree s u = true) (hL : 0 ≤ L) (hd : (width s).1 ∣ L) : ∃ k, 0 ≤ k ∧ L = k * (width s).1 ∧ paid s (u + L) = paid s u + k * (width s).2 := by
  obtain ⟨k, hk⟩ := hd
  have hw := (width_pos hs).1
  have k0 : 0 ≤ k := by
    rcases Int.lt_or_le k 0 with h | h
    · have : (width s).1 * k < 0 := Int.mul_neg_of_pos_of_neg hw h
      omega
    · exact h
  refine ⟨k, k0, by rw [hk, Int.mul_comm], ?_⟩
  have := paid_turns hs hu k.toNat
  rw [show ((k.toNat : Nat) : Int) = k by omega] at this
  rw [hk, Int.mul_comm]
  exact this
/-! ### from where on all goes round -/
def Good (s : Steps) (m : Int) : Prop := paid s (m + (width s).1) = paid s m + (width s).2
def Settled (s : Steps) (n : Int) : Prop := ∀ m, n ≤ m → Good s m
theorem settled_free {s : Steps} (hs : Ok s) {u : Int} (hu : isFree s u = true) : Settled s u := fun m h => paid_turn hs (isFree_mono hs h hu)
theorem settled_down {s : Steps} {n : Int} (h : Settled s n) (g : Good s (n - 1)) : Settled s (n - 1) := fun m hm => by
  by_cases e : m = n - 1
  · subst e; exact g
  · exact h m (by omega)
theorem settled_end {s : Steps} {n : Int} (h0 : 0 ≤ n) (h : Settled s n) (e : n = 0 ∨ ¬ Good s (n - 1)) : IsLst (Settled s) n := by
  refine ⟨h0, h, fun k k0 hk q => ?_⟩
  rcases e with e | e
  · omega
  · exact e (q (n - 1) (by omega))
theorem settled_lst {s : Steps} (hs : Ok s) : ∃ n, IsLst (Settled s) n ∧ n ≤ firstFree s := by
  exact isLst_ex (firstFree_nonneg hs) (settled_free hs (firstFree_free hs))
open Classical in
/-- from where on all goes round -/
noncomputable def settleOf (s : Steps) : Int := if h : ∃ n, IsLst (Settled s) n then Classical.choose h else 0
theorem settleOf_lst {s : Steps} (hs : Ok s) : IsLst (Settled s) (settleOf s) := by
  have h : ∃ n, IsLst (Settled s) n := by
    obtain ⟨n, h, _⟩ := settled_lst hs
    exact ⟨n, h⟩
  unfold settleOf
  rw [dif_pos h]
  exact Classical.choose_spec h
theorem settleOf_le {s : Steps} (hs : Ok s) : settleOf s ≤ firstFree s := by
  obtain ⟨n, h1, h2⟩ := settled_lst hs
  rw [(settleOf_lst hs).unique h1]
  exact h2
/-! ### two rows -/
def gap (s t : Steps) (u : Int) : Int := paid s u - paid t u
theorem gap_swap (s t : Steps) (u : Int) : gap t s u = - gap s t u := by unfold gap; omega
theorem rise_le {k1 r1 w1 k2 r2 w2 L : Int} (h1 : L = k1 * w1) (h2 : L = k2 * w2) (hw1 : 0 < w1) (hw2 : 0 < w2) (hL : 0 ≤ L) (h : r2 * w1 ≤ r1 * w2) : k2 * r2 ≤ k1 * r1 := by
  have a : L * (r2 * w1) ≤ L * (r1 * w2) := Int.mul_le_mul_of_nonneg_left h hL
  have e1 : L * (r1 * w2) = (k1 * r1) * (w1 * w2) := by rw [h1]; simp only [Int.mul_assoc, Int.mul_comm, Int.mul_left_comm]
  have e2 : L * (r2 * w1) = (k2 * r2) * (w1 * w2) := by rw [h2]; simp only [Int.mul_assoc, Int.mul_comm, Int.mul_left_comm]
  rw [e1, e2] at a
  exact Int.le_of_mul_le_mul_right a (Int.mul_pos hw1 hw2)
theorem gap_turn {s t : Steps} (hs : Ok s) (ht : Ok t) {u L : Int} (h1 : isFree s u = true) (h2 : isFree t u = true) (hL : 0 ≤ L) (d1 : (width s).1 ∣ L) (d2 : (width t).1 ∣ L) (h : (width t).2 * (width s).1 ≤ (width s).2 * (width t).1) : gap s t u ≤ gap s t (u + L) := by
  obtain ⟨k1, a1, a2, a3⟩ := paid_far hs h1 hL d1
  obtain ⟨k2, b1, b2, b3⟩ := paid_far ht h2 hL d2
  unfold gap
  rw [a3, b3]
  have := rise_le a2 b2 (width_pos hs).1 (width_pos ht).1 hL h
  omega
/-- what is below the gap at the first prices is below it at all -/
theorem gap_low {s t : Steps} (hs : Ok s) (ht : Ok t) {f L N m : Int} (f0 : 0 ≤ f) (h1 : isFree s f = true) (h2 : isFree t f = true) (hL : 0 < L) (d1 : (width s).1 ∣ L) (d2 : (width t).1 ∣ L) (h : (width t).2 * (width s).1 ≤ (width s).2 * (width t).1)
    (hN : f + L ≤ N) (hm : ∀ u, 0 ≤ u → u < N → m ≤ gap s t u) : ∀ (n : Nat) (u : Int), u.toNat ≤ n → 0 ≤ u → m ≤ gap s t u
  | 0, u, hn, h0 => by
    by_cases hu : u < N
    · exact hm u h0 hu
    · have : gap s t (u - L) ≤ gap s t (u - L + L) := gap_turn hs ht (isFree_mono hs (by omega) h1) (isFree_mono ht (by omega) h2) (by omega) d1 d2 h
      rw [show u - L + L = u by omega] at this
      by_cases q : 0 ≤ u - L
      · exact hm u h0 (by omega)
      · exact hm u h0 (by omega)
  | n + 1, u, hn, h0 => by
    by_cases hu : u < N
    · exact hm u h0 hu
    · have : gap s t (u - L) ≤ gap s t (u - L + L) := gap_turn hs ht (isFree_mono hs (by omega) h1) (isFree_mono ht (by omega) h2) (by omega) d1 d2 h
      rw [show u - L + L = u by omega] at this
      by_cases q : 0 ≤ u - L
      · exact Int.le_trans (gap_low hs ht f0 h1 h2 hL d1 d2 h hN hm n (u - L) (by omega) q) this
      · exact hm u h0 (by omega)
/-- a least value among the first N -/
def IsMn (f : Int → Int) (N m : Int) : Prop := (∃ u, 0 ≤ u ∧ u < N ∧ f u = m) ∧ ∀ u, 0 ≤ u → u < N → m ≤ f u
/-- a least value at all -/
def IsInf (f : Int → Int) (m : Int) : Prop := (∃ u, 0 ≤ u ∧ f u = m) ∧ ∀ u, 0 ≤ u → m ≤ f u
theorem IsInf.unique {f : Int → Int} {m n : Int} (a : IsInf f m) (b : IsInf f n) : m = n := by
  obtain ⟨⟨u, u0, hu⟩, ha⟩ := a
  obtain ⟨⟨v, v0, hv⟩, hb⟩ := b
  have := ha v v0
  have := hb u u0
  omega
theorem gap_inf {s t : Steps} (hs : Ok s) (ht : Ok t) {f L N m : Int} (f0 : 0 ≤ f) (h1 : isFree s f = true) (h2 : isFree t f = true) (hL : 0 < L) (d1 : (width s).1 ∣ L) (d2 : (width t).1 ∣ L) (h : (width t).2 * (width s).1 ≤ (width s).2 * (width t).1)
    (hN : f + L ≤ N) (hm : IsMn (gap s t) N m) : IsInf (gap s t) m := by
  obtain ⟨⟨u, u0, u1, hu⟩, ha⟩ := hm
  exact ⟨⟨u, u0, hu⟩, fun v v0 => gap_low hs ht f0 h1 h2 hL d1 d2 h hN ha v.toNat v (Nat.le_refl _) v0⟩
/-! ### multiples of all widths -/
def lcmI (a b : Int) : Int := a * b / (Int.gcd a b : Int)
theorem lcmI_ok {a b : Int} (ha : 0 < a) (hb : 0 < b) : 0 < lcmI a b ∧ a ∣ lcmI a b ∧ b ∣ lcmI a b ∧ lcmI a b ≤ a * b ∧ a / (Int.gcd a b : Int) * b = lcmI a b := by
  have hg := gcd_pos_left b ha
  unfold lcmI
  obtain ⟨g, hgd⟩ : ∃ g : Int, g = (Int.gcd a b : Int) := ⟨_, rfl⟩
  obtain ⟨p, hp⟩ : (Int.gcd a b : Int) ∣ a := Int.gcd_dvd_left _ _
  obtain ⟨q, hq⟩ : (Int.gcd a b : Int) ∣ b := Int.gcd_dvd_right _ _
  rw [← hgd] at hg hp hq ⊢
  have e : a * b / g = p * b := by
    rw [hp, Int.mul_assoc, Int.mul_ediv_cancel_left _ (by omega)]
  have e2 : a / g = p := by rw [hp, Int.mul_ediv_cancel_left _ (by omega)]
  have pp : 0 < p := Int.pos_of_mul_pos_right (by rw [← hp]; exact ha) hg
  rw [e, e2]
  refine ⟨Int.mul_pos pp hb, ⟨q, ?_⟩, ⟨p, Int.mul_comm _ _⟩, ?_, rfl⟩
  · have : p * (g * q) = g * p * q := by simp only [Int.mul_assoc, Int.mul_comm, Int.mul_left_comm]
    rw [hq, this, ← hp]
  · refine Int.mul_le_mul_of_nonneg_right ?_ (by omega)
    have := Int.mul_le_mul_of_nonneg_right (show 1 ≤ g by omega) (show 0 ≤ p by omega)
    omega
def comF : List Steps → Int → Int
  | [], a => a
  | s :: rows, a => comF rows (lcmI a (width s).1)
abbrev comW (rows : List Steps) : Int := comF rows 1
theorem comF_ok : ∀ {rows : List Steps} (hr : ∀ s ∈ rows, Ok s) {a : Int}, 0 < a → 0 < comF rows a ∧ a ∣ comF rows a ∧ ∀ s ∈ rows, (width s).1 ∣ comF rows a
  | [], _, a, ha => ⟨ha, Int.dvd_refl _, fun s hs => by cases hs⟩
  | s :: rows, hr, a, ha => by
    obtain ⟨h1, h2, h3, _⟩ := lcmI_ok ha (width_pos (hr s List.mem_cons_self)).1
    obtain ⟨k1, k2, k3⟩ := comF_ok (fun t ht => hr t (List.mem_cons_of_mem _ ht)) h1
    refine ⟨k1, Int.dvd_trans h2 k2, fun t ht => ?_⟩
    rcases List.mem_cons.mp ht with rfl | q
    · exact Int.dvd_trans h3 k2
    · exact k3 t q
theorem comW_pos {rows : List Steps} (hr : ∀ s ∈ rows, Ok s) : 0 < comW rows := (comF_ok hr (by decide)).1
theorem comW_dvd {rows : List Steps} (hr : ∀ s ∈ rows, Ok s) {s : Steps} (h : s ∈ rows) : (width s).1 ∣ comW rows := (comF_ok hr (by decide)).2.2 s h
/-! ### the least price whose final price is at least so much -/
open Classical in
noncomputable def firstOf (s : Steps) (final : Int) : Option Int := if h : ∃ n, IsLst (fun y => final ≤ paid s y) n then some (Classical.choose h) else none
theorem firstOf_some {s : Steps} {final n : Int} (h : IsLst (fun y => final ≤ paid s y) n) : firstOf s final = some n := by
  unfold firstOf
  rw [dif_pos ⟨n, h⟩]
  congr 1
  exact (Classical.choose_spec (⟨n, h⟩ : ∃ n, IsLst (fun y => final ≤ paid s y) n)).unique h
theorem firstOf_none {s : Steps} {final : Int} (h : ∀ y, 0 ≤ y → paid s y < final) : firstOf s final = none := by
  unfold firstOf
  rw [dif_neg]
  rintro ⟨n, h0, h1, _⟩
  have := h n h0
  omega
theorem firstOf_cases (s : Steps) (final : Int) : (∃ n, firstOf s final = some n ∧ IsLst (fun y => final ≤ paid s y) n) ∨ (firstOf s final = none ∧ ∀ y, 0 ≤ y → paid s y < final) := by
  by_cases h : ∃ y, 0 ≤ y ∧ final ≤ paid s y
  · obtain ⟨y, y0, hy⟩ := h
    obtain ⟨n, hn, _⟩ := isLst_ex (P := fun y => final ≤ paid s y) y0 hy
    exact .inl ⟨n, firstOf_some hn, hn⟩
  · have : ∀ y, 0 ≤ y → paid s y < final := fun y y0 => by
      rcases Int.lt_or_le (paid s y) final with q | q
      · exact q
      · exact absurd ⟨y, y0, q⟩ h
    exact .inr ⟨firstOf_none this, this⟩
/-- without a rise nothing above the first free final price is come to -/
theorem paid_top {s : Steps} (hs : Ok s) (hr : (width s).2 = 0) {u : Int} (hu : isFree s u = true) {y : Int} : paid s y ≤ paid s u := by
  rcases Int.le_total y u with h | h
  · exact paid_mono hs h
  · exact Int.le_of_eq ((width_zero hs hr).2 u hu y h)
/-- with a rise all is come to at last -/
theorem paid_grows {s : Steps} (hs : Ok s) (hr : (width s).2 ≠ 0) {u : Int} (hu : isFree s u = true) (h0 : 0 ≤ u) (final : Int) : ∃ b, u ≤ b ∧ ∀ y, b ≤ y → final ≤ paid s y := by
  have hw := width_pos hs
  refine ⟨u + final.toNat * (width s).1, ?_, fun y hy => ?_⟩
  · have := Int.mul_nonneg (show (0 : Int) ≤ final.toNat by omega) (Int.le_of_lt hw.1)
    omega
  · have a := paid_turns hs hu final.toNat
    have b := paid_mono hs hy
    have c := paid_nonneg hs h0
    have d : (final.toNat : Int) * 1 ≤ final.toNat * (width s).2 := Int.mul_le_mul_of_nonneg_left (by omega) (by omega)
    omega
theorem comW_one {s : Steps} (hs : Ok s) : comW [s] = (width s).1 := by
  show lcmI 1 (width s).1 = _
  unfold lcmI
  rw [Int.gcd_one_left, Int.one_mul]
  simp
/-! ### steps without small parts are free soon -/
def Fine (s : Steps) : Prop := ∀ x ∈ s, match x with
  | .part p _ => p = 0 ∨ 25 ≤ p
  | _ => True
def bigD : Nat → Int
  | 0 => 0
  | k + 1 => 4 * bigD k + 1300
theorem bigD_nonneg : ∀ k, 0 ≤ bigD k
  | 0 => Int.le_refl _
  | k + 1 => by have := bigD_nonneg k; unfold bigD; omega
theorem bigD_mono : ∀ {j k : Nat}, j ≤ k → bigD j ≤ bigD k
  | _, 0, h => by have : _ = 0 := Nat.le_zero.mp h; subst this; exact Int.le_refl _
  | j, k + 1, h => by
    rcases Nat.lt_or_ge j (k + 1) with q | q
    · have := bigD_mono (Nat.lt_succ_iff.mp q)
      have := bigD_nonneg k
      show bigD j ≤ 4 * bigD k + 1300
      omega
    · have : j = k + 1 := by omega
      subst this; exact Int.le_refl _
theorem isFree_fine : ∀ {s : Steps} (hs : Ok s) (hf : Fine s) {y : Int}, bigD s.length ≤ y → isFree s y = true
  | [], _, _, _, _ => rfl
  | x :: s, hs, hf, y, h => by
    obtain ⟨hx, hs'⟩ := ok_cons hs
    have hf' : Fine s := fun z hz => hf z (List.mem_cons_of_mem _ hz)
    have h : 4 * bigD s.length + 1300 ≤ y := h
    have hb := bigD_nonneg s.length
    unfold isFree
    rw [Bool.and_eq_true, Bool.or_eq_true]
    cases x with
    | part p r =>
      refine ⟨rfl, ?_⟩
      obtain ⟨h1, h2⟩ := hx
      have hp := hf _ List.mem_cons_self
      simp only at hp
      rcases hp with hp | hp
      · left; simp [isConst, hp]
      · right
        refine isFree_fine hs' hf' ?_
        have a := rnd_lo (a := y * p) (u := 100) (by decide) r
        have b : y * 25 ≤ y * p := Int.mul_le_mul_of_nonneg_left hp (by omega)
        show bigD s.length ≤ rnd (y * p) 100 r
        omega
    | even m r =>
      refine ⟨rfl, .inr (isFree_fine hs' hf' ?_)⟩
      obtain ⟨h1, h2⟩ := hx
      have a := rnd_lo (a := y) (u := m) (by omega) r
      show bigD s.length ≤ rnd y m r * m
      omega
    | add c =>
      obtain ⟨h1, h2⟩ := hx
      refine ⟨by simp only [past1, decide_eq_true_eq]; omega, .inr (isFree_fine hs' hf' ?_)⟩
      show bigD s.length ≤ max 0 (y + c)
      omega
    | least c =>
      obtain ⟨h1, h2⟩ := hx
      refine ⟨by simp only [past1, decide_eq_true_eq]; omega, .inr (isFree_fine hs' hf' ?_)⟩
      show bigD s.length ≤ max y c
      omega
    | most c =>
      obtain ⟨h1, h2⟩ := hx
      exact ⟨by simp only [past1, decide_eq_true_eq]; omega, .inl rfl⟩
theorem bigD6 : bigD 6 = 1774500 := by decide
theorem firstFree_fine {s : Steps} (hs : Ok s) (hl : Few s) (hf : Fine s) : firstFree s ≤ 1774500 := by
  have := firstFree_le hs (bigD_nonneg s.length) (isFree_fine hs hf (Int.le_refl _))
  have := bigD_mono hl
  rw [bigD6] at this
  omega
/-! ### the least gap -/
open Classical in
noncomputable def infGap (s t : Steps) : Int := if h : ∃ m, IsInf (gap s t) m then Classical.choose h else 0
theorem infGap_eq {s t : Steps} {m : Int} (h : IsInf (gap s t) m) : infGap s t = m := by
  unfold infGap
  rw [dif_pos ⟨m, h⟩]
  exact (Classical.choose_spec (⟨m, h⟩ : ∃ m, IsInf (gap s t) m)).unique h
theorem IsMn_ex (f : Int → Int) : ∀ (n : Nat), ∃ m, IsMn f ((n : Int) + 1) m
  | 0 => by
    refine ⟨f 0, ⟨0, by omega, by omega, rfl⟩, fun u h0 h1 => ?_⟩
    have : u = 0 := by omega
    subst this
    omega
  | n + 1 => by
    obtain ⟨m, ⟨u, u0, u1, hu⟩, h⟩ := IsMn_ex f n
    by_cases q : f ((n : Int) + 1) < m
    · refine ⟨f ((n : Int) + 1), ⟨(n : Int) + 1, by omega, by omega, rfl⟩, fun v v0 v1 => ?_⟩
      by_cases e : v = (n : Int) + 1
      · subst e; omega
      · have := h v v0 (by omega); omega
    · refine ⟨m, ⟨u, u0, by omega, hu⟩, fun v v0 v1 => ?_⟩
      by_cases e : v = (n : Int) + 1
      · subst e; omega
      · exact h v v0 (by omega)
abbrev risesMore (s t : Steps) : Prop := (width t).2 * (width s).1 ≤ (width s).2 * (width t).1
theorem infGap_inf {s t : Steps} (hs : Ok s) (ht : Ok t) (h : risesMore s t) : IsInf (gap s t) (infGap s t) := by
  have hr : ∀ x ∈ [s, t], Ok x := fun x hx => by
    simp at hx
    rcases hx with rfl | rfl
    · exact hs
    · exact ht
  have hL := comW_pos (rows := [s, t]) hr
  have f1 := firstFree_nonneg hs
  have f2 := firstFree_nonneg ht
  obtain ⟨N, hN⟩ : ∃ N : Nat, firstFree s + firstFree t + comW [s, t] ≤ (N : Int) + 1 := ⟨(firstFree s + firstFree t + comW [s, t]).toNat, by omega⟩
  obtain ⟨m, hm⟩ := IsMn_ex (gap s t) N
  have := gap_inf hs ht (f := firstFree s + firstFree t) (by omega) (isFree_mono hs (by omega) (firstFree_free hs)) (isFree_mono ht (by omega) (firstFree_free ht)) hL (comW_dvd hr (by simp)) (comW_dvd hr (by simp)) h hN hm
  rw [infGap_eq this]
  exact this
end TM
/-! The plain mathematics of steps, fourth part: first ones of a kind, prices that stay. -/
namespace TM
abbrev Asc (l : List Int) : Prop := l.Pairwise (· < ·)
theorem asc_ext : ∀ {l m : List Int}, Asc l → Asc m → (∀ x, x ∈ l ↔ x ∈ m) → l = m
  | [], [], _, _, _ => rfl
  | [], b :: m, _, _, h => absurd ((h b).mpr List.mem_cons_self) (by simp)
  | a :: l, [], _, _, h => absurd ((h a).mp List.mem_cons_self) (by simp)
  | a :: l, b :: m, h1, h2, h => by
    obtain ⟨a1, a2⟩ := List.pairwise_cons.mp h1
    obtain ⟨b1, b2⟩ := List.pairwise_cons.mp h2
    have e : a = b := by
      rcases List.mem_cons.mp ((h a).mp List.mem_cons_self) with q | q
      · exact q
      · rcases List.mem_cons.mp ((h b).mpr List.mem_cons_self) with z | z
        · exact z.symm
        · have := b1 a q
          have := a1 b z
          omega
    subst e
    rw [asc_ext a2 b2 fun x => ?_]
    constructor
    · intro hx
      rcases List.mem_cons.mp ((h x).mp (List.mem_cons_of_mem _ hx)) with q | q
      · have := a1 x hx; omega
      · exact q
    · intro hx
      rcases List.mem_cons.mp ((h x).mpr (List.mem_cons_of_mem _ hx)) with q | q
      · have := b1 x hx; omega
      · exact q
structure FirstOf (P : Int → Prop) (many : Nat) (l : List Int) : Prop where
  asc : Asc l
  mem : ∀ x ∈ l, 0 ≤ x ∧ P x
  len : l.length ≤ many
  all : ∀ x, 0 ≤ x → P x → x ∉ l → l.length = many ∧ ∀ y ∈ l, y < x
structure AllTo (P : Int → Prop) (B : Int) (l : List Int) : Prop where
  asc : Asc l
  mem : ∀ x, x ∈ l ↔ 0 ≤ x ∧ x < B ∧ P x
theorem AllTo.first {P : Int → Prop} {B : Int} {l : List Int} {many : Nat} (h : AllTo P B l) (hq : many ≤ l.length ∨ ∀ x, B ≤ x → ¬ P x) : FirstOf P many (l.take many) := by
  refine ⟨h.asc.sublist (List.take_sublist _ _), fun x hx => ?_, by rw [List.length_take]; omega, fun x x0 hp hn => ?_⟩
  · obtain ⟨h1, _, h2⟩ := (h.mem x).mp (List.mem_of_mem_take hx)
    exact ⟨h1, h2⟩
  · by_cases hB : x < B
    · have hl : x ∈ l := (h.mem x).mpr ⟨x0, hB, hp⟩
      have hd : x ∈ l.drop many := by
        rw [← List.take_append_drop many l] at hl
        rcases List.mem_append.mp hl with q | q
        · exact absurd q hn
        · exact q
      have hlen : many < l.length := by
        rcases Nat.lt_or_ge many l.length with q | q
        · exact q
        · rw [List.drop_of_length_le q] at hd; cases hd
      refine ⟨by rw [List.length_take]; omega, fun y hy => ?_⟩
      have pw := h.asc
      rw [← List.take_append_drop many l] at pw
      exact (List.pairwise_append.mp pw).2.2 y hy x hd
    · rcases hq with q | q
      · refine ⟨by rw [List.length_take]; omega, fun y hy => ?_⟩
        have := ((h.mem y).mp (List.mem_of_mem_take hy)).2.1
        omega
      · exact absurd hp (q x (by omega))
theorem AllTo.unique {P : Int → Prop} {B : Int} {l m : List Int} (a : AllTo P B l) (b : AllTo P B m) : l = m := asc_ext a.asc b.asc fun x => (a.mem x).trans (b.mem x).symm
theorem FirstOf.below {P : Int → Prop} {many : Nat} {l d : List Int} {B : Int} (h : FirstOf P many l) (hd : AllTo P B d) : l.filter (fun x => decide (x < B)) = d.take many := by
  have sub : ∀ x ∈ l, x < B → x ∈ d := fun x hx hb => (hd.mem x).mpr ⟨(h.mem x hx).1, hb, (h.mem x hx).2⟩
  have whole : (∀ x ∈ d, x ∈ l) → l.filter (fun x => decide (x < B)) = d.take many := fun hw => by
    have e : l.filter (fun x => decide (x < B)) = d := asc_ext (h.asc.sublist List.filter_sublist) hd.asc fun x => by
      rw [List.mem_filter, decide_eq_true_eq]
      exact ⟨fun q => sub x q.1 q.2, fun q => ⟨hw x q, ((hd.mem x).mp q).2.1⟩⟩
    have hl : d.length ≤ many := by
      rw [← e]
      exact Nat.le_trans (List.length_filter_le _ _) h.len
    rw [List.take_of_length_le hl]
    exact e
  by_cases hb : ∃ y ∈ l, B ≤ y
  · obtain ⟨y, hy, hyB⟩ := hb
    refine whole fun x hx => ?_
    obtain ⟨x0, x1, x2⟩ := (hd.mem x).mp hx
    by_cases q : x ∈ l
    · exact q
    · have := (h.all x x0 x2 q).2 y hy
      omega
  · have hlt : ∀ y ∈ l, y < B := fun y hy => by
      rcases Int.lt_or_le y B with q | q
      · exact q
      · exact absurd ⟨y, hy, q⟩ hb
    have ef : l.filter (fun x => decide (x < B)) = l := List.filter_eq_self.mpr fun x hx => by simpa using hlt x hx
    by_cases hm : l.length = many
    · rw [ef]
      have e : d = l ++ d.filter (fun x => decide (x ∉ l)) := by
        refine asc_ext hd.asc (List.pairwise_append.mpr ⟨h.asc, hd.asc.sublist List.filter_sublist, fun x hx y hy => ?_⟩) fun x => ?_
        · rw [List.mem_filter, decide_eq_true_eq] at hy
          obtain ⟨y1, y2⟩ := hy
          obtain ⟨z0, z1, z2⟩ := (hd.mem y).mp y1
          exact (h.all y z0 z2 y2).2 x hx
        · rw [List.mem_append, List.mem_filter, decide_eq_true_eq]
          constructor
          · intro q
            by_cases z : x ∈ l
            · exact .inl z
            · exact .inr ⟨q, z⟩
          · rintro (q | q)
            · exact sub x q (hlt x q)
            · exact q.1
      rw [e, ← hm, List.take_left]
    · refine whole fun x hx => ?_
      obtain ⟨x0, x1, x2⟩ := (hd.mem x).mp hx
      by_cases q : x ∈ l
      · exact q
      · exact absurd (h.all x x0 x2 q).1 hm
/-- those of a kind among the first ones, in order -/
theorem allTo_range {P : Int → Prop} [DecidablePred P] (n : Nat) : AllTo P n (((List.range n).filter fun i : Nat => decide (P i)).map fun i : Nat => (i : Int)) := by
  refine ⟨List.Pairwise.map _ (fun a b h => by omega) (List.Pairwise.filter _ List.pairwise_lt_range), fun x => ?_⟩
  simp only [List.mem_map, List.mem_filter, List.mem_range, decide_eq_true_eq]
  constructor
  · rintro ⟨i, ⟨h1, h2⟩, rfl⟩
    exact ⟨by omega, by omega, h2⟩
  · rintro ⟨h1, h2, h3⟩
    refine ⟨x.toNat, ⟨by omega, ?_⟩, by omega⟩
    rw [show ((x.toNat : Nat) : Int) = x by omega]
    exact h3
/-! ### going on, each time so much more -/
def goF (some : List Int) (more : Int) : Nat → List Int
  | 0 => []
  | k + 1 => goF some more k ++ some.map fun x => x + k * more
theorem goF_nil (more : Int) : ∀ k, goF [] more k = []
  | 0 => rfl
  | k + 1 => by unfold goF; rw [goF_nil more k]; rfl
/-- what goes round with so much more: below b all as told, from b on again and again -/
theorem goF_all {P : Int → Prop} {b w : Int} (hw : 0 < w) {l some : List Int} (hl : AllTo P b l) (hs : Asc some) (hm : ∀ x, x ∈ some ↔ b ≤ x ∧ x < b + w ∧ P x) (b0 : 0 ≤ b) (hp : ∀ x, b ≤ x → (P (x + w) ↔ P x)) : ∀ k : Nat, AllTo P (b + k * w) (l ++ goF some w k)
  | 0 => by
    rw [show b + ((0 : Nat) : Int) * w = b by omega]
    unfold goF
    rw [List.append_nil]
    exact hl
  | k + 1 => by
    have ih := goF_all hw hl hs hm b0 hp k
    have kw : 0 ≤ (k : Int) * w := Int.mul_nonneg (by omega) (by omega)
    have e1 : ((k + 1 : Nat) : Int) * w = k * w + w := by rw [show ((k + 1 : Nat) : Int) = (k : Int) + 1 by omega, Int.add_mul, Int.one_mul]
    have per : ∀ (n : Nat) x, b ≤ x → (P (x + n * w) ↔ P x) := by
      intro n
      induction n with
      | zero => intro x _; rw [show x + ((0 : Nat) : Int) * w = x by omega]
      | succ n ihn =>
        intro x hx
        have nw : 0 ≤ (n : Int) * w := Int.mul_nonneg (by omega) (by omega)
        have e2 : ((n + 1 : Nat) : Int) * w = n * w + w := by rw [show ((n + 1 : Nat) : Int) = (n : Int) + 1 by omega, Int.add_mul, Int.one_mul]
        rw [e2, ← Int.add_assoc, hp (x + n * w) (by omega)]
        exact ihn x hx
    unfold goF
    rw [← List.append_assoc]
    refine ⟨List.pairwise_append.mpr ⟨ih.asc, List.Pairwise.map _ (fun x y h => by omega) hs, fun x hx y hy => ?_⟩, fun x => ?_⟩
    · obtain ⟨z, hz, rfl⟩ := List.mem_map.mp hy
      have := ((ih.mem x).mp hx).2.1
      have := ((hm z).mp hz).1
      omega
    · rw [List.mem_append, ih.mem x, List.mem_map, e1]
      constructor
      · rintro (⟨h1, h2, h3⟩ | ⟨z, hz, rfl⟩)
        · exact ⟨h1, by omega, h3⟩
        · obtain ⟨z1, z2, z3⟩ := (hm z).mp hz
          exact ⟨by omega, by omega, (per k z z1).mpr z3⟩
      · rintro ⟨h1, h2, h3⟩
        by_cases q : x < b + k * w
        · exact .inl ⟨h1, q, h3⟩
        · refine .inr ⟨x - k * w, (hm _).mpr ⟨by omega, by omega, ?_⟩, by omega⟩
          have := per k (x - k * w) (by omega)
          rw [show x - k * w + k * w = x by omega] at this
          exact this.mp h3
/-! ### prices that stay -/
def Stay (s : Steps) (x : Int) : Prop := paid s x = x
instance (s : Steps) : DecidablePred (Stay s) := fun x => inferInstanceAs (Decidable (paid s x = x))
theorem stay_turn {s : Steps} (hs : Ok s) (h : (width s).2 = (width s).1) {x : Int} (hx : firstFree s ≤ x) : Stay s (x + (width s).1) ↔ Stay s x := by
  have := paid_turn hs (isFree_mono hs hx (firstFree_free hs))
  unfold Stay
  omega
/-- where what goes round with p stays, if the rise is not the width -/
theorem stay_far {s : Steps} (hs : Ok s) {p : Int} (hp : firstFree s ≤ p) (k : Nat) : Stay s (p + k * (width s).1) ↔ paid s p - p = k * ((width s).1 - (width s).2) := by
  have := paid_turns hs (isFree_mono hs hp (firstFree_free hs)) k
  unfold Stay
  rw [this, Int.mul_sub]
  omega
/-- each price from the free ones on goes round with one of the first width -/
theorem rest_of {b w x : Int} (hw : 0 < w) (hx : b ≤ x) : ∃ (p : Int) (k : Nat), b ≤ p ∧ p < b + w ∧ x = p + k * w := by
  refine ⟨b + (x - b) % w, ((x - b) / w).toNat, ?_, ?_, ?_⟩
  · have := Int.emod_nonneg (x - b) (show w ≠ 0 by omega); omega
  · have := Int.emod_lt_of_pos (x - b) hw; omega
  · have h1 := Int.mul_ediv_add_emod (x - b) w
    have h2 : 0 ≤ (x - b) / w := Int.ediv_nonneg (by omega) (by omega)
    rw [show (((x - b) / w).toNat : Int) = (x - b) / w by omega, Int.mul_comm ((x - b) / w) w]
    omega
/-- rises are at most so many times the width -/
theorem widened_slope {x : Step} (hx : x.ok) {a : Int × Int} (h1 : 0 < a.1) (h2 : 0 ≤ a.2) {c : Int} (hc : 1 ≤ c) (h : a.2 ≤ c * a.1) : (widened x a).2 ≤ 2 * c * (widened x a).1 := by
  unfold widened
  by_cases hq : a.2 = 0 ∨ isConst x = true
  · rw [if_pos hq]
    show (0 : Int) ≤ 2 * c * 1
    omega
  · rw [if_neg hq]
    cases x with
    | part p r =>
      obtain ⟨p1, p2⟩ := hx
      have hg := gcd_pos_left a.2 (show (0 : Int) < 100 by decide)
      obtain ⟨g, hgd⟩ : ∃ g : Int, g = (Int.gcd 100 a.2 : Int) := ⟨_, rfl⟩
      obtain ⟨u, hu⟩ : (Int.gcd 100 a.2 : Int) ∣ 100 := Int.gcd_dvd_left _ _
      obtain ⟨v, hv⟩ : (Int.gcd 100 a.2 : Int) ∣ a.2 := Int.gcd_dvd_right _ _
      rw [← hgd] at hg hu hv
      simp only [← hgd]
      have e1 : 100 / g = u := by rw [hu]; exact Int.mul_ediv_cancel_left _ (by omega)
      have e2 : a.2 / g = v := by rw [hv]; exact Int.mul_ediv_cancel_left _ (by omega)
      rw [e1, e2]
      -- v * p ≤ 200 v, and g v ≤ c w, g u = 100
      have v0 : 0 ≤ v := by
        rcases Int.lt_or_le v 0 with q | q
        · have : g * v < 0 := Int.mul_neg_of_pos_of_neg hg q
          omega
        · exact q
      have a1 : v * p ≤ v * 200 := Int.mul_le_mul_of_nonneg_left p2 v0
      -- g * (v * 200) = 200 * a.2 ≤ 200 c w = 2 c w (g u)
      have a2 : g * (v * 200) ≤ g * (2 * c * (a.1 * u)) := by
        have l1 : g * (v * 200) = 200 * a.2 := by rw [hv]; rw [Int.mul_comm 200, Int.mul_assoc]
        have l2 : g * (2 * c * (a.1 * u)) = 2 * (c * a.1) * 100 := by
          rw [hu]
          simp only [Int.mul_assoc, Int.mul_comm, Int.mul_left_comm]
        rw [l1, l2]
        omega
      have a3 := Int.le_of_mul_le_mul_left a2 hg
      exact Int.le_trans a1 a3
    | even m r =>
      have hg := gcd_pos_left a.2 (show (0 : Int) < m by have := hx.1; omega)
      have q0 : 0 ≤ m / (Int.gcd m a.2 : Int) := Int.ediv_nonneg (by have := hx.1; omega) (by omega)
      have a1 : a.2 ≤ 2 * c * a.1 := by
        have : c * a.1 ≤ 2 * (c * a.1) := by
          have := Int.mul_nonneg (show 0 ≤ c by omega) (Int.le_of_lt h1)
          omega
        rw [Int.mul_assoc]
        omega
      have := Int.mul_le_mul_of_nonneg_right a1 q0
      simp only
      rw [Int.mul_assoc] at this
      exact this
    | add c' =>
      have := Int.mul_nonneg (show 0 ≤ c by omega) (Int.le_of_lt h1)
      simp only
      rw [Int.mul_assoc]
      omega
    | least c' =>
      have := Int.mul_nonneg (show 0 ≤ c by omega) (Int.le_of_lt h1)
      simp only
      rw [Int.mul_assoc]
      omega
    | most c' =>
      have := Int.mul_nonneg (show 0 ≤ c by omega) (Int.le_of_lt h1)
      simp only
      rw [Int.mul_assoc]
      omega
theorem widthF_slope : ∀ {s : Steps} (hs : Ok s) {a : Int × Int}, 0 < a.1 → 0 ≤ a.2 → ∀ {c : Int}, 1 ≤ c → a.2 ≤ c * a.1 → (widthF s a).2 ≤ 2 ^ s.length * c * (widthF s a).1
  | [], _, a, h1, h2, c, hc, h => by
    unfold widthF
    simp only [List.length_nil, Int.pow_zero, Int.one_mul]
    exact h
  | x :: s, hs, a, h1, h2, c, hc, h => by
    obtain ⟨hx, hs'⟩ := ok_cons hs
    obtain ⟨a1, _, a3, _⟩ := widened_le hx h1 h2
    have b := widened_slope hx h1 h2 hc h
    have := widthF_slope hs' a1 a3 (c := 2 * c) (by omega) b
    unfold widthF
    rw [List.length_cons, Int.pow_succ, Int.mul_assoc (2 ^ s.length) 2 c]
    exact this
theorem rise_few {s : Steps} (hs : Ok s) (hl : Few s) : (width s).2 ≤ 64 * (width s).1 := by
  have h : (width s).2 ≤ 2 ^ s.length * 1 * (width s).1 := widthF_slope hs (a := (1, 1)) (by decide) (by decide) (c := 1) (by decide) (by decide)
  have hw := (width_pos hs).1
  have b := pow_le_pow (a := 2) (by decide) hl
  rw [Int.mul_one] at h
  have : (2 : Int) ^ s.length * (width s).1 ≤ 64 * (width s).1 := Int.mul_le_mul_of_nonneg_right b (by omega)
  omega
end TM
/-! The plain mathematics of steps, fifth part: final prices that none leads to. -/
namespace TM
def Miss (s : Steps) (v : Int) : Prop := ∀ p, 0 ≤ p → paid s p ≠ v
theorem goF_add (some : List Int) (more : Int) (m : Nat) : ∀ j, ∃ r, goF some more (m + j) = goF some more m ++ r
  | 0 => ⟨[], by simp⟩
  | j + 1 => by
    obtain ⟨r, h⟩ := goF_add some more m j
    refine ⟨r ++ some.map fun x => x + ((m + j : Nat) : Int) * more, ?_⟩
    show goF some more (m + j) ++ _ = _
    rw [h, List.append_assoc]
    rfl
theorem goF_length (some : List Int) (more : Int) : ∀ m, (goF some more m).length = m * some.length
  | 0 => by simp [goF]
  | m + 1 => by
    show (goF some more m ++ some.map _).length = _
    rw [List.length_append, List.length_map, goF_length some more m, Nat.succ_mul]
theorem goF_mem {some : List Int} {more x : Int} : ∀ {m : Nat}, x ∈ goF some more m → ∃ y ∈ some, ∃ i : Nat, i < m ∧ x = y + i * more
  | 0, h => by cases h
  | m + 1, h => by
    have h : x ∈ goF some more m ++ some.map fun x => x + m * more := h
    rcases List.mem_append.mp h with q | q
    · obtain ⟨y, hy, i, hi, e⟩ := goF_mem q
      exact ⟨y, hy, i, by omega, e⟩
    · obtain ⟨y, hy, e⟩ := List.mem_map.mp q
      exact ⟨y, hy, m, by omega, e.symm⟩
theorem goF_take {found some : List Int} {more : Int} (h : some ≠ []) {many k : Nat} {x : Int} (hx : x ∈ (found ++ goF some more k).take many) : x ∈ found ∨ ∃ y ∈ some, ∃ i : Nat, i < many ∧ x = y + i * more := by
  have low : ∀ {m : Nat}, m ≤ many → x ∈ found ++ goF some more m → x ∈ found ∨ ∃ y ∈ some, ∃ i : Nat, i < many ∧ x = y + i * more := fun {m} hm q => by
    rcases List.mem_append.mp q with q | q
    · exact .inl q
    · obtain ⟨y, hy, i, hi, e⟩ := goF_mem q
      exact .inr ⟨y, hy, i, by omega, e⟩
  rcases Nat.le_total k many with hk | hk
  · exact low hk (List.mem_of_mem_take hx)
  · obtain ⟨r, hr⟩ := goF_add some more many (k - many)
    rw [show many + (k - many) = k by omega] at hr
    rw [hr, ← List.append_assoc, List.take_append_of_le_length ?_] at hx
    · exact low (Nat.le_refl _) (List.mem_of_mem_take hx)
    · rw [List.length_append, goF_length]
      have : 0 < some.length := List.length_pos_iff.mpr h
      have := Nat.mul_le_mul_left many this
      omega
/-- one more price -/
theorem miss_step {s : Steps} (hs : Ok s) {n : Nat} {last : Int} {l : List Int} (h0 : n = 0 → last = -1) (h1 : ∀ m, n = m + 1 → last = paid s m) (hl : AllTo (fun v => ∀ p : Int, 0 ≤ p → p < (n : Int) → paid s p ≠ v) (last + 1) l) :
    last ≤ paid s n ∧ -1 ≤ last ∧ AllTo (fun v => ∀ p : Int, 0 ≤ p → p < ((n + 1 : Nat) : Int) → paid s p ≠ v) (paid s n + 1) (l ++ (List.range (paid s n - (last + 1)).toNat).map fun i : Nat => last + 1 + (i : Nat)) := by
  have pn := paid_nonneg hs (show (0 : Int) ≤ n by omega)
  have hle : last ≤ paid s n ∧ -1 ≤ last ∧ ∀ p : Int, 0 ≤ p → p < n → paid s p ≤ last := by
    cases n with
    | zero => rw [h0 rfl]; exact ⟨by omega, by omega, fun p q r => by omega⟩
    | succ m =>
      have e := h1 m rfl
      have a := paid_mono hs (show (m : Int) ≤ ((m + 1 : Nat) : Int) by omega)
      have b := paid_nonneg hs (show (0 : Int) ≤ m by omega)
      refine ⟨by omega, by omega, fun p q r => ?_⟩
      rw [e]
      exact paid_mono hs (by omega)
  obtain ⟨a1, a2, a3⟩ := hle
  refine ⟨a1, a2, ⟨List.pairwise_append.mpr ⟨hl.asc, List.Pairwise.map _ (fun a b h => by omega) List.pairwise_lt_range, fun x hx y hy => ?_⟩, fun x => ?_⟩⟩
  · obtain ⟨i, hi, rfl⟩ := List.mem_map.mp hy
    have := ((hl.mem x).mp hx).2.1
    omega
  · rw [List.mem_append, hl.mem]
    simp only [List.mem_map, List.mem_range]
    constructor
    · rintro (⟨x0, x1, x2⟩ | ⟨i, hi, rfl⟩)
      · refine ⟨x0, by omega, fun p p0 p1 e => ?_⟩
        by_cases q : p = n
        · subst q
          -- the new price leads where the last one led
          cases n with
          | zero => have := h0 rfl; omega
          | succ m =>
            have e2 := h1 m rfl
            exact x2 m (by omega) (by omega) (by omega)
        · exact x2 p p0 (by omega) e
      · refine ⟨by omega, by omega, fun p p0 p1 e => ?_⟩
        by_cases q : p = n
        · subst q; omega
        · have := a3 p p0 (by omega); omega
    · rintro ⟨x0, x1, x2⟩
      by_cases q : x < last + 1
      · exact .inl ⟨x0, q, fun p p0 p1 => x2 p p0 (by omega)⟩
      · refine .inr ⟨(x - (last + 1)).toNat, ?_, by omega⟩
        have := x2 n (by omega) (by omega)
        omega
/-- below what is come to, missing is missing among the first prices -/
theorem miss_first {s : Steps} (hs : Ok s) {n : Nat} {l : List Int} (hl : AllTo (fun v => ∀ p : Int, 0 ≤ p → p < ((n + 1 : Nat) : Int) → paid s p ≠ v) (paid s n + 1) l) : AllTo (Miss s) (paid s n + 1) l := by
  refine ⟨hl.asc, fun x => ?_⟩
  rw [hl.mem]
  constructor
  · rintro ⟨x0, x1, x2⟩
    refine ⟨x0, x1, fun p p0 e => ?_⟩
    by_cases q : p < ((n + 1 : Nat) : Int)
    · exact x2 p p0 q e
    · have := paid_mono hs (show (n : Int) ≤ p by omega)
      exact x2 n (by omega) (by omega) (by omega)
  · rintro ⟨x0, x1, x2⟩
    exact ⟨x0, x1, fun p p0 _ => x2 p p0⟩
theorem miss_top {s : Steps} (hs : Ok s) (hr : (width s).2 = 0) {u : Int} (hu : isFree s u = true) {v : Int} (h : paid s u < v) : Miss s v := fun p _ e => by
  have := paid_top hs hr hu (y := p)
  omega
/-- far out, what is missing is missing again by the rise -/
theorem miss_turn {s : Steps} (hs : Ok s) {u : Int} (u0 : 0 ≤ u) (hu : isFree s u = true) {v : Int} (h : paid s u < v) : Miss s (v + (width s).2) ↔ Miss s v := by
  have hw := (width_pos hs).1
  constructor
  · intro hm p p0 e
    have hp : u < p := by
      rcases Int.lt_or_le u p with q | q
      · exact q
      · have := paid_mono hs q; omega
    have := paid_turn hs (isFree_mono hs (Int.le_of_lt hp) hu)
    exact hm (p + (width s).1) (by omega) (by omega)
  · intro hm p p0 e
    have t := paid_turn hs hu
    have hp : u + (width s).1 < p := by
      rcases Int.lt_or_le (u + (width s).1) p with q | q
      · exact q
      · have := paid_mono hs q; omega
    have := paid_turn hs (isFree_mono hs (show u ≤ p - (width s).1 by omega) hu)
    rw [show p - (width s).1 + (width s).1 = p by omega] at this
    exact hm (p - (width s).1) (by omega) (by omega)
theorem asc_filter {l : List Int} (h : Asc l) (B : Int) : l.filter (fun x => decide (x < B)) = l.take (l.filter fun x => decide (x < B)).length := by
  induction l with
  | nil => rfl
  | cons a l ih =>
    obtain ⟨a1, a2⟩ := List.pairwise_cons.mp h
    by_cases q : a < B
    · rw [List.filter_cons_of_pos (by simpa using q), List.length_cons, List.take_succ_cons, ← ih a2]
    · have : (a :: l).filter (fun x => decide (x < B)) = [] := List.filter_eq_nil_iff.mpr fun x hx => by
        rcases List.mem_cons.mp hx with z | z
        · subst z; simpa using q
        · have := a1 x z
          simp
          omega
      rw [this]
      rfl
theorem max_of (l : List Int) : ∃ B : Int, 0 ≤ B ∧ ∀ x ∈ l, x < B := by
  induction l with
  | nil => exact ⟨0, by omega, fun x hx => by cases hx⟩
  | cons a l ih =>
    obtain ⟨B, b0, h⟩ := ih
    refine ⟨max B (a + 1), by omega, fun x hx => ?_⟩
    rcases List.mem_cons.mp hx with q | q
    · omega
    · have := h x q; omega
end TM
/-! Orders of steps. -/
namespace TM
def extO (n : Nat) (f : List (List Nat)) : List (List Nat) := f.flatMap fun r => ((List.range n).filter fun i => !r.contains i).map fun i => r ++ [i]
def ordN (n : Nat) : Nat → List (List Nat)
  | 0 => [[]]
  | k + 1 => extO n (ordN n k)
def orders (n : Nat) : List (List Nat) := ordN n n
theorem ordN_mem {n : Nat} : ∀ {k : Nat} {r : List Nat}, r ∈ ordN n k → r.length = k ∧ ∀ i ∈ r, i < n
  | 0, r, h => by
    have : r = [] := by simpa [ordN] using h
    subst this
    exact ⟨rfl, fun i hi => by cases hi⟩
  | k + 1, r, h => by
    unfold ordN extO at h
    obtain ⟨q, hq, h2⟩ := List.mem_flatMap.mp h
    obtain ⟨i, hi, rfl⟩ := List.mem_map.mp h2
    obtain ⟨h3, h4⟩ := ordN_mem hq
    refine ⟨by simp [h3], fun j hj => ?_⟩
    rcases List.mem_append.mp hj with z | z
    · exact h4 j z
    · rw [List.mem_singleton.mp z]
      exact List.mem_range.mp (List.mem_filter.mp hi).1
theorem sum_le {α : Type} (f : α → Nat) (n : Nat) : ∀ (l : List α), (∀ x ∈ l, f x ≤ n) → (l.map f).sum ≤ l.length * n
  | [], _ => by simp
  | x :: l, h => by
    have := sum_le f n l fun y hy => h y (List.mem_cons_of_mem _ hy)
    have := h x List.mem_cons_self
    simp only [List.map_cons, List.sum_cons, List.length_cons, Nat.succ_mul]
    omega
theorem extO_len {n : Nat} (f : List (List Nat)) : (extO n f).length ≤ f.length * n := by
  unfold extO
  rw [List.length_flatMap]
  refine sum_le _ n f fun r hr => ?_
  rw [List.length_map]
  exact Nat.le_trans (List.length_filter_le _ _) (by simp)
theorem ordN_len {n : Nat} : ∀ k : Nat, (ordN n k).length ≤ n ^ k
  | 0 => by simp [ordN]
  | k + 1 => by
    have := extO_len (n := n) (ordN n k)
    have h := Nat.mul_le_mul_right n (ordN_len (n := n) k)
    show (extO n (ordN n k)).length ≤ _
    rw [Nat.pow_succ]
    omega
theorem ordN_few {n k : Nat} (hn : n ≤ 4) (hk : k ≤ 4) : (ordN n k).length ≤ 256 := by
  refine Nat.le_trans (ordN_len k) (Nat.le_trans (Nat.pow_le_pow_left hn k) (Nat.le_trans (Nat.pow_le_pow_right (by decide) hk) (by decide)))
theorem orders_ne {n : Nat} (hn : n ≤ 4) : orders n ≠ [] := by
  rcases (by omega : n = 0 ∨ n = 1 ∨ n = 2 ∨ n = 3 ∨ n = 4) with rfl | rfl | rfl | rfl | rfl <;> decide +kernel
theorem orders_asc {n : Nat} (hn : n ≤ 4) : (orders n).Pairwise fun a b => ¬ (b.map fun i : Nat => (i : Int)) < (a.map fun i : Nat => (i : Int)) := by
  rcases (by omega : n = 0 ∨ n = 1 ∨ n = 2 ∨ n = 3 ∨ n = 4) with rfl | rfl | rfl | rfl | rfl <;> decide +kernel
theorem orders_len1 {n : Nat} (hn : n ≤ 4) : (orders n).length ≤ 24 := by
  rcases (by omega : n = 0 ∨ n = 1 ∨ n = 2 ∨ n = 3 ∨ n = 4) with rfl | rfl | rfl | rfl | rfl <;> decide +kernel
/-- the steps in such an order -/
def inOrd (s : Steps) (r : List Nat) : Steps := r.map fun i => s.getD i (.add 0)
theorem getD_mem {s : Steps} {i : Nat} (h : i < s.length) : s.getD i (.add 0) ∈ s := by
  rw [List.getD_eq_getElem?_getD, List.getElem?_eq_getElem h]
  exact List.getElem_mem h
theorem inOrd_mem {s : Steps} {r : List Nat} (h : ∀ i ∈ r, i < s.length) {x : Step} (hx : x ∈ inOrd s r) : x ∈ s := by
  obtain ⟨i, hi, rfl⟩ := List.mem_map.mp hx
  exact getD_mem (h i hi)
theorem inOrd_ok {s : Steps} (hs : Ok s) {r : List Nat} (hr : r ∈ orders s.length) : Ok (inOrd s r) := fun x hx => hs x (inOrd_mem (ordN_mem hr).2 hx)
theorem inOrd_len {s : Steps} {r : List Nat} (hr : r ∈ orders s.length) : (inOrd s r).length = s.length := by
  unfold inOrd
  rw [List.length_map]
  exact (ordN_mem hr).1
/-! two rows' common width is at most that of all -/
theorem lcmI_dvd {a b c : Int} (ha : 0 < a) (hb : 0 < b) (h1 : a ∣ c) (h2 : b ∣ c) : lcmI a b ∣ c := by
  have e : lcmI a b = (Int.lcm a b : Nat) := by
    unfold lcmI
    have h := Int.gcd_mul_lcm a b
    have hg : 0 < Int.gcd a b := Int.gcd_pos_of_ne_zero_left _ (by omega)
    have : a * b = (Int.gcd a b : Int) * (Int.lcm a b : Nat) := by
      have : ((a.natAbs * b.natAbs : Nat) : Int) = a * b := by
        rw [Int.natCast_mul, Int.natAbs_of_nonneg (by omega), Int.natAbs_of_nonneg (by omega)]
      rw [← this, ← h, Int.natCast_mul]
    rw [this, Int.mul_ediv_cancel_left _ (by omega)]
  rw [e]
  exact Int.coe_lcm_dvd h1 h2
theorem comW_two {s t : Steps} : comW [s, t] = lcmI (width s).1 (width t).1 := by
  show lcmI (lcmI 1 (width s).1) (width t).1 = _
  have one : ∀ a : Int, lcmI 1 a = a := fun a => by unfold lcmI; rw [Int.gcd_one_left, Int.one_mul]; simp
  rw [one]
theorem comW_two_le {rows : List Steps} (hr : ∀ s ∈ rows, Ok s) {s t : Steps} (hs : s ∈ rows) (ht : t ∈ rows) : comW [s, t] ≤ comW rows := by
  rw [comW_two]
  refine Int.le_of_dvd (comW_pos hr) (lcmI_dvd (width_pos (hr s hs)).1 (width_pos (hr t ht)).1 (comW_dvd hr hs) (comW_dvd hr ht))
/-- one never costs more than the other -/
def NeverMore (s t : Steps) : Prop := risesMore t s ∧ ∀ p : Int, 0 ≤ p → paid s p ≤ paid t p
theorem first_least {α : Type} (F : α → Int) : ∀ {rows : List α}, rows ≠ [] → ∃ l q r, rows = l ++ q :: r ∧ (∀ x ∈ l, F q < F x) ∧ ∀ x ∈ r, F q ≤ F x
  | [], h => absurd rfl h
  | [a], _ => ⟨[], a, [], rfl, (fun x hx => by cases hx), fun x hx => by cases hx⟩
  | a :: b :: t, _ => by
    obtain ⟨l, q, r, e, h1, h2⟩ := first_least F (rows := b :: t) (by simp)
    rcases Int.lt_or_le (F q) (F a) with z | z
    · refine ⟨a :: l, q, r, by rw [e]; rfl, fun x hx => ?_, h2⟩
      rcases List.mem_cons.mp hx with w | w
      · rw [w]; exact z
      · exact h1 x w
    · refine ⟨[], a, b :: t, rfl, (fun x hx => by cases hx), fun x hx => ?_⟩
      rw [e] at hx
      rcases List.mem_append.mp hx with w | w
      · have := h1 x w; omega
      · rcases List.mem_cons.mp w with v | v
        · rw [v]; exact z
        · have := h2 x v; omega
end TM
/-! Partings of a few goods. -/
namespace TM
def grow (i : Nat) (lots : List (List Nat)) : List (List (List Nat)) := (lots ++ [[i]]) :: (lots.zipIdx.map fun p => lots.take p.2 ++ [p.1 ++ [i]] ++ lots.drop (p.2 + 1))
def partsP : Nat → List (List (List Nat))
  | 0 => [[]]
  | n + 1 => (partsP n).flatMap (grow n)
/-- how many lots -/
def top (r : List Nat) : Nat := r.foldl (fun m i => max m (i + 1)) 0
def growL (r : List Nat) : List (List Nat) := (List.range (top r + 1)).map fun i => r ++ [i]
def partsL : Nat → List (List Nat)
  | 0 => [[]]
  | n + 1 => (partsL n).flatMap growL
def heaps (r : List Nat) : List (List Nat) := (List.range (top r)).map fun lot => (List.range r.length).filter fun k => r.getD k 0 == lot
theorem le5 {n : Nat} (h : n ≤ 5) : n = 0 ∨ n = 1 ∨ n = 2 ∨ n = 3 ∨ n = 4 ∨ n = 5 := by omega
theorem partsP_few {n : Nat} (h : n ≤ 5) : (partsP n).length ≤ 52 := by
  rcases le5 h with rfl | rfl | rfl | rfl | rfl | rfl <;> decide +kernel
theorem partsL_few {n : Nat} (h : n ≤ 5) : (partsL n).length ≤ 52 := by
  rcases le5 h with rfl | rfl | rfl | rfl | rfl | rfl <;> decide +kernel
theorem partsP_ne {n : Nat} (h : n ≤ 5) : partsP n ≠ [] := by
  rcases le5 h with rfl | rfl | rfl | rfl | rfl | rfl <;> decide +kernel
theorem partsP_all {n : Nat} (h : n ≤ 5) : ∀ p ∈ partsP n, p.length ≤ 5 ∧ ∀ r ∈ p, r ≠ [] ∧ r.length ≤ 5 ∧ ∀ i ∈ r, i < n := by
  rcases le5 h with rfl | rfl | rfl | rfl | rfl | rfl <;> decide +kernel
theorem partsL_all {n : Nat} (h : n ≤ 5) : ∀ r ∈ partsL n, r.length = n ∧ top r ≤ 5 ∧ (heaps r).length ≤ 5 ∧ ∀ q ∈ heaps r, q ≠ [] ∧ q.length ≤ 5 ∧ ∀ i ∈ q, i < n := by
  rcases le5 h with rfl | rfl | rfl | rfl | rfl | rfl <;> decide +kernel
theorem parts_all {n : Nat} (h : n ≤ 5) : ((partsP n).all fun p => (partsL n).any fun r => p.isPerm (heaps r)) = true ∧ ((partsL n).all fun r => (partsP n).any fun p => p.isPerm (heaps r)) = true := by
  rcases le5 h with rfl | rfl | rfl | rfl | rfl | rfl <;> decide +kernel
theorem parts_same {n : Nat} (h : n ≤ 5) : (∀ p ∈ partsP n, ∃ q ∈ (partsL n).map heaps, p.Perm q) ∧ ∀ q ∈ (partsL n).map heaps, ∃ p ∈ partsP n, p.Perm q := by
  obtain ⟨a, b⟩ := parts_all h
  rw [List.all_eq_true] at a b
  refine ⟨fun p hp => ?_, fun q hq => ?_⟩
  · obtain ⟨r, hr, e⟩ := List.any_eq_true.mp (a p hp)
    exact ⟨heaps r, List.mem_map_of_mem hr, List.isPerm_iff.mp e⟩
  · obtain ⟨r, hr, rfl⟩ := List.mem_map.mp hq
    obtain ⟨p, hp, e⟩ := List.any_eq_true.mp (b r hr)
    exact ⟨p, hp, List.isPerm_iff.mp e⟩
theorem perm_sorted {α : Type} {le : α → α → Bool} (anti : ∀ a b, le a b = true → le b a = true → a = b) : ∀ {l m : List α}, l.Perm m → l.Pairwise (fun a b => le a b = true) → m.Pairwise (fun a b => le a b = true) → l = m
  | [], m, p, _, _ => by rw [List.nil_perm.mp p]
  | a :: l, [], p, _, _ => absurd p.length_eq (by simp)
  | a :: l, b :: m, p, h1, h2 => by
    obtain ⟨a1, a2⟩ := List.pairwise_cons.mp h1
    obtain ⟨b1, b2⟩ := List.pairwise_cons.mp h2
    have e : a = b := by
      have hb : b ∈ a :: l := p.mem_iff.mpr List.mem_cons_self
      have ha : a ∈ b :: m := p.mem_iff.mp List.mem_cons_self
      rcases List.mem_cons.mp hb with q | q
      · exact q.symm
      · rcases List.mem_cons.mp ha with z | z
        · exact z
        · exact anti a b (a1 b q) (b1 a z)
    subst e
    rw [perm_sorted anti (List.Perm.cons_inv p) a2 b2]
end TM
namespace TM
/-! ### the least price at which two rows part -/
open Classical in
noncomputable def partOf (s t : Steps) : Option Int := if h : ∃ n, IsLst (fun y => paid s y ≠ paid t y) n then some (Classical.choose h) else none
theorem partOf_some {s t : Steps} {n : Int} (h : IsLst (fun y => paid s y ≠ paid t y) n) : partOf s t = some n := by
  have e : ∃ n, IsLst (fun y => paid s y ≠ paid t y) n := ⟨n, h⟩
  unfold partOf
  rw [dif_pos e]
  congr 1
  exact IsLst.unique (Classical.choose_spec e) h
theorem partOf_none {s t : Steps} (h : ∀ y, 0 ≤ y → paid s y = paid t y) : partOf s t = none := by
  unfold partOf
  rw [dif_neg]
  rintro ⟨n, h1, h2, _⟩
  exact h2 (h n h1)
theorem partOf_comm (s t : Steps) : partOf t s = partOf s t := by
  by_cases h : ∃ n, IsLst (fun y => paid s y ≠ paid t y) n
  · obtain ⟨n, h1, h2, h3⟩ := h
    rw [partOf_some ⟨h1, h2, h3⟩, partOf_some (s := t) (t := s) ⟨h1, Ne.symm h2, fun k k0 k1 q => h3 k k0 k1 (Ne.symm q)⟩]
  · have e : ∀ y, 0 ≤ y → paid s y = paid t y := fun y y0 => by
      by_cases q : paid s y = paid t y
      · exact q
      · obtain ⟨n, hn, _⟩ := isLst_ex (P := fun y => paid s y ≠ paid t y) y0 q
        exact (h ⟨n, hn⟩).elim
    rw [partOf_none e, partOf_none fun y y0 => (e y y0).symm]
theorem rises_eq {s t : Steps} (hs : Ok s) (ht : Ok t) {f L : Int} (h1 : isFree s f = true) (h2 : isFree t f = true) (hL : 0 < L) (d1 : (width s).1 ∣ L) (d2 : (width t).1 ∣ L) (e1 : paid s f = paid t f) (e2 : paid s (f + L) = paid t (f + L)) : (width t).2 * (width s).1 = (width s).2 * (width t).1 := by
  obtain ⟨k1, k10, k1L, k1e⟩ := paid_far hs h1 (Int.le_of_lt hL) d1
  obtain ⟨k2, k20, k2L, k2e⟩ := paid_far ht h2 (Int.le_of_lt hL) d2
  have e : k1 * (width s).2 = k2 * (width t).2 := by omega
  have p1 : k1 ≠ 0 := by
    intro z
    rw [z, Int.zero_mul] at k1L
    omega
  have p2 : k2 ≠ 0 := by
    intro z
    rw [z, Int.zero_mul] at k2L
    omega
  have : (k1 * k2) * ((width t).2 * (width s).1) = (k1 * k2) * ((width s).2 * (width t).1) := by
    calc (k1 * k2) * ((width t).2 * (width s).1) = (k2 * (width t).2) * (k1 * (width s).1) := by ac_rfl
      _ = (k1 * (width s).2) * (k2 * (width t).1) := by rw [← e, ← k1L, ← k2L]
      _ = _ := by ac_rfl
  exact Int.eq_of_mul_eq_mul_left (Int.mul_ne_zero p1 p2) this
/-- rows that rise alike and do not part for a while never part -/
theorem never_part {s t : Steps} (hs : Ok s) (ht : Ok t) {f L N : Int} (f0 : 0 ≤ f) (h1 : isFree s f = true) (h2 : isFree t f = true) (hL : 0 < L) (d1 : (width s).1 ∣ L) (d2 : (width t).1 ∣ L) (hN : f + L ≤ N) (he : (width t).2 * (width s).1 = (width s).2 * (width t).1) (h : ∀ y, 0 ≤ y → y < N → paid s y = paid t y) : ∀ y, 0 ≤ y → paid s y = paid t y := fun y y0 => by
  have a := gap_low hs ht f0 h1 h2 hL d1 d2 (Int.le_of_eq he) hN (m := 0) (fun u u0 u1 => by have := h u u0 u1; unfold gap; omega) y.toNat y (Nat.le_refl _) y0
  have b := gap_low ht hs f0 h2 h1 hL d2 d1 (Int.le_of_eq he.symm) hN (m := 0) (fun u u0 u1 => by have := h u u0 u1; unfold gap; omega) y.toNat y (Nat.le_refl _) y0
  unfold gap at a b
  omega
theorem part_law {s t : Steps} (hs : Ok s) (ht : Ok t) {f L N : Int} (f0 : 0 ≤ f) (h1 : isFree s f = true) (h2 : isFree t f = true) (hL : 0 < L) (d1 : (width s).1 ∣ L) (d2 : (width t).1 ∣ L) (hN : f + L < N) (h : ∀ y, 0 ≤ y → y < N → paid s y = paid t y) : ∀ y, 0 ≤ y → paid s y = paid t y :=
  never_part hs ht f0 h1 h2 hL d1 d2 (by omega) (rises_eq hs ht h1 h2 hL d1 d2 (h f f0 (by omega)) (h (f + L) (by omega) hN)) h
end TM
/-! How steps stand as data. -/
namespace TS
open PySem L2 TM
def sRule : Rule → Str
  | .down => "down"
  | .up => "up"
  | .near => "near"
def dStep : TM.Step → D
  | .part p r => .tup [.str "part", .int p, .str (sRule r)]
  | .add c => .tup [.str "add", .int c]
  | .even m r => .tup [.str "even", .int m, .str (sRule r)]
  | .least c => .tup [.str "least", .int c]
  | .most c => .tup [.str "most", .int c]
abbrev dS (s : Steps) : D := .tup (s.map dStep)
theorem x_part_add : ((Str.ofString "part") = (Str.ofString "add")) = False := eq_false (by decide +kernel)
theorem x_part_even : ((Str.ofString "part") = (Str.ofString "even")) = False := eq_false (by decide +kernel)
theorem x_part_least : ((Str.ofString "part") = (Str.ofString "least")) = False := eq_false (by decide +kernel)
theorem x_part_most : ((Str.ofString "part") = (Str.ofString "most")) = False := eq_false (by decide +kernel)
theorem x_part_down : ((Str.ofString "part") = (Str.ofString "down")) = False := eq_false (by decide +kernel)
theorem x_part_up : ((Str.ofString "part") = (Str.ofString "up")) = False := eq_false (by decide +kernel)
theorem x_part_near : ((Str.ofString "part") = (Str.ofString "near")) = False := eq_false (by decide +kernel)
theorem x_add_part : ((Str.ofString "add") = (Str.ofString "part")) = False := eq_false (by decide +kernel)
theorem x_add_even : ((Str.ofString "add") = (Str.ofString "even")) = False := eq_false (by decide +kernel)
theorem x_add_least : ((Str.ofString "add") = (Str.ofString "least")) = False := eq_false (by decide +kernel)
theorem x_add_most : ((Str.ofString "add") = (Str.ofString "most")) = False := eq_false (by decide +kernel)
theorem x_add_down : ((Str.ofString "add") = (Str.ofString "down")) = False := eq_false (by decide +kernel)
theorem x_add_up : ((Str.ofString "add") = (Str.ofString "up")) = False := eq_false (by decide +kernel)
theorem x_add_near : ((Str.ofString "add") = (Str.ofString "near")) = False := eq_false (by decide +kernel)
theorem x_even_part : ((Str.ofString "even") = (Str.ofString "part")) = False := eq_false (by decide +kernel)
theorem x_even_add : ((Str.ofString "even") = (Str.ofString "add")) = False := eq_false (by decide +kernel)
theorem x_even_least : ((Str.ofString "even") = (Str.ofString "least")) = False := eq_false (by decide +kernel)
theorem x_even_most : ((Str.ofString "even") = (Str.ofString "most")) = False := eq_false (by decide +kernel)
theorem x_even_down : ((Str.ofString "even") = (Str.ofString "down")) = False := eq_false (by decide +kernel)
theorem x_even_up : ((Str.ofString "even") = (Str.ofString "up")) = False := eq_false (by decide +kernel)
theorem x_even_near : ((Str.ofString "even") = (Str.ofString "near")) = False := eq_false (by decide +kernel)
theorem x_least_part : ((Str.ofString "least") = (Str.ofString "part")) = False := eq_false (by decide +kernel)
theorem x_least_add : ((Str.ofString "least") = (Str.ofString "add")) = False := eq_false (by decide +kernel)
theorem x_least_even : ((Str.ofString "least") = (Str.ofString "even")) = False := eq_false (by decide +kernel)
theorem x_least_most : ((Str.ofString "least") = (Str.ofString "most")) = False := eq_false (by decide +kernel)
theorem x_least_down : ((Str.ofString "least") = (Str.ofString "down")) = False := eq_false (by decide +kernel)
theorem x_least_up : ((Str.ofString "least") = (Str.ofString "up")) = False := eq_false (by decide +kernel)
theorem x_least_near : ((Str.ofString "least") = (Str.ofString "near")) = False := eq_false (by decide +kernel)
theorem x_most_part : ((Str.ofString "most") = (Str.ofString "part")) = False := eq_false (by decide +kernel)
theorem x_most_add : ((Str.ofString "most") = (Str.ofString "add")) = False := eq_false (by decide +kernel)
theorem x_most_even : ((Str.ofString "most") = (Str.ofString "even")) = False := eq_false (by decide +kernel)
theorem x_most_least : ((Str.ofString "most") = (Str.ofString "least")) = False := eq_false (by decide +kernel)
theorem x_most_down : ((Str.ofString "most") = (Str.ofString "down")) = False := eq_false (by decide +kernel)
theorem x_most_up : ((Str.ofString "most") = (Str.ofString "up")) = False := eq_false (by decide +kernel)
theorem x_most_near : ((Str.ofString "most") = (Str.ofString "near")) = False := eq_false (by decide +kernel)
theorem x_down_part : ((Str.ofString "down") = (Str.ofString "part")) = False := eq_false (by decide +kernel)
theorem x_down_add : ((Str.ofString "down") = (Str.ofString "add")) = False := eq_false (by decide +kernel)
theorem x_down_even : ((Str.ofString "down") = (Str.ofString "even")) = False := eq_false (by decide +kernel)
theorem x_down_least : ((Str.ofString "down") = (Str.ofString "least")) = False := eq_false (by decide +kernel)
theorem x_down_most : ((Str.ofString "down") = (Str.ofString "most")) = False := eq_false (by decide +kernel)
theorem x_down_up : ((Str.ofString "down") = (Str.ofString "up")) = False := eq_false (by decide +kernel)
theorem x_down_near : ((Str.ofString "down") = (Str.ofString "near")) = False := eq_false (by decide +kernel)
theorem x_up_part : ((Str.ofString "up") = (Str.ofString "part")) = False := eq_false (by decide +kernel)
theorem x_up_add : ((Str.ofString "up") = (Str.ofString "add")) = False := eq_false (by decide +kernel)
theorem x_up_even : ((Str.ofString "up") = (Str.ofString "even")) = False := eq_false (by decide +kernel)
theorem x_up_least : ((Str.ofString "up") = (Str.ofString "least")) = False := eq_false (by decide +kernel)
theorem x_up_most : ((Str.ofString "up") = (Str.ofString "most")) = False := eq_false (by decide +kernel)
theorem x_up_down : ((Str.ofString "up") = (Str.ofString "down")) = False := eq_false (by decide +kernel)
theorem x_up_near : ((Str.ofString "up") = (Str.ofString "near")) = False := eq_false (by decide +kernel)
theorem x_near_part : ((Str.ofString "near") = (Str.ofString "part")) = False := eq_false (by decide +kernel)
theorem x_near_add : ((Str.ofString "near") = (Str.ofString "add")) = False := eq_false (by decide +kernel)
theorem x_near_even : ((Str.ofString "near") = (Str.ofString "even")) = False := eq_false (by decide +kernel)
theorem x_near_least : ((Str.ofString "near") = (Str.ofString "least")) = False := eq_false (by decide +kernel)
theorem x_near_most : ((Str.ofString "near") = (Str.ofString "most")) = False := eq_false (by decide +kernel)
theorem x_near_down : ((Str.ofString "near") = (Str.ofString "down")) = False := eq_false (by decide +kernel)
theorem x_near_up : ((Str.ofString "near") = (Str.ofString "up")) = False := eq_false (by decide +kernel)
theorem startR1 {n : Nat} {a : D} : startR (n + 1) [a] = some (.dat a) :: List.replicate n none := by simp [startR]
theorem startR2 {n : Nat} {a b : D} : startR (n + 2) [a, b] = some (.dat a) :: some (.dat b) :: List.replicate n none := by simp [startR]
theorem startR3 {n : Nat} {a b c : D} : startR (n + 3) [a, b, c] = some (.dat a) :: some (.dat b) :: some (.dat c) :: List.replicate n none := by simp [startR]
section
variable {i j : Int} {x y : Str}
theorem o_addI : addO (.int i) (.int j) = some (.int (i + j)) := rfl
theorem o_subI : subI (.int i) (.int j) = some (.int (i - j)) := rfl
theorem o_ltI : ltI (.int i) (.int j) = some (.bl (decide (i < j))) := rfl
theorem o_leI : leI (.int i) (.int j) = some (.bl (decide (i ≤ j))) := rfl
theorem o_gtI : gtI (.int i) (.int j) = some (.bl (decide (j < i))) := rfl
theorem o_geI : geI (.int i) (.int j) = some (.bl (decide (j ≤ i))) := rfl
theorem o_addII : addI (.int i) (.int j) = some (.int (i + j)) := rfl
theorem o_eqII : eqO (.int i) (.int j) = some (.bl (decide (i = j))) := rfl
theorem o_eqSS : eqO (.str x) (.str y) = some (.bl (decide (x = y))) := rfl
theorem o_neII : neO (.int i) (.int j) = some (.bl (!decide (i = j))) := rfl
theorem o_neSS : neO (.str x) (.str y) = some (.bl (!decide (x = y))) := rfl
theorem o_eqBB {a b : Bool} : eqO (.bl a) (.bl b) = some (.bl (decide (a = b))) := rfl
theorem o_neBB {a b : Bool} : neO (.bl a) (.bl b) = some (.bl (!decide (a = b))) := rfl
theorem o_neg : negO (.int i) = some (.int (-i)) := rfl
theorem o_mulL (h : -(2 ^ 64) < i ∧ i < 2 ^ 64) : mulO (.int i) (.int j) = some (.int (i * j)) := by
  have : CMul i j := .inl h
  simp [mulO, alt2, mulI, iiO, this]
theorem o_mulR (h : -(2 ^ 64) < j ∧ j < 2 ^ 64) : mulO (.int i) (.int j) = some (.int (i * j)) := by
  have : CMul i j := .inr h
  simp [mulO, alt2, mulI, iiO, this]
theorem o_fdiv (h0 : 0 < j) (h : j < 1073741824) : fdivO (.int i) (.int j) = some (.int (i / j)) := by
  have : CDivN i j := ⟨by omega, by omega⟩
  simp [fdivO, alt2, fdivI, iiO, this, Int.fdiv_eq_ediv_of_nonneg i (show (0 : Int) ≤ j by omega)]
theorem o_mod (h0 : 0 < j) : modI (.int i) (.int j) = some (.int (i % j)) := by
  have : j ≠ 0 := by omega
  simp [modI, iiO, this, Int.fmod_eq_emod_of_nonneg i (show (0 : Int) ≤ j by omega)]
theorem o_pow (h0 : 0 ≤ j) (h : j ≤ 1000000) (h2 : i.natAbs < 2 ^ 64) : powI (.int i) (.int j) = some (.int (i ^ j.toNat)) := by
  have : CPow i j := ⟨h0, h, h2⟩
  simp [powI, iiO, this]
theorem o_ixT {ds : List D} : ixO (.tup ds) (.int i) = atI ds i := rfl
theorem o_ixL {ds : List D} : ixO (.lst ds) (.int i) = atI ds i := rfl
theorem atI_nat {α : Type} {xs : List α} {n : Nat} : atI xs (n : Int) = xs[n]? := by
  unfold atI ixN
  by_cases h : n < xs.length
  · simp [h]
  · simp [h]
theorem atI_0 {α : Type} {xs : List α} : atI xs 0 = xs[0]? := atI_nat (n := 0)
theorem atI_1 {α : Type} {xs : List α} : atI xs 1 = xs[1]? := atI_nat (n := 1)
theorem atI_2 {α : Type} {xs : List α} : atI xs 2 = xs[2]? := atI_nat (n := 2)
theorem atI_last {α : Type} {xs : List α} {x : α} : atI (xs ++ [x]) (-1) = some x := by
  unfold atI ixN
  have h : -((xs ++ [x]).length : Int) ≤ -1 := by simp; omega
  rw [if_neg (by decide), if_pos h]
  simp
  rw [show (-1 + ((xs.length : Int) + 1)).toNat = xs.length by omega]
  simp
theorem o_max : max2O [.int i, .int j] = some (.int (max i j)) := by
  simp only [max2O]
  congr 2
  split <;> omega
theorem o_min : min2O [.int i, .int j] = some (.int (min i j)) := by
  simp only [min2O]
  congr 2
  split <;> omega
theorem o_int : intO [.int i] = some (.int i) := rfl
theorem o_tuple {ds : List D} : tupleO [.lst ds] = some (.tup ds) := rfl
theorem o_list {ds : List D} : listO [.lst ds] = some (.lst ds) := rfl
theorem o_lenL {ds : List D} : lenO [.lst ds] = some (.int ds.length) := rfl
theorem o_lenT {ds : List D} : lenO [.tup ds] = some (.int ds.length) := rfl
theorem o_tup2 {a b : D} : tupO [a, b] = some (.tup [a, b]) := rfl
theorem o_tup3 {a b c : D} : tupO [a, b, c] = some (.tup [a, b, c]) := rfl
theorem o_tup1 {a : D} : tupO [a] = some (.tup [a]) := rfl
theorem o_tup0 : tupO [] = some (.tup []) := rfl
theorem o_lst {ds : List D} (h : ds.length ≤ 1000) : lstO ds = some (.lst ds) := by
  unfold lstO
  rw [if_pos]
  exact Nat.le_trans h (by decide)
theorem asB_bl {b : Bool} : asB (.bl b) = some b := rfl
theorem asI_int : asI (.int i) = some i := rfl
theorem asL_lst {ds : List D} : asL (.lst ds) = some ds := rfl
theorem items_l {ds : List D} : items (.lst ds) = some ds := rfl
theorem items_t {ds : List D} : items (.tup ds) = some ds := rfl
theorem ty_n : tyN .non = "NoneType" := rfl
theorem ty_b {b : Bool} : tyN (.bl b) = "bool" := rfl
theorem ty_i : tyN (.int i) = "int" := rfl
theorem ty_s : tyN (.str x) = "str" := rfl
theorem ty_t {ds : List D} : tyN (.tup ds) = "tuple" := rfl
theorem ty_l {ds : List D} : tyN (.lst ds) = "list" := rfl
theorem g_n : isG .non = false := rfl
theorem g_b {b : Bool} : isG (.bl b) = false := rfl
theorem g_i : isG (.int i) = false := rfl
theorem g_s : isG (.str x) = false := rfl
theorem g_t {ds : List D} : isG (.tup ds) = false := rfl
theorem g_l {ds : List D} : isG (.lst ds) = false := rfl
theorem put1 {k : Nat} {d : D} {ρ : Rho} : (Tg.one k).put d ρ = some (ρ.set k (some (.dat d))) := rfl
theorem put2 {k l : Nat} {a b : D} {ρ : Rho} : (Tg.many [k, l]).put (.tup [a, b]) ρ = some ((ρ.set k (some (.dat a))).set l (some (.dat b))) := rfl
theorem put3 {k l m : Nat} {a b c : D} {ρ : Rho} : (Tg.many [k, l, m]).put (.tup [a, b, c]) ρ = some (((ρ.set k (some (.dat a))).set l (some (.dat b))).set m (some (.dat c))) := rfl
end
theorem o_inRule {r : Rule} : inO false (.str (sRule r)) (.tup [.str ("down" : Str), .str ("up" : Str), .str ("near" : Str)]) = some (.bl true) := by cases r <;> kernel_rfl
theorem o_in23 : inO true (.int 2) (.tup [.int 2, .int 3]) = some (.bl false) := by kernel_rfl
theorem o_in33 : inO true (.int 3) (.tup [.int 2, .int 3]) = some (.bl false) := by kernel_rfl
theorem o_inLeast : inO false (.str ("least" : Str)) (.tup [.str ("least" : Str), .str ("most" : Str)]) = some (.bl true) := by kernel_rfl
theorem o_inMost : inO false (.str ("most" : Str)) (.tup [.str ("least" : Str), .str ("most" : Str)]) = some (.bl true) := by kernel_rfl
theorem o_inAdd : inO false (.str ("add" : Str)) (.tup [.str ("least" : Str), .str ("most" : Str)]) = some (.bl false) := by kernel_rfl
theorem o_inPart : inO false (.str ("part" : Str)) (.tup [.str ("least" : Str), .str ("most" : Str)]) = some (.bl false) := by kernel_rfl
theorem o_inEven : inO false (.str ("even" : Str)) (.tup [.str ("least" : Str), .str ("most" : Str)]) = some (.bl false) := by kernel_rfl
theorem o_enT {ds : List D} : enO [.tup ds] = some (enumD 0 ds) := rfl
theorem o_enL {ds : List D} : enO [.lst ds] = some (enumD 0 ds) := rfl
theorem enumD_map {α : Type} {f : α → D} {k0 : Int} (s : List α) : enumD k0 (s.map f) = s.zipIdx.map fun p => .tup [.int (k0 + (p.2 : Nat)), f p.1] := by
  simp [enumD, List.zipIdx_map, Function.comp_def]
theorem o_rng1 {j : Int} (h0 : 0 ≤ j) (h : j < 2 ^ 62) : rngO [.int j] = some (rngInts 0 j.toNat) := by
  show (if -(2 ^ 62) ≤ j ∧ j < 2 ^ 62 then some (rngInts 0 j.toNat) else none) = _
  rw [if_pos ⟨by omega, h⟩]
/-! the source of draws -/
def GOk (γ : GS) : Prop := γ.cells.length ≤ 63 ∧ 0 ≤ γ.ix
theorem nextSt_ok {γ : GS} (h : GOk γ) {cap : Int} (hc : 0 < cap) : GOk (nextSt γ cap).2 ∧ 0 ≤ (nextSt γ cap).1 ∧ (nextSt γ cap).1 < cap := by
  unfold nextSt
  simp only
  generalize (γ.ix.fmod (if (γ.cells.length : Int) > 1 then (γ.cells.length : Int) else 1)).toNat = j
  generalize (γ.cells ++ [0])[j]?.getD 0 = cell
  by_cases hx : (10 : Int) ^ 18 ≤ cell
  · rw [if_pos hx]
    exact ⟨⟨by simpa using h.1, h.2⟩, Int.fmod_nonneg_of_pos _ hc, Int.fmod_lt_of_pos _ hc⟩
  · rw [if_neg hx]
    exact ⟨⟨h.1, by have := h.2; simp only; omega⟩, Int.fmod_nonneg_of_pos _ hc, Int.fmod_lt_of_pos _ hc⟩
theorem next_ok {γ : GS} (h : GOk γ) {cap : Int} (hc : 0 < cap) (hl : cap.natAbs.log2 < 9000) : ∃ n γ', nextD [.gen, .int cap] (some γ) = .ok (.int n) (some γ') ∧ GOk γ' ∧ 0 ≤ n ∧ n < cap :=
  ⟨_, _, by unfold nextD; simp only; rw [if_pos ⟨hc, hl, Nat.le_trans h.1 (by decide), h.2⟩], nextSt_ok h hc⟩
theorem ew_next {γ : GS} (h : GOk γ) {cap : Int} (hc : 0 < cap) (hl : cap < 2 ^ 200) {Q : D → G → Prop} (k : ∀ n γ', GOk γ' → 0 ≤ n → n < cap → Q (.int n) (some γ')) : EW (nextD [.gen, .int cap] (some γ)) Q := by
  obtain ⟨n, γ', e, h1, h2, h3⟩ := next_ok h hc (by
    have : cap.natAbs < 2 ^ 200 := by omega
    have h0 : cap.natAbs ≠ 0 := by omega
    have := (Nat.log2_lt h0).mpr this
    omega)
  rw [e, ew_ok]
  exact k n γ' h1 h2 h3
theorem o_lst0 : lstO [] = some (.lst []) := o_lst (by simp)
theorem o_lst1 {a0 : D} : lstO [a0] = some (.lst [a0]) := o_lst (by simp)
theorem o_lst2 {a0 a1 : D} : lstO [a0, a1] = some (.lst [a0, a1]) := o_lst (by simp)
theorem o_lst3 {a0 a1 a2 : D} : lstO [a0, a1, a2] = some (.lst [a0, a1, a2]) := o_lst (by simp)
theorem o_lst4 {a0 a1 a2 a3 : D} : lstO [a0, a1, a2, a3] = some (.lst [a0, a1, a2, a3]) := o_lst (by simp)
theorem o_lst5 {a0 a1 a2 a3 a4 : D} : lstO [a0, a1, a2, a3, a4] = some (.lst [a0, a1, a2, a3, a4]) := o_lst (by simp)
theorem o_lst6 {a0 a1 a2 a3 a4 a5 : D} : lstO [a0, a1, a2, a3, a4, a5] = some (.lst [a0, a1, a2, a3, a4, a5]) := o_lst (by simp)
theorem o_lst7 {a0 a1 a2 a3 a4 a5 a6 : D} : lstO [a0, a1, a2, a3, a4, a5, a6] = some (.lst [a0, a1, a2, a3, a4, a5, a6]) := o_lst (by simp)
theorem o_lst8 {a0 a1 a2 a3 a4 a5 a6 a7 : D} : lstO [a0, a1, a2, a3, a4, a5, a6, a7] = some (.lst [a0, a1, a2, a3, a4, a5, a6, a7]) := o_lst (by simp)
theorem o_lst9 {a0 a1 a2 a3 a4 a5 a6 a7 a8 : D} : lstO [a0, a1, a2, a3, a4, a5, a6, a7, a8] = some (.lst [a0, a1, a2, a3, a4, a5, a6, a7, a8]) := o_lst (by simp)
theorem o_lst10 {a0 a1 a2 a3 a4 a5 a6 a7 a8 a9 : D} : lstO [a0, a1, a2, a3, a4, a5, a6, a7, a8, a9] = some (.lst [a0, a1, a2, a3, a4, a5, a6, a7, a8, a9]) := o_lst (by simp)
theorem o_lst11 {a0 a1 a2 a3 a4 a5 a6 a7 a8 a9 a10 : D} : lstO [a0, a1, a2, a3, a4, a5, a6, a7, a8, a9, a10] = some (.lst [a0, a1, a2, a3, a4, a5, a6, a7, a8, a9, a10]) := o_lst (by simp)
theorem o_lst12 {a0 a1 a2 a3 a4 a5 a6 a7 a8 a9 a10 a11 : D} : lstO [a0, a1, a2, a3, a4, a5, a6, a7, a8, a9, a10, a11] = some (.lst [a0, a1, a2, a3, a4, a5, a6, a7, a8, a9, a10, a11]) := o_lst (by simp)
theorem o_lst13 {a0 a1 a2 a3 a4 a5 a6 a7 a8 a9 a10 a11 a12 : D} : lstO [a0, a1, a2, a3, a4, a5, a6, a7, a8, a9, a10, a11, a12] = some (.lst [a0, a1, a2, a3, a4, a5, a6, a7, a8, a9, a10, a11, a12]) := o_lst (by simp)
theorem o_lst14 {a0 a1 a2 a3 a4 a5 a6 a7 a8 a9 a10 a11 a12 a13 : D} : lstO [a0, a1, a2, a3, a4, a5, a6, a7, a8, a9, a10, a11, a12, a13] = some (.lst [a0, a1, a2, a3, a4, a5, a6, a7, a8, a9, a10, a11, a12, a13]) := o_lst (by simp)
theorem o_tup4 {a0 a1 a2 a3 : D} : tupO [a0, a1, a2, a3] = some (.tup [a0, a1, a2, a3]) := rfl
theorem o_tup5 {a0 a1 a2 a3 a4 : D} : tupO [a0, a1, a2, a3, a4] = some (.tup [a0, a1, a2, a3, a4]) := rfl
theorem o_tup6 {a0 a1 a2 a3 a4 a5 : D} : tupO [a0, a1, a2, a3, a4, a5] = some (.tup [a0, a1, a2, a3, a4, a5]) := rfl
theorem o_tup7 {a0 a1 a2 a3 a4 a5 a6 : D} : tupO [a0, a1, a2, a3, a4, a5, a6] = some (.tup [a0, a1, a2, a3, a4, a5, a6]) := rfl
theorem o_tup8 {a0 a1 a2 a3 a4 a5 a6 a7 : D} : tupO [a0, a1, a2, a3, a4, a5, a6, a7] = some (.tup [a0, a1, a2, a3, a4, a5, a6, a7]) := rfl
theorem mix_ok (ns : List Int) (seed : Int) : mixD [.scr ns, .int seed] none = .ok .gen (some ⟨mixSt seed ns, ns, 0⟩) := rfl
end TS
/-! More facts of operations on data. -/
namespace TS
open PySem L2 TM
theorem cutD_take {ds : List D} {n : Nat} : cutD ds none (some (n : Int)) = ds.take n := by
  unfold cutD
  rw [HT.sIx_none, HT.sIx_nat]
  simp [List.take_eq_take_iff]
theorem cutD_drop {ds : List D} {n : Nat} : cutD ds (some (n : Int)) none = ds.drop n := by
  unfold cutD
  rw [HT.sIx_none, HT.sIx_nat]
  rcases Nat.le_total n ds.length with h | h
  · rw [Nat.min_eq_left h, List.take_of_length_le (by simp)]
  · rw [Nat.min_eq_right h, List.drop_of_length_le (Nat.le_refl _), List.drop_of_length_le h]
    simp
theorem o_takeT {ds : List D} {n : Nat} : slO (.tup ds) none (some (n : Int)) = some (.tup (ds.take n)) := by
  show some (D.tup (cutD ds none (some (n : Int)))) = _
  rw [cutD_take]
theorem o_takeL {ds : List D} {n : Nat} : slO (.lst ds) none (some (n : Int)) = some (.lst (ds.take n)) := by
  show some (D.lst (cutD ds none (some (n : Int)))) = _
  rw [cutD_take]
theorem o_dropT {ds : List D} {n : Nat} : slO (.tup ds) (some (n : Int)) none = some (.tup (ds.drop n)) := by
  show some (D.tup (cutD ds (some (n : Int)) none)) = _
  rw [cutD_drop]
theorem o_dropL {ds : List D} {n : Nat} : slO (.lst ds) (some (n : Int)) none = some (.lst (ds.drop n)) := by
  show some (D.lst (cutD ds (some (n : Int)) none)) = _
  rw [cutD_drop]
theorem o_take2 {ds : List D} : slO (.tup ds) none (some 2) = some (.tup (ds.take 2)) := o_takeT (n := 2)
theorem o_drop1 {ds : List D} : slO (.tup ds) (some 1) none = some (.tup (ds.drop 1)) := o_dropT (n := 1)
theorem o_p6 : powI (.int 10) (.int 6) = some (.int 1000000) := by kernel_rfl
theorem o_p8 : powI (.int 10) (.int 8) = some (.int 100000000) := by kernel_rfl
theorem o_p9 : powI (.int 10) (.int 9) = some (.int 1000000000) := by kernel_rfl
theorem o_p4 : powI (.int 10) (.int 4) = some (.int 10000) := by kernel_rfl
theorem o_p12 : powI (.int 10) (.int 12) = some (.int 1000000000000) := by kernel_rfl
theorem o_p15 : powI (.int 10) (.int 15) = some (.int 1000000000000000) := by kernel_rfl
theorem o_p20 : powI (.int 10) (.int 20) = some (.int 100000000000000000000) := by kernel_rfl
theorem o_p25 : powI (.int 10) (.int 25) = some (.int 10000000000000000000000000) := by kernel_rfl
theorem o_p29 : powI (.int 10) (.int 29) = some (.int 100000000000000000000000000000) := by kernel_rfl
theorem o_p30 : powI (.int 10) (.int 30) = some (.int 1000000000000000000000000000000) := by kernel_rfl
theorem rng_map {lo : Int} {n : Nat} : rngInts lo n = (List.range n).map fun i : Nat => D.int (lo + (i : Nat)) := rfl
theorem o_rng2 {i j : Int} (h0 : -(2 ^ 62) ≤ i ∧ i < 2 ^ 62) (h : -(2 ^ 62) ≤ j ∧ j < 2 ^ 62) : rngO [.int i, .int j] = some (rngInts i (j - i).toNat) := by
  show (if -(2 ^ 62) ≤ i ∧ i < 2 ^ 62 ∧ -(2 ^ 62) ≤ j ∧ j < 2 ^ 62 then some (rngInts i (j - i).toNat) else none) = _
  rw [if_pos ⟨h0.1, h0.2, h⟩]
/-- dividing by any number above 0 that is not huge -/
theorem o_fdivW {i j : Int} (h0 : 0 < j) (h : j < 2 ^ 200) : fdivO (.int i) (.int j) = some (.int (i / j)) := by
  by_cases q : j < 1073741824
  · exact o_fdiv h0 q
  · have n : ¬ CDivN i j := fun z => by have := z.2; omega
    have y : CDivW i j := ⟨h0, by
      have h1 : j.natAbs < 2 ^ 200 := by omega
      have h2 : j.natAbs ≠ 0 := by omega
      have := (Nat.log2_lt h2).mpr h1
      omega⟩
    simp [fdivO, alt2, fdivI, fdivW, iiO, n, y]
theorem ints_map : ∀ (ns : List Int), ints? (ns.map D.int) = some ns
  | [] => rfl
  | n :: ns => by
    rw [List.map_cons]
    unfold ints?
    rw [ints_map ns]
    rfl
theorem o_maxL {ns : List Int} (h : ns ≠ []) : maxLO [.lst (ns.map D.int)] = some (.int (maxI ns)) := by
  have : (ns.map D.int).isEmpty = false := by cases ns <;> simp_all
  simp [maxLO, this, ints_map, h]
theorem o_minL {ns : List Int} (h : ns ≠ []) : minLO [.lst (ns.map D.int)] = some (.int (minI ns)) := by
  have : (ns.map D.int).isEmpty = false := by cases ns <;> simp_all
  simp [minLO, this, ints_map, h]
theorem o_sum {ns : List Int} : sumO [.lst (ns.map D.int)] = some (.int ns.sum) := by
  simp [sumO, ints_map]
theorem shaped2 {c : Str} (hc : PyData.strOk c = true) (r : Int) : SeqAt.shaped (.tuple [.str c, .int r]) = true := by
  simp [SeqAt.shaped, PyData.canLay0, PyData.canLayAll0, PyData.depth, PyData.depthAll, hc]
theorem o_eqT2 {a b : Str} {p q : Int} (ha : PyData.strOk a = true) (hb : PyData.strOk b = true) : eqO (.tup [.str a, .int p]) (.tup [.str b, .int q]) = some (.bl (decide (a = b) && decide (p = q))) := by
  have e : (a == b && p == q) = (decide (a = b) && decide (p = q)) := by rw [Bool.eq_iff_iff]; simp
  simp [eqO, eqB, eqS, eqP, toP, toPs, shaped2 ha, shaped2 hb, PyData.eqv, PyData.eqvAll, e]
theorem ok_part : PyData.strOk (Str.ofString "part") = true := by decide +kernel
theorem ok_add : PyData.strOk (Str.ofString "add") = true := by decide +kernel
theorem ok_even : PyData.strOk (Str.ofString "even") = true := by decide +kernel
theorem ok_least : PyData.strOk (Str.ofString "least") = true := by decide +kernel
theorem ok_most : PyData.strOk (Str.ofString "most") = true := by decide +kernel
theorem lp_part {p : Int} : eqO (.tup [.str (Str.ofString "part"), .int p]) (.tup [.str (Str.ofString "part"), .int 0]) = some (.bl (decide (p = 0))) := by rw [o_eqT2 ok_part ok_part]; simp
theorem lp_add {p : Int} : eqO (.tup [.str (Str.ofString "add"), .int p]) (.tup [.str (Str.ofString "part"), .int 0]) = some (.bl false) := by rw [o_eqT2 ok_add ok_part]; simp [x_add_part]
theorem lp_even {p : Int} : eqO (.tup [.str (Str.ofString "even"), .int p]) (.tup [.str (Str.ofString "part"), .int 0]) = some (.bl false) := by rw [o_eqT2 ok_even ok_part]; simp [x_even_part]
theorem lp_least {p : Int} : eqO (.tup [.str (Str.ofString "least"), .int p]) (.tup [.str (Str.ofString "part"), .int 0]) = some (.bl false) := by rw [o_eqT2 ok_least ok_part]; simp [x_least_part]
theorem lp_most {p : Int} : eqO (.tup [.str (Str.ofString "most"), .int p]) (.tup [.str (Str.ofString "part"), .int 0]) = some (.bl false) := by rw [o_eqT2 ok_most ok_part]; simp [x_most_part]
theorem o_inLeastL : inO false (.str ("least" : Str)) (.lst [.str ("least" : Str), .str ("most" : Str)]) = some (.bl true) := by kernel_rfl
theorem o_inMostL : inO false (.str ("most" : Str)) (.lst [.str ("least" : Str), .str ("most" : Str)]) = some (.bl true) := by kernel_rfl
theorem o_inAddL : inO false (.str ("add" : Str)) (.lst [.str ("least" : Str), .str ("most" : Str)]) = some (.bl false) := by kernel_rfl
theorem o_inPartL : inO false (.str ("part" : Str)) (.lst [.str ("least" : Str), .str ("most" : Str)]) = some (.bl false) := by kernel_rfl
theorem o_inEvenL : inO false (.str ("even" : Str)) (.lst [.str ("least" : Str), .str ("most" : Str)]) = some (.bl false) := by kernel_rfl
theorem minI_mn {f : Int → Int} {N : Int} (h : 0 < N) : IsMn f N (minI ((List.range N.toNat).map fun i : Nat => f i)) := by
  have h0 : ((List.range N.toNat).map fun i : Nat => f i) ≠ [] := by
    simp only [ne_eq, List.map_eq_nil_iff, List.range_eq_nil]
    omega
  obtain ⟨h1, h2⟩ := minI_mem _ h0
  obtain ⟨i, hi, e⟩ := List.mem_map.mp h1
  have hi' : i < N.toNat := List.mem_range.mp hi
  refine ⟨⟨i, by omega, by omega, e⟩, fun u u0 u1 => h2 _ (List.mem_map.mpr ⟨u.toNat, List.mem_range.mpr (by omega), ?_⟩)⟩
  rw [show ((u.toNat : Nat) : Int) = u by omega]
theorem maxI_neg {xs : List Int} (h : xs ≠ []) : maxI xs = - minI (xs.map fun x => -x) := by
  obtain ⟨a1, a2⟩ := maxI_mem xs h
  obtain ⟨b1, b2⟩ := minI_mem (xs.map fun x => -x) (by simpa using h)
  obtain ⟨y, hy, e⟩ := List.mem_map.mp b1
  have := a2 y hy
  have := b2 (-(maxI xs)) (List.mem_map.mpr ⟨_, a1, rfl⟩)
  omega
/-- the gaps at the first prices -/
def gapsL (s t : Steps) (N : Int) : List Int := (List.range N.toNat).map fun i : Nat => gap s t i
theorem gaps_ne {s t : Steps} {N : Int} (h : 0 < N) : gapsL s t N ≠ [] := by
  unfold gapsL
  simp only [ne_eq, List.map_eq_nil_iff, List.range_eq_nil]
  omega
theorem gaps_min {s t : Steps} (hs : Ok s) (ht : Ok t) {N f L : Int} (f0 : 0 ≤ f) (f1 : isFree s f = true) (f2 : isFree t f = true) (hL : 0 < L) (d1 : (width s).1 ∣ L) (d2 : (width t).1 ∣ L) (hN : f + L ≤ N) (h : risesMore s t) : minI (gapsL s t N) = infGap s t :=
  (infGap_eq (gap_inf hs ht f0 f1 f2 hL d1 d2 h hN (minI_mn (by omega)))).symm
theorem gaps_max {s t : Steps} (hs : Ok s) (ht : Ok t) {N f L : Int} (f0 : 0 ≤ f) (f1 : isFree s f = true) (f2 : isFree t f = true) (hL : 0 < L) (d1 : (width s).1 ∣ L) (d2 : (width t).1 ∣ L) (hN : f + L ≤ N) (h : risesMore t s) : maxI (gapsL s t N) = - infGap t s := by
  rw [maxI_neg (gaps_ne (by omega)), ← gaps_min ht hs f0 f2 f1 hL d2 d1 hN h]
  congr 2
  unfold gapsL
  rw [List.map_map]
  refine List.map_congr_left fun i _ => ?_
  show - gap s t i = gap t s i
  rw [gap_swap s t]
/-! data that == can be asked of -/
def okD : Nat → D → Bool
  | _, .non => true
  | _, .bl _ => true
  | _, .int _ => true
  | _, .str x => PyData.strOk x
  | n + 1, .tup ds => ds.all (okD n)
  | n + 1, .lst ds => ds.all (okD n)
  | _, _ => false
theorem okD_toP : ∀ (n : Nat) (d : D), okD n d = true → ∃ p, toP d = some p ∧ p.canLay0 = true ∧ p.depth ≤ n := by
  have many : ∀ (n : Nat), (∀ d, okD n d = true → ∃ p, toP d = some p ∧ p.canLay0 = true ∧ p.depth ≤ n) → ∀ ds : List D, ds.all (okD n) = true → ∃ ps, toPs ds = some ps ∧ PyData.canLayAll0 ps = true ∧ PyData.depthAll ps ≤ n := by
    intro n h ds
    induction ds with
    | nil => intro _; exact ⟨[], by simp [toPs], by simp [PyData.canLayAll0], by simp [PyData.depthAll]⟩
    | cons d ds ih =>
      intro hd
      rw [List.all_cons, Bool.and_eq_true] at hd
      obtain ⟨p, h1, h2, h3⟩ := h d hd.1
      obtain ⟨ps, h4, h5, h6⟩ := ih hd.2
      refine ⟨p :: ps, by simp [toPs, h1, h4], by simp [PyData.canLayAll0, h2, h5], ?_⟩
      simp only [PyData.depthAll]
      omega
  intro n
  induction n with
  | zero =>
    intro d h
    cases d with
    | non => exact ⟨_, rfl, rfl, by simp [PyData.depth]⟩
    | bl b => exact ⟨_, rfl, rfl, by simp [PyData.depth]⟩
    | int b => exact ⟨_, rfl, rfl, by simp [PyData.depth]⟩
    | str x => exact ⟨.str x, rfl, by simpa [PyData.canLay0, okD] using h, by simp [PyData.depth]⟩
    | _ => simp [okD] at h
  | succ n ih =>
    intro d h
    cases d with
    | non => exact ⟨_, rfl, rfl, by simp [PyData.depth]⟩
    | bl b => exact ⟨_, rfl, rfl, by simp [PyData.depth]⟩
    | int b => exact ⟨_, rfl, rfl, by simp [PyData.depth]⟩
    | str x => exact ⟨.str x, rfl, by simpa [PyData.canLay0, okD] using h, by simp [PyData.depth]⟩
    | tup ds =>
      obtain ⟨ps, h1, h2, h3⟩ := many n ih ds (by simpa [okD] using h)
      exact ⟨.tuple ps, by simp [toP, h1], by simp [PyData.canLay0, h2], by simp only [PyData.depth]; omega⟩
    | lst ds =>
      obtain ⟨ps, h1, h2, h3⟩ := many n ih ds (by simpa [okD] using h)
      exact ⟨.list ps, by simp [toP, h1], by simp [PyData.canLay0, h2], by simp only [PyData.depth]; omega⟩
    | _ => simp [okD] at h
theorem shaped_of {n : Nat} {d : D} (hn : n ≤ 64) (h : okD n d = true) : ∃ p, toP d = some p ∧ SeqAt.shaped p = true := by
  obtain ⟨p, h1, h2, h3⟩ := okD_toP n d h
  exact ⟨p, h1, by unfold SeqAt.shaped; rw [h2]; simp; omega⟩
theorem o_eqNil {ds : List D} (h : ds.all (okD 63) = true) : eqO (.tup ds) (.tup []) = some (.bl ds.isEmpty) := by
  obtain ⟨p, h1, h2⟩ := shaped_of (n := 64) (d := .tup ds) (by decide) (by simpa [okD] using h)
  have e : toP (.tup []) = some (.tuple []) := rfl
  have s : SeqAt.shaped (.tuple []) = true := by decide
  have q : eqS (.tup ds) (.tup []) = none := rfl
  simp only [eqO, eqB, q, eqP, h1, e, h2, s, and_self, if_true, Option.map_some]
  congr 2
  unfold toP at h1
  cases hp : toPs ds with
  | none => rw [hp] at h1; cases h1
  | some ps =>
    rw [hp] at h1
    cases h1
    cases ds with
    | nil => cases hp; rfl
    | cons d ds =>
      unfold toPs at hp
      cases h3 : toP d with
      | none => rw [h3] at hp; cases hp
      | some p1 =>
        rw [h3] at hp
        cases h4 : toPs ds with
        | none => rw [h4] at hp; cases hp
        | some p2 => rw [h4] at hp; cases hp; rfl
theorem okD_step (x : TM.Step) {n : Nat} : okD (n + 1) (dStep x) = true := by
  have k : PyData.strOk (Str.ofString "down") = true ∧ PyData.strOk (Str.ofString "up") = true ∧ PyData.strOk (Str.ofString "near") = true := by decide +kernel
  have r : ∀ r : Rule, okD n (.str (sRule r)) = true := fun r => by cases r <;> simp [okD, sRule, k]
  cases x <;> simp [okD, dStep, ok_part, ok_add, ok_even, ok_least, ok_most, r]
theorem okD_steps {s : Steps} {n : Nat} : (s.map dStep).all (okD (n + 1)) = true := by
  rw [List.all_eq_true]
  intro d hd
  obtain ⟨x, _, rfl⟩ := List.mem_map.mp hd
  exact okD_step x
theorem o_eqNilL {ds : List D} (h : ds.all (okD 63) = true) : eqO (.lst ds) (.lst []) = some (.bl ds.isEmpty) := by
  obtain ⟨p, h1, h2⟩ := shaped_of (n := 64) (d := .lst ds) (by decide) (by simpa [okD] using h)
  have e : toP (.lst []) = some (.list []) := rfl
  have s : SeqAt.shaped (.list []) = true := by decide
  have q : eqS (.lst ds) (.lst []) = none := rfl
  simp only [eqO, eqB, q, eqP, h1, e, h2, s, and_self, if_true, Option.map_some]
  congr 2
  unfold toP at h1
  cases hp : toPs ds with
  | none => rw [hp] at h1; cases h1
  | some ps =>
    rw [hp] at h1
    cases h1
    cases ds with
    | nil => cases hp; rfl
    | cons d ds =>
      unfold toPs at hp
      cases h3 : toP d with
      | none => rw [h3] at hp; cases hp
      | some p1 =>
        rw [h3] at hp
        cases h4 : toPs ds with
        | none => rw [h4] at hp; cases hp
        | some p2 => rw [h4] at hp; cases hp; rfl
theorem ne_of_eq {a b : D} {c : Bool} (h : eqO a b = some (.bl c)) : neO a b = some (.bl (!c)) := by
  unfold eqO at h
  unfold neO
  cases e : eqB a b with
  | none => rw [e] at h; cases h
  | some x => rw [e] at h; cases h; rfl
theorem okD_ints {xs : List Int} {n : Nat} : (xs.map D.int).all (okD n) = true := by
  rw [List.all_eq_true]
  intro d hd
  obtain ⟨x, _, rfl⟩ := List.mem_map.mp hd
  cases n <;> rfl
theorem o_neNilI {xs : List Int} : neO (.lst (xs.map D.int)) (.lst []) = some (.bl (!xs.isEmpty)) := by
  rw [ne_of_eq (o_eqNilL okD_ints)]
  cases xs <;> rfl
theorem o_eqNilI {xs : List Int} : eqO (.lst (xs.map D.int)) (.lst []) = some (.bl xs.isEmpty) := by
  rw [o_eqNilL okD_ints]
  cases xs <;> rfl
theorem atI_end {α : Type} {xs : List α} (h : xs ≠ []) : atI xs (-1) = some (xs.getLast h) := by
  have e := List.dropLast_concat_getLast h
  have : atI (xs.dropLast ++ [xs.getLast h]) (-1) = some (xs.getLast h) := atI_last
  rw [e] at this
  exact this
theorem o_isNi {i : Int} : isNO (.int i) .non = some (.bl false) := rfl
theorem o_isNn : isNO .non .non = some (.bl true) := rfl
theorem o_isNt {ds : List D} : isNO (.tup ds) .non = some (.bl false) := rfl
theorem o_noNi {i : Int} : notNO (.int i) .non = some (.bl true) := rfl
theorem o_noNn : notNO .non .non = some (.bl false) := rfl
theorem o_noNt {ds : List D} : notNO (.tup ds) .non = some (.bl true) := rfl
theorem o_catT {a b : List D} (h : a.length + b.length ≤ 1000) : addO (.tup a) (.tup b) = some (.tup (a ++ b)) := by
  have : a.length + b.length ≤ sizeLine := Nat.le_trans h (by decide)
  simp [addO, alt2, addI, addS, addL, addT, iiO0, this]
end TS
namespace TS
open PySem L2 TM
theorem startR4 {n : Nat} {a b c d : D} : startR (n + 4) [a, b, c, d] = some (.dat a) :: some (.dat b) :: some (.dat c) :: some (.dat d) :: List.replicate n none := by simp [startR]
theorem startR5 {n : Nat} {a b c d e : D} : startR (n + 5) [a, b, c, d, e] = some (.dat a) :: some (.dat b) :: some (.dat c) :: some (.dat d) :: some (.dat e) :: List.replicate n none := by simp [startR]
theorem toV_int (i : Int) : toV (.int i) = .int i := rfl
theorem inB_ints {x : Int} : ∀ (xs : List Int), inB (.int x) (xs.map D.int) = decide (x ∈ xs)
  | [] => rfl
  | y :: ys => by
    have ih := inB_ints (x := x) ys
    unfold inB at ih ⊢
    simp only [List.map_cons]
    by_cases h : x = y
    · subst h
      simp [inV, toV, eqV]
    · have : inV (toV (.int x)) (toV (.int y) :: List.map toV (List.map D.int ys)) = inV (toV (.int x)) (List.map toV (List.map D.int ys)) := by
        simp [inV, toV, eqV, h, Ne.symm h]
      rw [this, ih]
      simp [h]
theorem o_inI {x : Int} {xs : List Int} : inO false (.int x) (.lst (xs.map D.int)) = some (.bl (decide (x ∈ xs))) := by
  have h : (xs.map D.int).all flatD = true := by
    rw [List.all_eq_true]
    intro d hd
    obtain ⟨y, _, rfl⟩ := List.mem_map.mp hd
    rfl
  have h2 : flatD (.int x) = true := rfl
  simp only [inO, h, h2, and_self, if_true, inB_ints]
  rfl
theorem o_ninI {x : Int} {xs : List Int} : inO true (.int x) (.lst (xs.map D.int)) = some (.bl (!decide (x ∈ xs))) := by
  have h : (xs.map D.int).all flatD = true := by
    rw [List.all_eq_true]
    intro d hd
    obtain ⟨y, _, rfl⟩ := List.mem_map.mp hd
    rfl
  have h2 : flatD (.int x) = true := rfl
  simp only [inO, h, h2, and_self, if_true, inB_ints]
end TS
namespace TS
open PySem L2 TM
open PySem.W (alike alikeAll dataLt minD)
theorem flat_ints {xs : List Int} : (xs.map D.int).all flatD = true := by
  rw [List.all_eq_true]
  intro d hd
  obtain ⟨y, _, rfl⟩ := List.mem_map.mp hd
  rfl
theorem row_ints (r : List Nat) : (r.map fun i => D.int (i : Nat)) = (r.map fun i : Nat => (i : Int)).map D.int := by rw [List.map_map]; rfl
theorem o_ninRow {r : List Nat} {i : Nat} : inO true (.int (i : Nat)) (dRow r) = some (.bl (!r.contains i)) := by
  unfold dRow
  rw [row_ints]
  show (if flatD (.int (i : Nat)) = true ∧ ((r.map fun i : Nat => (i : Int)).map D.int).all flatD = true then some (D.bl (!inB (.int (i : Nat)) ((r.map fun i : Nat => (i : Int)).map D.int))) else none) = _
  rw [if_pos ⟨rfl, flat_ints⟩, inB_ints]
  congr 3
  by_cases h : i ∈ r
  · have : ((i : Nat) : Int) ∈ r.map fun i : Nat => (i : Int) := List.mem_map_of_mem h
    simp [this, h]
  · have : ¬ ((i : Nat) : Int) ∈ r.map fun i : Nat => (i : Int) := fun z => by
      obtain ⟨j, hj, e⟩ := List.mem_map.mp z
      have : j = i := by omega
      subst this
      exact h hj
    simp only [this, decide_false]
    simp [h]
theorem o_ninNon {ds : List D} (h : ∀ d ∈ ds, d = .non ∨ ∃ i, d = .int i) : inO true .non (.lst ds) = some (.bl (ds.all fun d => !isNon d)) := by
  have hf : ds.all flatD = true := by
    rw [List.all_eq_true]
    intro d hd
    rcases h d hd with rfl | ⟨i, rfl⟩ <;> rfl
  show (if flatD .non = true ∧ ds.all flatD = true then some (D.bl (!inB .non ds)) else none) = _
  rw [if_pos ⟨rfl, hf⟩]
  congr 2
  clear hf
  induction ds with
  | nil => rfl
  | cons d ds ih =>
    have ih := ih fun x hx => h x (List.mem_cons_of_mem _ hx)
    rw [List.all_cons, ← ih]
    unfold inB inV
    rcases h d List.mem_cons_self with rfl | ⟨i, rfl⟩ <;> simp [toV, eqV, isNon]
theorem o_idxI {ns : List Int} {l r : List Int} {x : Int} (e : ns = l ++ x :: r) (hx : ∀ y ∈ l, y ≠ x) : idxO (.lst (ns.map D.int)) (.int x) = some (.int (l.length : Nat)) := by
  have hs : SeqAt.shaped (.list (ns.map PyData.int)) = true := by
    obtain ⟨p, h1, h2⟩ := shaped_of (n := 2) (d := .lst (ns.map D.int)) (by decide) (by
      show (ns.map D.int).all (okD 1) = true
      rw [List.all_eq_true]
      intro d hd
      obtain ⟨y, _, rfl⟩ := List.mem_map.mp hd
      rfl)
    have : toP (.lst (ns.map D.int)) = some (.list (ns.map PyData.int)) := by unfold toP; rw [toPs_ints]; rfl
    rw [this] at h1
    cases h1
    exact h2
  have hs2 : SeqAt.shaped (.int x) = true := by simp [SeqAt.shaped, PyData.canLay0, PyData.depth]
  have hf : (ns.map PyData.int).findIdx? (fun z => PyData.eqv z (.int x)) = some l.length := by
    rw [List.findIdx?_eq_some_iff_getElem]
    subst e
    refine ⟨by simp, by simp [PyData.eqv], fun j hj => ?_⟩
    have : j < l.length := hj
    simp only [List.getElem_map, List.getElem_append_left this]
    have := hx l[j] (List.getElem_mem this)
    simp [PyData.eqv, this]
  show (match toPs (ns.map D.int), toP (.int x) with
    | some ps, some p => if SeqAt.shaped (.list ps) = true ∧ SeqAt.shaped p = true then (ps.findIdx? fun z => PyData.eqv z p).map fun j => D.int (j : Nat) else none
    | _, _ => none) = _
  rw [toPs_ints]
  simp only [toP]
  rw [if_pos ⟨hs, hs2⟩, hf]
  rfl
/-! the least of pairs -/
def dPair (F : List Nat → Int) (r : List Nat) : D := .tup [.int (F r), dRow r]
def pPair (F : List Nat → Int) (r : List Nat) : PyData := .tuple [.int (F r), pRow r]
theorem toP_pair (F : List Nat → Int) (r : List Nat) : toP (dPair F r) = some (pPair F r) := by
  unfold dPair pPair
  unfold toP
  unfold toPs
  simp only [toP]
  unfold toPs
  rw [toP_row]
  unfold toPs
  rfl
theorem alike_ints : ∀ xs ys : List Nat, alikeAll (xs.map fun i => PyData.int (i : Nat)) (ys.map fun i => PyData.int (i : Nat)) = true
  | [], _ => by simp [alikeAll]
  | _ :: _, [] => by simp [alikeAll]
  | x :: xs, y :: ys => by simp only [List.map_cons, alikeAll, alike, alike_ints xs ys, Bool.and_self]
theorem alike_row (a b : List Nat) : alike (pRow a) (pRow b) = true := by
  unfold pRow alike
  exact alike_ints a b
theorem alike_pair (F : List Nat → Int) (a b : List Nat) : alike (pPair F a) (pPair F b) = true := by
  unfold pPair alike
  simp only [alikeAll, alike, alike_row, Bool.and_self]
theorem lt_pair (F : List Nat → Int) (a b : List Nat) : dataLt (pPair F a) (pPair F b) = if F a = F b then (if PyData.eqv (pRow a) (pRow b) = true then false else decide ((a.map fun i : Nat => (i : Int)) < (b.map fun i : Nat => (i : Int)))) else decide (F a < F b) := by
  unfold pPair
  rw [PySem.W.dataLt_pair (by simp [alike]) (alike_row a b), PySem.W.dataLt_int]
  have : dataLt (pRow a) (pRow b) = decide ((a.map fun i : Nat => (i : Int)) < (b.map fun i : Nat => (i : Int))) := by
    unfold pRow
    rw [PySem.W.dataLt_tuple]
    have := PySem.W.dataLt_ints (a.map fun i : Nat => (i : Int)) (b.map fun i : Nat => (i : Int))
    rw [List.map_map, List.map_map] at this
    exact this
  rw [this]
  simp only [PyData.eqv, beq_iff_eq]
theorem depth_pairs (F : List Nat → Int) (rows : List (List Nat)) : PyData.depthAll (rows.map (pPair F)) ≤ 60 := by
  obtain ⟨p, h1, h2, h3⟩ := okD_toP 4 (.lst (rows.map (dPair F))) (by
    show (rows.map (dPair F)).all (okD 3) = true
    rw [List.all_eq_true]
    intro d hd
    obtain ⟨r, _, rfl⟩ := List.mem_map.mp hd
    show [D.int (F r), dRow r].all (okD 2) = true
    simp only [List.all_cons, List.all_nil, Bool.and_true, okD, Bool.true_and]
    unfold dRow
    show (r.map fun i => D.int (i : Nat)).all (okD 1) = true
    rw [List.all_eq_true]
    intro d hd
    obtain ⟨y, _, rfl⟩ := List.mem_map.mp hd
    rfl)
  have : toP (.lst (rows.map (dPair F))) = some (.list (rows.map (pPair F))) := by unfold toP; rw [toPs_mapP _ _ (toP_pair F)]; rfl
  rw [this] at h1
  cases h1
  simp only [PyData.depth] at h3
  omega
theorem o_minPairs {F : List Nat → Int} {rows l r : List (List Nat)} {q : List Nat} (e : rows = l ++ q :: r) (ha : rows.Pairwise fun a b => ¬ (b.map fun i : Nat => (i : Int)) < (a.map fun i : Nat => (i : Int))) (hl : ∀ x ∈ l, F q < F x) (hr : ∀ x ∈ r, F q ≤ F x) : minDO [.lst (rows.map (dPair F))] = some (dPair F q) := by
  obtain ⟨p, ps, hp⟩ : ∃ p ps, rows.map (pPair F) = p :: ps := by
    subst e
    cases l with
    | nil => exact ⟨_, _, rfl⟩
    | cons x l => exact ⟨_, _, rfl⟩
  have hm : minD p ps = pPair F q := by
    refine minD_first (l := l.map (pPair F)) (r := r.map (pPair F)) (by rw [← hp, e, List.map_append, List.map_cons]) (fun y hy => ?_) (fun y hy => ?_)
    · obtain ⟨x, hx, rfl⟩ := List.mem_map.mp hy
      have := hl x hx
      rw [lt_pair, if_neg (by omega), decide_eq_true this]
    · obtain ⟨x, hx, rfl⟩ := List.mem_map.mp hy
      have := hr x hx
      rw [lt_pair]
      by_cases h : F x = F q
      · rw [if_pos h]
        rw [e] at ha
        have := (List.pairwise_cons.mp (List.pairwise_append.mp ha).2.1).1 x hx
        rw [decide_eq_false this]
        split <;> rfl
      · rw [if_neg h, decide_eq_false (by omega)]
  have hal : alikeB (p :: ps) = true := by
    unfold alikeB
    rw [Bool.and_eq_true, List.all_eq_true, List.all_eq_true, ← hp]
    refine ⟨fun x hx => ?_, fun x hx => ?_⟩
    · obtain ⟨a, _, rfl⟩ := List.mem_map.mp hx
      rw [List.all_eq_true]
      intro y hy
      obtain ⟨b, _, rfl⟩ := List.mem_map.mp hy
      exact alike_pair F a b
    · obtain ⟨a, _, rfl⟩ := List.mem_map.mp hx
      rfl
  have hd : PyData.depthAll (p :: ps) ≤ 60 := by rw [← hp]; exact depth_pairs F rows
  show (match toPs (rows.map (dPair F)) with
    | some (p :: ps) => if alikeB (p :: ps) = true ∧ PyData.depthAll (p :: ps) ≤ 60 then some (ofP (minD p ps)) else none
    | _ => none) = _
  rw [toPs_mapP _ _ (toP_pair F), hp]
  simp only
  rw [if_pos ⟨hal, hd⟩, hm, ofP_toP _ _ (toP_pair F q)]
end TS
namespace TS
open PySem L2 TM
open PySem.W (alike alikeAll dataLt dataLe minD keyToks keyToksAll sortLe)
open PyProof.Rows (itemOrd)
theorem minD_le (p : PyData) : ∀ (ps : List PyData), ∀ y ∈ p :: ps, dataLt y (minD p ps) = false := by
  intro ps
  induction ps generalizing p with
  | nil =>
    intro y hy
    rw [List.mem_singleton.mp hy]
    exact PyProof.Rows.lex_irrefl _
  | cons q ps ih =>
    intro y hy
    have ih := ih (if dataLt q p = true then q else p)
    have e : minD p (q :: ps) = minD (if dataLt q p = true then q else p) ps := rfl
    rw [e]
    have h0 := ih _ List.mem_cons_self
    have near : ∀ z, dataLt z (if dataLt q p = true then q else p) = false → dataLt z (minD (if dataLt q p = true then q else p) ps) = false := fun z hz => by
      cases w : dataLt z (minD (if dataLt q p = true then q else p) ps) with
      | false => rfl
      | true =>
        rcases PyProof.Rows.lex_negTrans (O := itemOrd) _ (keyToks (if dataLt q p = true then q else p)) _ w with a | a
        · rw [show dataLt z (if dataLt q p = true then q else p) = true from a] at hz; cases hz
        · rw [show dataLt (if dataLt q p = true then q else p) (minD (if dataLt q p = true then q else p) ps) = true from a] at h0; cases h0
    rcases List.mem_cons.mp hy with z | z
    · subst z
      refine near y ?_
      split
      · rename_i h
        cases w : dataLt y q with
        | false => rfl
        | true =>
          have := PyProof.Rows.lex_trans (O := itemOrd) _ _ _ h w
          rw [PyProof.Rows.lex_irrefl] at this
          cases this
      · exact PyProof.Rows.lex_irrefl _
    · rcases List.mem_cons.mp z with w | w
      · subst w
        refine near y ?_
        split
        · exact PyProof.Rows.lex_irrefl _
        · rename_i h
          cases u : dataLt y p with
          | false => rfl
          | true => exact absurd u h
      · exact ih y (List.mem_cons_of_mem _ w)
theorem eqv_of_toks {x y : PyData} (h : alike x y = true) (e : keyToks x = keyToks y) : PyData.eqv x y = true := by
  cases q : PyData.eqv x y with
  | true => rfl
  | false =>
    have h1 := (PySem.W.toks_eqv x y h).2 q [.inl 0] [.inl 1]
    rw [e, PySem.W.lex_pre] at h1
    rw [PyProof.Rows.lex_irrefl] at h1
    exact absurd h1 (by decide +kernel)
theorem row_inj : ∀ {a b : List Nat}, PyData.eqvAll (a.map fun i => PyData.int (i : Nat)) (b.map fun i => PyData.int (i : Nat)) = true → a = b
  | [], [], _ => rfl
  | [], b :: bs, h => by simp [PyData.eqvAll] at h
  | a :: as, [], h => by simp [PyData.eqvAll] at h
  | a :: as, b :: bs, h => by
    simp only [List.map_cons, PyData.eqvAll, PyData.eqv, Bool.and_eq_true, beq_iff_eq] at h
    have h1 : a = b := by have := h.1; omega
    rw [h1, row_inj h.2]
theorem pRow_inj {a b : List Nat} (h : PyData.eqv (pRow a) (pRow b) = true) : a = b := by
  unfold pRow at h
  simp only [PyData.eqv] at h
  exact row_inj h
theorem rows_inj : ∀ {a b : List (List Nat)}, PyData.eqvAll (a.map pRow) (b.map pRow) = true → a = b
  | [], [], _ => rfl
  | [], b :: bs, h => by simp [PyData.eqvAll] at h
  | a :: as, [], h => by simp [PyData.eqvAll] at h
  | a :: as, b :: bs, h => by
    simp only [List.map_cons, PyData.eqvAll, Bool.and_eq_true] at h
    rw [pRow_inj h.1, rows_inj h.2]
/-! sorted rows -/
def dLots (l : List (List Nat)) : D := .lst (l.map dRow)
def rowLe (a b : List Nat) : Bool := dataLe false keyP (dRow a) (dRow b)
def sortR (l : List (List Nat)) : List (List Nat) := l.mergeSort rowLe
theorem keyP_row (r : List Nat) : keyP (dRow r) = pRow r := by unfold keyP; rw [toP_row]; rfl
theorem sortD_rows (l : List (List Nat)) : sortD (l.map dRow) = (sortR l).map dRow :=
  (List.map_mergeSort (r := rowLe) (s := dataLe false keyP) (f := dRow) (fun a _ b _ => rfl)).symm
theorem rowLe_anti (a b : List Nat) (h1 : rowLe a b = true) (h2 : rowLe b a = true) : a = b := by
  have e1 : rowLe a b = !dataLt (pRow b) (pRow a) := by show (!dataLt (keyP (dRow b)) (keyP (dRow a))) = _; rw [keyP_row, keyP_row]
  have e2 : rowLe b a = !dataLt (pRow a) (pRow b) := by show (!dataLt (keyP (dRow a)) (keyP (dRow b))) = _; rw [keyP_row, keyP_row]
  rw [e1] at h1
  rw [e2] at h2
  simp only [Bool.not_eq_true'] at h1 h2
  exact pRow_inj (eqv_of_toks (alike_row a b) (PyProof.Rows.lex_total (O := itemOrd) _ _ h2 h1))
theorem rowLe_total (a b : List Nat) : (rowLe a b || rowLe b a) = true := by
  have := (PySem.W.sortLe_total (PyProof.Rows.listOrd itemOrd) false (fun b : D => keyToks (keyP b))).total (dRow a) (dRow b)
  rw [Bool.or_eq_true]
  exact this
theorem rowLe_trans (a b c : List Nat) (h1 : rowLe a b = true) (h2 : rowLe b c = true) : rowLe a c = true := (PySem.W.sortLe_total (PyProof.Rows.listOrd itemOrd) false (fun b : D => keyToks (keyP b))).trans (dRow a) (dRow b) (dRow c) h1 h2
theorem sortR_perm {p q : List (List Nat)} (h : p.Perm q) : sortR p = sortR q :=
  perm_sorted rowLe_anti (((List.mergeSort_perm p rowLe).trans h).trans (List.mergeSort_perm q rowLe).symm) (List.pairwise_mergeSort rowLe_trans rowLe_total p) (List.pairwise_mergeSort rowLe_trans rowLe_total q)
theorem depth_row (r : List Nat) : (pRow r).depth ≤ 60 := by
  obtain ⟨p, h1, h2, h3⟩ := okD_toP 2 (dRow r) (by
    unfold dRow
    show (r.map fun i => D.int (i : Nat)).all (okD 1) = true
    rw [List.all_eq_true]
    intro d hd
    obtain ⟨y, _, rfl⟩ := List.mem_map.mp hd
    rfl)
  rw [toP_row] at h1
  cases h1
  omega
theorem o_sortRows {l : List (List Nat)} (hl : l.length ≤ 1000) (hne : ∀ r ∈ l, r ≠ []) : sortDO [.lst (l.map dRow)] = some (.lst ((sortR l).map dRow)) := by
  have hs : sortB (l.map pRow) = true := by
    unfold sortB
    simp only [Bool.and_eq_true, Bool.or_eq_true, List.all_eq_true, decide_eq_true_eq]
    refine ⟨⟨fun x hx y hy => ?_, .inl fun x hx => ?_⟩, fun x hx => ?_⟩
    · obtain ⟨a, _, rfl⟩ := List.mem_map.mp hx
      obtain ⟨b, _, rfl⟩ := List.mem_map.mp hy
      exact alike_row a b
    · obtain ⟨a, ha, rfl⟩ := List.mem_map.mp hx
      have := hne a ha
      cases a with
      | nil => exact absurd rfl this
      | cons i r => rfl
    · obtain ⟨a, _, rfl⟩ := List.mem_map.mp hx
      exact depth_row a
  show (match toPs (l.map dRow) with
    | some ps => if sortB ps = true ∧ ps.length ≤ sizeLine then some (D.lst (sortD (l.map dRow))) else none
    | none => none) = _
  rw [toPs_mapP _ _ toP_row]
  simp only
  rw [if_pos ⟨hs, by rw [List.length_map]; exact Nat.le_trans hl (by decide)⟩, sortD_rows]
/-! totals -/
def dTot (F : List Nat → Int) (l : List (List Nat)) : D := .tup [.int (l.map F).sum, .tup ((sortR l).map dRow)]
def pTot (F : List Nat → Int) (l : List (List Nat)) : PyData := .tuple [.int (l.map F).sum, .tuple ((sortR l).map pRow)]
theorem toP_tot (F : List Nat → Int) (l : List (List Nat)) : toP (dTot F l) = some (pTot F l) := by
  unfold dTot pTot
  unfold toP
  unfold toPs
  simp only [toP]
  unfold toPs
  simp only [toP]
  rw [toPs_mapP _ _ toP_row]
  unfold toPs
  rfl
theorem sum_perm {a b : List Int} (h : a.Perm b) : a.sum = b.sum := by
  induction h with
  | nil => rfl
  | cons x _ ih => simp only [List.sum_cons, ih]
  | swap x y l => simp only [List.sum_cons]; omega
  | trans _ _ h1 h2 => rw [h1, h2]
theorem pTot_perm {F : List Nat → Int} {p q : List (List Nat)} (h : p.Perm q) : pTot F p = pTot F q := by
  unfold pTot
  rw [sortR_perm h, sum_perm (h.map F)]
theorem alike_rows : ∀ xs ys : List (List Nat), alikeAll (xs.map pRow) (ys.map pRow) = true
  | [], _ => by simp [alikeAll]
  | _ :: _, [] => by simp [alikeAll]
  | x :: xs, y :: ys => by simp only [List.map_cons, alikeAll, alike_row, alike_rows xs ys, Bool.and_self]
theorem alike_tot (F : List Nat → Int) (a b : List (List Nat)) : alike (pTot F a) (pTot F b) = true := by
  unfold pTot alike
  simp only [alikeAll, alike, alike_rows, Bool.and_self]
theorem okD_row {r : List Nat} {n : Nat} : okD (n + 2) (dRow r) = true := by
  unfold dRow
  show (r.map fun i => D.int (i : Nat)).all (okD (n + 1)) = true
  rw [List.all_eq_true]
  intro d hd
  obtain ⟨y, _, rfl⟩ := List.mem_map.mp hd
  rfl
theorem depth_tots (F : List Nat → Int) (A : List (List (List Nat))) : PyData.depthAll (A.map (pTot F)) ≤ 60 := by
  obtain ⟨p, h1, h2, h3⟩ := okD_toP 6 (.lst (A.map (dTot F))) (by
    show (A.map (dTot F)).all (okD 5) = true
    rw [List.all_eq_true]
    intro d hd
    obtain ⟨r, _, rfl⟩ := List.mem_map.mp hd
    show [D.int (r.map F).sum, D.tup ((sortR r).map dRow)].all (okD 4) = true
    simp only [List.all_cons, List.all_nil, Bool.and_true, okD, Bool.true_and]
    rw [List.all_eq_true]
    intro d hd
    obtain ⟨y, _, rfl⟩ := List.mem_map.mp hd
    exact okD_row)
  have : toP (.lst (A.map (dTot F))) = some (.list (A.map (pTot F))) := by unfold toP; rw [toPs_mapP _ _ (toP_tot F)]; rfl
  rw [this] at h1
  cases h1
  simp only [PyData.depth] at h3
  omega
theorem pTot_eq {F : List Nat → Int} {a b : List (List Nat)} (h : PyData.eqv (pTot F a) (pTot F b) = true) : dTot F a = dTot F b := by
  unfold pTot at h
  simp only [PyData.eqv, PyData.eqvAll, Bool.and_eq_true, beq_iff_eq, Bool.and_true] at h
  unfold dTot
  rw [h.1, rows_inj h.2]
theorem min_one {F : List Nat → Int} {A : List (List (List Nat))} (hne : A ≠ []) : ∃ p ∈ A, minDO [.lst (A.map (dTot F))] = some (dTot F p) ∧ ∀ q ∈ A, dataLt (pTot F q) (pTot F p) = false := by
  obtain ⟨p, ps, hp⟩ : ∃ p ps, A.map (pTot F) = p :: ps := by
    cases A with
    | nil => exact absurd rfl hne
    | cons x A => exact ⟨_, _, rfl⟩
  have hm := minD_mem p ps
  have hle := minD_le p ps
  rw [← hp] at hm hle
  obtain ⟨p1, hp1, e1⟩ := List.mem_map.mp hm
  have hal : alikeB (p :: ps) = true := by
    unfold alikeB
    rw [Bool.and_eq_true, List.all_eq_true, List.all_eq_true, ← hp]
    refine ⟨fun x hx => ?_, fun x hx => ?_⟩
    · obtain ⟨a, _, rfl⟩ := List.mem_map.mp hx
      rw [List.all_eq_true]
      intro y hy
      obtain ⟨b, _, rfl⟩ := List.mem_map.mp hy
      exact alike_tot F a b
    · obtain ⟨a, _, rfl⟩ := List.mem_map.mp hx
      rfl
  have hd : PyData.depthAll (p :: ps) ≤ 60 := by rw [← hp]; exact depth_tots F A
  refine ⟨p1, hp1, ?_, fun q hq => ?_⟩
  · show (match toPs (A.map (dTot F)) with
      | some (p :: ps) => if alikeB (p :: ps) = true ∧ PyData.depthAll (p :: ps) ≤ 60 then some (ofP (minD p ps)) else none
      | _ => none) = _
    rw [toPs_mapP _ _ (toP_tot F), hp]
    simp only
    rw [if_pos ⟨hal, hd⟩, ← e1, ofP_toP _ _ (toP_tot F p1)]
  · have := hle (pTot F q) (List.mem_map_of_mem hq)
    rw [← e1] at this
    exact this
theorem min_tot {F : List Nat → Int} {A B : List (List (List Nat))} (hne : A ≠ []) (h1 : ∀ p ∈ A, ∃ q ∈ B, p.Perm q) (h2 : ∀ q ∈ B, ∃ p ∈ A, p.Perm q) : ∃ p ∈ A, minDO [.lst (A.map (dTot F))] = some (dTot F p) ∧ minDO [.lst (B.map (dTot F))] = some (dTot F p) := by
  have hB : B ≠ [] := by
    intro z
    subst z
    cases A with
    | nil => exact hne rfl
    | cons x A =>
      obtain ⟨q, hq, _⟩ := h1 x List.mem_cons_self
      cases hq
  obtain ⟨p, hp, e1, l1⟩ := min_one (F := F) hne
  obtain ⟨q, hq, e2, l2⟩ := min_one (F := F) hB
  refine ⟨p, hp, e1, ?_⟩
  rw [e2]
  have a : dataLt (pTot F p) (pTot F q) = false := by
    obtain ⟨q', hq', z⟩ := h1 p hp
    rw [pTot_perm z]
    exact l2 q' hq'
  have b : dataLt (pTot F q) (pTot F p) = false := by
    obtain ⟨p', hp', z⟩ := h2 q hq
    rw [← pTot_perm z]
    exact l1 p' hp'
  have : keyToks (pTot F p) = keyToks (pTot F q) := PyProof.Rows.lex_total (O := itemOrd) _ _ a b
  rw [pTot_eq (eqv_of_toks (alike_tot F p q) this)]
theorem o_maxT {ns : List Int} (h : ns ≠ []) : maxTO [.tup (ns.map D.int)] = some (.int (maxI ns)) := by
  have : (ns.map D.int).isEmpty = false := by cases ns <;> simp_all
  simp [maxTO, this, ints?_map]
end TS
namespace TS
namespace L
open PySem L2
abbrev d__law_mix : DF := mixD
abbrev d__law_next : DF := nextD
noncomputable def b__law_round : DS := (seqS (asgS (.many [3, 4]) (clE tupO (consA (opE fdivO (varE 0) (varE 1)) (consA (opE modI (clE intO (consA (varE 0) nilA)) (varE 1)) nilA)))) (seqS (ifS (toT (opE eqO (varE 2) (cE (.str ("near" : Str))))) (retS (opE addO (varE 3) (ifE (toT (opE geI (opE mulO (cE (.int 2)) (varE 4)) (varE 1))) (cE (.int 1)) (cE (.int 0))))) nxS) (retS (opE addO (varE 3) (ifE (andT (toT (opE gtI (varE 4) (cE (.int 0)))) (toT (opE eqO (varE 2) (cE (.str ("up" : Str)))))) (cE (.int 1)) (cE (.int 0)))))))
noncomputable def d__law_round : DF := runD 5 b__law_round
noncomputable def b__law_paid : DS := (seqS (forS (seqI (varE 0)) (.one 2) (ifS (toT (opE eqO (opE ixO (varE 2) (cE (.int 0))) (cE (.str ("part" : Str))))) (asgS (.one 1) (callE 3 d__law_round (consA (opE mulO (varE 1) (opE ixO (varE 2) (cE (.int 1)))) (consA (cE (.int 100)) (consA (opE ixO (varE 2) (cE (.int 2))) nilA))))) (ifS (toT (opE eqO (opE ixO (varE 2) (cE (.int 0))) (cE (.str ("even" : Str))))) (asgS (.one 1) (opE mulO (opE ixO (varE 2) (cE (.int 1))) (callE 3 d__law_round (consA (varE 1) (consA (opE ixO (varE 2) (cE (.int 1))) (consA (opE ixO (varE 2) (cE (.int 2))) nilA)))))) (ifS (toT (opE eqO (opE ixO (varE 2) (cE (.int 0))) (cE (.str ("add" : Str))))) (asgS (.one 1) (ifE (toT (opE gtI (opE addO (varE 1) (opE ixO (varE 2) (cE (.int 1)))) (cE (.int 0)))) (opE addO (varE 1) (opE ixO (varE 2) (cE (.int 1)))) (cE (.int 0)))) (ifS (toT (opE eqO (opE eqO (opE ixO (varE 2) (cE (.int 0))) (cE (.str ("least" : Str)))) (opE ltI (varE 1) (opE ixO (varE 2) (cE (.int 1)))))) (asgS (.one 1) (opE ixO (varE 2) (cE (.int 1)))) nxS))))) (retS (varE 1)))
noncomputable def d__law_paid : DF := runD 3 b__law_paid
noncomputable def b_rounded : DS := (seqS (ifS (toT (opE eqO (varE 2) (cE (.str ("down" : Str))))) (retS (opE fdivO (varE 0) (varE 1))) nxS) (seqS (ifS (toT (opE eqO (varE 2) (cE (.str ("up" : Str))))) (retS (opE fdivO (opE subI (opE addO (varE 0) (varE 1)) (cE (.int 1))) (varE 1))) nxS) (retS (opE fdivO (opE addO (opE mulO (cE (.int 2)) (varE 0)) (varE 1)) (opE mulO (cE (.int 2)) (varE 1))))))
noncomputable def d_rounded : DF := runD 3 b_rounded
noncomputable def b_behind : DS := (seqS (asgS (.one 2) (opE ixO (varE 0) (cE (.int 0)))) (seqS (ifS (toT (opE eqO (varE 2) (cE (.str ("part" : Str))))) (retS (callE 3 d_rounded (consA (opE mulO (varE 1) (opE ixO (varE 0) (cE (.int 1)))) (consA (cE (.int 100)) (consA (opE ixO (varE 0) (cE (.int 2))) nilA))))) nxS) (seqS (ifS (toT (opE eqO (varE 2) (cE (.str ("even" : Str))))) (retS (opE mulO (callE 3 d_rounded (consA (varE 1) (consA (opE ixO (varE 0) (cE (.int 1))) (consA (opE ixO (varE 0) (cE (.int 2))) nilA)))) (opE ixO (varE 0) (cE (.int 1))))) nxS) (seqS (ifS (toT (opE eqO (varE 2) (cE (.str ("add" : Str))))) (retS (clE max2O (consA (cE (.int 0)) (consA (opE addO (varE 1) (opE ixO (varE 0) (cE (.int 1)))) nilA)))) nxS) (retS (ifE (toT (opE eqO (varE 2) (cE (.str ("least" : Str))))) (clE max2O (consA (varE 1) (consA (opE ixO (varE 0) (cE (.int 1))) nilA))) (clE min2O (consA (varE 1) (consA (opE ixO (varE 0) (cE (.int 1))) nilA)))))))))
noncomputable def d_behind : DF := runD 3 b_behind
noncomputable def b_paid : DS := (seqS (forS (seqI (varE 0)) (.one 2) (asgS (.one 1) (callE 2 d_behind (consA (varE 2) (consA (varE 1) nilA))))) (retS (varE 1)))
noncomputable def d_paid : DF := runD 3 b_paid
noncomputable def b_is_integer : DS := (retS (andE (isiE ["int"] (varE 0)) (andE (notE (isiE ["bool"] (varE 0))) (chE leI leI (varE 1) (varE 0) (varE 2)))))
noncomputable def d_is_integer : DF := runD 3 b_is_integer
noncomputable def b_check_price : DS := (ifS (notT (toT (callE 3 d_is_integer (consA (varE 0) (consA (cE (.int 0)) (consA (cE (.int 1000000000000000000000000000000)) nilA)))))) badS nxS)
noncomputable def d_check_price : DF := runD 1 b_check_price
noncomputable def b_is_rule : DS := (retS (andE (isiE ["str"] (varE 0)) (opE (inO false) (varE 0) (cE (.tup [(.str ("down" : Str)), (.str ("up" : Str)), (.str ("near" : Str))])))))
noncomputable def d_is_rule : DF := runD 1 b_is_rule
noncomputable def b_is_step : DS := (seqS (ifS (orT (notT (toT (isiE ["tuple"] (varE 0)))) (orT (toT (opE (inO true) (clE lenO (consA (varE 0) nilA)) (clE tupO (consA (cE (.int 2)) (consA (cE (.int 3)) nilA))))) (notT (toT (isiE ["str"] (opE ixO (varE 0) (cE (.int 0)))))))) (retS (cE (.bl false))) nxS) (seqS (ifS (toT (opE eqO (clE lenO (consA (varE 0) nilA)) (cE (.int 3)))) (seqS (ifS (toT (opE eqO (opE ixO (varE 0) (cE (.int 0))) (cE (.str ("part" : Str))))) (retS (andE (callE 3 d_is_integer (consA (opE ixO (varE 0) (cE (.int 1))) (consA (cE (.int 0)) (consA (cE (.int 200)) nilA)))) (callE 1 d_is_rule (consA (opE ixO (varE 0) (cE (.int 2))) nilA)))) nxS) (retS (andE (opE eqO (opE ixO (varE 0) (cE (.int 0))) (cE (.str ("even" : Str)))) (andE (callE 3 d_is_integer (consA (opE ixO (varE 0) (cE (.int 1))) (consA (cE (.int 2)) (consA (cE (.int 100)) nilA)))) (callE 1 d_is_rule (consA (opE ixO (varE 0) (cE (.int 2))) nilA)))))) nxS) (seqS (ifS (toT (opE eqO (opE ixO (varE 0) (cE (.int 0))) (cE (.str ("add" : Str))))) (retS (callE 3 d_is_integer (consA (opE ixO (varE 0) (cE (.int 1))) (consA (unE negO (cE (.int 200))) (consA (cE (.int 200)) nilA))))) nxS) (retS (andE (opE (inO false) (opE ixO (varE 0) (cE (.int 0))) (clE tupO (consA (cE (.str ("least" : Str))) (consA (cE (.str ("most" : Str))) nilA)))) (callE 3 d_is_integer (consA (opE ixO (varE 0) (cE (.int 1))) (consA (cE (.int 0)) (consA (cE (.int 1000)) nilA)))))))))
noncomputable def d_is_step : DF := runD 1 b_is_step
noncomputable def b_check_steps : DS := (seqS (ifS (orT (notT (toT (isiE ["tuple"] (varE 0)))) (toT (opE gtI (clE lenO (consA (varE 0) nilA)) (cE (.int 6))))) (raiseS ("BadSteps" : Str) ("index" : Str) (consA (cE .non) nilA)) nxS) (forS (enI (consA (varE 0) nilA)) (.many [1, 2]) (ifS (notT (toT (callE 1 d_is_step (consA (varE 2) nilA)))) (raiseS ("BadSteps" : Str) ("index" : Str) (consA (varE 1) nilA)) nxS)))
noncomputable def d_check_steps : DF := runD 3 b_check_steps
noncomputable def b_pay : DS := (seqS (dropS (callE 1 d_check_steps (consA (varE 0) nilA))) (seqS (dropS (callE 1 d_check_price (consA (varE 1) nilA))) (retS (callE 2 d_paid (consA (varE 0) (consA (varE 1) nilA))))))
noncomputable def d_pay : DF := runD 2 b_pay
noncomputable def b__law_tried : DS := (seqS (asgS (.one 2) (cE .non)) (seqS (trS ("BadSteps" : Str) 3 2 (.ls [(.f ("index" : Str))]) (asgS (.one 2) (callE 2 d_pay (consA (varE 0) (consA (varE 1) nilA))))) (retS (varE 2))))
noncomputable def d__law_tried : DF := runD 4 b__law_tried
noncomputable def b__law_alike (self : DF) : DS := (seqS (ifS (toT (isiE ["tuple", "list"] (varE 1))) (seqS (ifS (orT (notT (toT (isiE ["tuple", "list"] (varE 0)))) (toT (opE neO (isiE ["list"] (varE 0)) (isiE ["list"] (varE 1))))) (retS (cE (.bl false))) nxS) (seqS (ifS (toT (opE neO (clE lenO (consA (varE 0) nilA)) (clE lenO (consA (varE 1) nilA)))) (retS (cE (.bl false))) nxS) (retS (opE eqO (lcE (rngI (consA (clE lenO (consA (varE 1) nilA)) nilA)) [2] (.one 2) (notT (toT (callE 2 self (consA (opE ixO (varE 0) (varE 2)) (consA (opE ixO (varE 1) (varE 2)) nilA))))) (varE 2)) (clE lstO nilA))))) nxS) (seqS (ifS (orT (toT (opE isNO (varE 1) (cE .non))) (toT (isiE ["str"] (varE 1)))) (retS (andE (opE eqO (varE 0) (varE 1)) (opE eqO (isiE ["str"] (varE 0)) (isiE ["str"] (varE 1))))) nxS) (retS (andE (isiE ["int"] (varE 0)) (andE (opE eqO (isiE ["bool"] (varE 0)) (isiE ["bool"] (varE 1))) (opE eqO (varE 0) (varE 1)))))))
noncomputable def e__law_alike : Nat → DF
  | 0 => fun _ _ => .bad
  | n + 1 => runD 3 (b__law_alike (e__law_alike n))
noncomputable def d__law_alike : DF := e__law_alike 12
noncomputable def b__law_whole : DS := (retS (andE (isiE ["int"] (varE 0)) (andE (notE (isiE ["bool"] (varE 0))) (chE leI leI (varE 1) (varE 0) (varE 2)))))
noncomputable def d__law_whole : DF := runD 3 b__law_whole
noncomputable def b__law_is_step : DS := (seqS (ifS (orT (notT (toT (isiE ["tuple"] (varE 0)))) (orT (toT (opE eqO (varE 0) (clE tupO nilA))) (notT (toT (isiE ["str"] (opE ixO (varE 0) (cE (.int 0)))))))) (retS (cE (.bl false))) nxS) (seqS (ifS (toT (opE (inO false) (opE ixO (varE 0) (cE (.int 0))) (clE lstO (consA (cE (.str ("part" : Str))) (consA (cE (.str ("even" : Str))) nilA))))) (seqS (asgS (.many [1, 2]) (ifE (toT (opE eqO (opE ixO (varE 0) (cE (.int 0))) (cE (.str ("part" : Str))))) (clE tupO (consA (cE (.int 0)) (consA (cE (.int 200)) nilA))) (clE tupO (consA (cE (.int 2)) (consA (cE (.int 100)) nilA))))) (seqS (ifS (orT (toT (opE neO (clE lenO (consA (varE 0) nilA)) (cE (.int 3)))) (orT (notT (toT (isiE ["str"] (opE ixO (varE 0) (cE (.int 2)))))) (toT (opE (inO true) (opE ixO (varE 0) (cE (.int 2))) (clE lstO (consA (cE (.str ("down" : Str))) (consA (cE (.str ("up" : Str))) (consA (cE (.str ("near" : Str))) nilA)))))))) (retS (cE (.bl false))) nxS) (retS (callE 3 d__law_whole (consA (opE ixO (varE 0) (cE (.int 1))) (consA (varE 1) (consA (varE 2) nilA))))))) nxS) (seqS (ifS (orT (toT (opE (inO true) (opE ixO (varE 0) (cE (.int 0))) (clE lstO (consA (cE (.str ("add" : Str))) (consA (cE (.str ("least" : Str))) (consA (cE (.str ("most" : Str))) nilA)))))) (toT (opE neO (clE lenO (consA (varE 0) nilA)) (cE (.int 2))))) (retS (cE (.bl false))) nxS) (retS (callE 3 d__law_whole (consA (opE ixO (varE 0) (cE (.int 1))) (consA (ifE (toT (opE eqO (opE ixO (varE 0) (cE (.int 0))) (cE (.str ("add" : Str))))) (unE negO (cE (.int 200))) (cE (.int 0))) (consA (ifE (toT (opE eqO (opE ixO (varE 0) (cE (.int 0))) (cE (.str ("add" : Str))))) (cE (.int 200)) (cE (.int 1000))) nilA))))))))
noncomputable def d__law_is_step : DF := runD 3 b__law_is_step
noncomputable def b__law_pick : DS := (retS (opE ixO (varE 1) (callE 2 d__law_next (consA (varE 0) (consA (clE lenO (consA (varE 1) nilA)) nilA)))))
noncomputable def d__law_pick : DF := runD 2 b__law_pick
noncomputable def b__law_step : DS := (seqS (asgS (.many [1, 2]) (clE tupO (consA (callE 2 d__law_next (consA (varE 0) (consA (cE (.int 8)) nilA))) (consA (callE 2 d__law_pick (consA (varE 0) (consA (clE lstO (consA (cE (.str ("down" : Str))) (consA (cE (.str ("up" : Str))) (consA (cE (.str ("near" : Str))) nilA)))) nilA))) nilA)))) (seqS (ifS (toT (opE ltI (varE 1) (cE (.int 2)))) (retS (clE tupO (consA (cE (.str ("part" : Str))) (consA (callE 2 d__law_pick (consA (varE 0) (consA (clE lstO (consA (cE (.int 0)) (consA (cE (.int 25)) (consA (cE (.int 50)) (consA (cE (.int 50)) (consA (cE (.int 75)) (consA (cE (.int 80)) (consA (cE (.int 80)) (consA (cE (.int 100)) (consA (cE (.int 110)) (consA (cE (.int 120)) (consA (cE (.int 150)) (consA (cE (.int 200)) (consA (cE (.int 90)) (consA (cE (.int 95)) nilA))))))))))))))) nilA))) (consA (varE 2) nilA))))) nxS) (seqS (ifS (toT (opE ltI (varE 1) (cE (.int 5)))) (retS (clE tupO (consA (cE (.str ("add" : Str))) (consA (opE subI (callE 2 d__law_next (consA (varE 0) (consA (callE 2 d__law_pick (consA (varE 0) (consA (clE lstO (consA (cE (.int 7)) (consA (cE (.int 41)) (consA (cE (.int 401)) nilA)))) nilA))) nilA))) (callE 2 d__law_pick (consA (varE 0) (consA (clE lstO (consA (cE (.int 0)) (consA (cE (.int 3)) (consA (cE (.int 20)) (consA (cE (.int 200)) nilA))))) nilA)))) nilA)))) nxS) (seqS (ifS (toT (opE eqO (varE 1) (cE (.int 5)))) (retS (clE tupO (consA (cE (.str ("even" : Str))) (consA (callE 2 d__law_pick (consA (varE 0) (consA (clE lstO (consA (cE (.int 2)) (consA (cE (.int 3)) (consA (cE (.int 5)) (consA (cE (.int 5)) (consA (cE (.int 10)) (consA (cE (.int 25)) (consA (cE (.int 100)) nilA)))))))) nilA))) (consA (varE 2) nilA))))) nxS) (retS (clE tupO (consA (callE 2 d__law_pick (consA (varE 0) (consA (clE lstO (consA (cE (.str ("least" : Str))) (consA (cE (.str ("most" : Str))) (consA (cE (.str ("least" : Str))) nilA)))) nilA))) (consA (callE 2 d__law_next (consA (varE 0) (consA (callE 2 d__law_pick (consA (varE 0) (consA (clE lstO (consA (cE (.int 9)) (consA (cE (.int 60)) (consA (cE (.int 301)) nilA)))) nilA))) nilA))) nilA))))))))
noncomputable def d__law_step : DF := runD 3 b__law_step
noncomputable def b__law_steps : DS := (seqS (asgS (.one 2) (lcE (rngI (consA (callE 2 d__law_next (consA (varE 0) (consA (opE addO (varE 1) (cE (.int 1))) nilA))) nilA)) [3] (.one 3) yesT (callE 1 d__law_step (consA (varE 0) nilA)))) (retS (clE tupleO (consA (lcE (seqI (varE 2)) [4] (.one 4) yesT (ifE (toT (opE eqO (opE ixO (varE 4) (cE (.int 0))) (cE (.str ("add" : Str))))) (clE tupO (consA (cE (.str ("add" : Str))) (consA (clE max2O (consA (unE negO (cE (.int 200))) (consA (clE min2O (consA (cE (.int 200)) (consA (opE ixO (varE 4) (cE (.int 1))) nilA))) nilA))) nilA))) (varE 4))) nilA))))
noncomputable def d__law_steps : DF := runD 5 b__law_steps
noncomputable def b_law01 : DS := (seqS (asgS (.one 1) (callE 2 d__law_mix (consA (varE 0) (consA (cE (.int 1)) nilA)))) (seqS (asgS (.one 2) (clE lstO (consA (clE tupO (consA (cE (.str ("part" : Str))) (consA (cE (.int 201)) (consA (cE (.str ("up" : Str))) nilA)))) (consA (clE tupO (consA (cE (.str ("part" : Str))) (consA (unE negO (cE (.int 1))) (consA (cE (.str ("up" : Str))) nilA)))) (consA (clE tupO (consA (cE (.str ("part" : Str))) (consA (cE (.int 50)) nilA))) (consA (clE tupO (consA (cE (.str ("part" : Str))) (consA (cE (.int 50)) (consA (cE (.str ("Up" : Str))) nilA)))) (consA (clE tupO (consA (cE (.str ("part" : Str))) (consA (cE (.int 50)) (consA (cE .non) nilA)))) nilA))))))) (seqS (asgS (.one 2) (opE addO (varE 2) (clE lstO (consA (clE tupO (consA (cE (.str ("part" : Str))) (consA (cE (.bl true)) (consA (cE (.str ("up" : Str))) nilA)))) (consA (clE tupO (consA (cE (.str ("add" : Str))) (consA (cE (.int 201)) nilA))) (consA (clE tupO (consA (cE (.str ("add" : Str))) (consA (unE negO (cE (.int 201))) nilA))) (consA (clE tupO (consA (cE (.str ("add" : Str))) (consA (cE (.int 5)) (consA (cE (.str ("up" : Str))) nilA)))) (consA (clE tupO (consA (cE (.str ("add" : Str))) nilA)) (consA (clE tupO (consA (cE (.str ("add" : Str))) (consA (cE (.str ("5" : Str))) nilA))) nilA))))))))) (seqS (asgS (.one 2) (opE addO (varE 2) (clE lstO (consA (clE tupO (consA (cE (.str ("even" : Str))) (consA (cE (.int 1)) (consA (cE (.str ("up" : Str))) nilA)))) (consA (clE tupO (consA (cE (.str ("even" : Str))) (consA (cE (.int 101)) (consA (cE (.str ("up" : Str))) nilA)))) (consA (clE tupO (consA (cE (.str ("least" : Str))) (consA (unE negO (cE (.int 1))) nilA))) (consA (clE tupO (consA (cE (.str ("least" : Str))) (consA (cE (.int 1001)) nilA))) (consA (clE tupO (consA (cE (.str ("most" : Str))) (consA (cE (.int 1001)) nilA))) nilA)))))))) (seqS (asgS (.one 2) (opE addO (varE 2) (clE lstO (consA (clE tupO (consA (cE (.str ("most" : Str))) (consA (cE .non) nilA))) (consA (clE tupO (consA (cE (.str ("most" : Str))) (consA (cE (.bl false)) nilA))) (consA (clE lstO (consA (cE (.str ("add" : Str))) (consA (cE (.int 5)) nilA))) (consA (cE .non) (consA (clE tupO nilA) (consA (cE (.int 5)) (consA (clE tupO (consA (cE (.str ("Add" : Str))) (consA (cE (.int 5)) nilA))) (consA (clE tupO (consA (cE (.int 5)) (consA (cE (.str ("add" : Str))) nilA))) (consA (clE tupO (consA (clE tupO (consA (cE (.str ("add" : Str))) nilA)) (consA (cE (.int 5)) nilA))) nilA)))))))))))) (seqS (asgS (.one 2) (opE addO (varE 2) (clE lstO (consA (cE (.str ("add 5" : Str))) (consA (clE tupO (consA (cE (.str ("even" : Str))) (consA (cE (.int 100)) (consA (cE (.str ("near" : Str))) nilA)))) (consA (clE tupO (consA (cE (.str ("part" : Str))) (consA (cE (.int 200)) (consA (cE (.str ("down" : Str))) nilA)))) (consA (clE tupO (consA (cE (.str ("most" : Str))) (consA (cE (.int 1000)) nilA))) nilA))))))) (seqS (forS (rngI (consA (cE (.int 8)) nilA)) (.one 3) (seqS (asgS (.one 4) (callE 2 d__law_steps (consA (varE 1) (consA (cE (.int 6)) nilA)))) (seqS (forS (rngI (consA (callE 2 d__law_pick (consA (varE 1) (consA (clE lstO (consA (cE (.int 0)) (consA (cE (.int 0)) (consA (cE (.int 1)) (consA (cE (.int 1)) (consA (cE (.int 2)) nilA)))))) nilA))) nilA)) (.one 5) (seqS (asgS (.one 6) (callE 2 d__law_next (consA (varE 1) (consA (opE addO (clE lenO (consA (varE 4) nilA)) (cE (.int 1))) nilA)))) (asgS (.one 4) (opE addO (opE addO (slE (varE 4) noO (soO (varE 6))) (clE tupO (consA (callE 2 d__law_pick (consA (varE 1) (consA (varE 2) nilA))) nilA))) (slE (varE 4) (soO (opE addO (varE 6) (cE (.int 1)))) noO))))) (seqS (asgS (.one 4) (callE 2 d__law_pick (consA (varE 1) (consA (opE addO (opE mulO (clE lstO (consA (varE 4) nilA)) (cE (.int 9))) (clE lstO (consA (clE listO (consA (varE 4) nilA)) (consA (cE .non) (consA (opE mulO (clE tupO (consA (clE tupO (consA (cE (.str ("add" : Str))) (consA (cE (.int 1)) nilA))) nilA)) (cE (.int 7))) (consA (cE (.int 0)) nilA)))))) nilA)))) (seqS (asgS (.many [7, 8]) (clE tupO (consA (callE 2 d__law_next (consA (varE 1) (consA (cE (.int 3000)) nilA))) (consA (cE .non) nilA)))) (seqS (ifS (orT (notT (toT (isiE ["tuple"] (varE 4)))) (toT (opE gtI (clE lenO (consA (varE 4) nilA)) (cE (.int 6))))) (asgS (.one 8) (clE lstO (consA (cE .non) nilA))) (seqS (asgS (.one 9) (lcE (rngI (consA (clE lenO (consA (varE 4) nilA)) nilA)) [10] (.one 10) (notT (toT (callE 1 d__law_is_step (consA (opE ixO (varE 4) (varE 10)) nilA)))) (varE 10))) (asgS (.one 8) (ifE (toT (opE neO (varE 9) (clE lstO nilA))) (slE (varE 9) noO (soO (cE (.int 1)))) (cE .non))))) (ifS (notT (toT (callE 2 d__law_alike (consA (callE 2 d__law_tried (consA (varE 4) (consA (varE 7) nilA))) (consA (ifE (toT (opE notNO (varE 8) (cE .non))) (varE 8) (callE 2 d__law_paid (consA (varE 4) (consA (varE 7) nilA)))) nilA))))) (retS (cE (.bl false))) nxS))))))) (retS (cE (.bl true))))))))))
noncomputable def d_law01 : DF := runD 11 b_law01
end L
end TS
namespace TS
namespace L
open PySem L2 TM
theorem q_rounded {a u : Int} {r : Rule} {g : G} (h0 : 0 < u) (h1 : u < 500000000) : d_rounded [.int a, .int u, .str (sRule r)] g = .ok (.int (rnd a u r)) g := by
  refine ew_eq ?_
  unfold d_rounded b_rounded
  have h2 : (0 : Int) < 2 * u := by omega
  have h3 : 2 * u < 1073741824 := by omega
  have h4 : u < 1073741824 := by omega
  cases r <;> simp only [sRule, rnd, sw_ownL, sw_ownPar, seqD_l, seqD_t, lstAt, lstOf_own, lstOf_lst, ew_run, ew_ok, ew_var, ew_c, ew_op, ew_un, ew_nil, ew_cons, ew_cl, ew_toT, ew_not, ew_and, ew_or, ew_notE, ew_andE, ew_orE, ew_if, ew_ch, ew_call, ew_isi, ew_noO, ew_soO, ew_sl, ew_ownIx, ew_ownLen, ew_seqI, ew_rngI, ew_enI, ew_yes, ew_lc, sw_nx, sw_bad, sw_seq, sw_if, sw_ret, sw_drop, sw_asg, sw_aug, sw_own, sw_app, sw_ext, sw_frz, sw_forS, startR1, startR2, startR3, List.replicate, List.length_cons, List.length_nil, List.getElem?_cons_zero, List.getElem?_cons_succ, List.set_cons_zero, List.set_cons_succ, o_addI, o_subI, o_ltI, o_leI, o_gtI, o_geI, o_addII, o_eqII, o_eqSS, o_neII, o_neSS, o_eqBB, o_neBB, o_neg, o_ixT, o_ixL, atI_0, atI_1, atI_2, atI_last, o_max, o_min, o_int, o_tuple, o_list, o_lenL, o_lenT, o_tup0, o_tup1, o_tup2, o_tup3, asB_bl, asI_int, asL_lst, items_l, items_t, o_inRule, o_in23, o_in33, o_inLeast, o_inMost, o_inAdd, o_inPart, o_inEven, o_enT, o_enL, ty_n, ty_b, ty_i, ty_s, ty_t, ty_l, g_n, g_b, g_i, g_s, g_t, g_l, put1, put2, put3, Option.some.injEq, SV.dat.injEq, SV.own.injEq, exists_eq_left', exists_eq_left, Option.bind_some, Bool.not_true, Bool.not_false, if_true, if_false, ite_true, ite_false, decide_true, decide_false, Bool.false_eq_true, reduceIte, true_and, and_true, ne_eq, not_false_eq_true, not_true_eq_false, x_part_add, x_part_even, x_part_least, x_part_most, x_part_down, x_part_up, x_part_near, x_add_part, x_add_even, x_add_least, x_add_most, x_add_down, x_add_up, x_add_near, x_even_part, x_even_add, x_even_least, x_even_most, x_even_down, x_even_up, x_even_near, x_least_part, x_least_add, x_least_even, x_least_most, x_least_down, x_least_up, x_least_near, x_most_part, x_most_add, x_most_even, x_most_least, x_most_down, x_most_up, x_most_near, x_down_part, x_down_add, x_down_even, x_down_least, x_down_most, x_down_up, x_down_near, x_up_part, x_up_add, x_up_even, x_up_least, x_up_most, x_up_down, x_up_near, x_near_part, x_near_add, x_near_even, x_near_least, x_near_most, x_near_down, x_near_up, o_fdiv h0 h4, o_fdiv h2 h3, o_mulL (show -(2 ^ 64) < (2 : Int) ∧ (2 : Int) < 2 ^ 64 by decide), and_self]
theorem q_behind {x : TM.Step} (hx : x.ok) {y : Int} {g : G} : d_behind [dStep x, .int y] g = .ok (.int (beh x y)) g := by
  refine ew_eq ?_
  unfold d_behind b_behind
  cases x with
  | part p r =>
    obtain ⟨h1, h2⟩ := hx
    simp only [dStep, beh, sw_ownL, sw_ownPar, seqD_l, seqD_t, lstAt, lstOf_own, lstOf_lst, ew_run, ew_ok, ew_var, ew_c, ew_op, ew_un, ew_nil, ew_cons, ew_cl, ew_toT, ew_not, ew_and, ew_or, ew_notE, ew_andE, ew_orE, ew_if, ew_ch, ew_call, ew_isi, ew_noO, ew_soO, ew_sl, ew_ownIx, ew_ownLen, ew_seqI, ew_rngI, ew_enI, ew_yes, ew_lc, sw_nx, sw_bad, sw_seq, sw_if, sw_ret, sw_drop, sw_asg, sw_aug, sw_own, sw_app, sw_ext, sw_frz, sw_forS, startR1, startR2, startR3, List.replicate, List.length_cons, List.length_nil, List.getElem?_cons_zero, List.getElem?_cons_succ, List.set_cons_zero, List.set_cons_succ, o_addI, o_subI, o_ltI, o_leI, o_gtI, o_geI, o_addII, o_eqII, o_eqSS, o_neII, o_neSS, o_eqBB, o_neBB, o_neg, o_ixT, o_ixL, atI_0, atI_1, atI_2, atI_last, o_max, o_min, o_int, o_tuple, o_list, o_lenL, o_lenT, o_tup0, o_tup1, o_tup2, o_tup3, asB_bl, asI_int, asL_lst, items_l, items_t, o_inRule, o_in23, o_in33, o_inLeast, o_inMost, o_inAdd, o_inPart, o_inEven, o_enT, o_enL, ty_n, ty_b, ty_i, ty_s, ty_t, ty_l, g_n, g_b, g_i, g_s, g_t, g_l, put1, put2, put3, Option.some.injEq, SV.dat.injEq, SV.own.injEq, exists_eq_left', exists_eq_left, Option.bind_some, Bool.not_true, Bool.not_false, if_true, if_false, ite_true, ite_false, decide_true, decide_false, Bool.false_eq_true, reduceIte, true_and, and_true, ne_eq, not_false_eq_true, not_true_eq_false, x_part_add, x_part_even, x_part_least, x_part_most, x_part_down, x_part_up, x_part_near, x_add_part, x_add_even, x_add_least, x_add_most, x_add_down, x_add_up, x_add_near, x_even_part, x_even_add, x_even_least, x_even_most, x_even_down, x_even_up, x_even_near, x_least_part, x_least_add, x_least_even, x_least_most, x_least_down, x_least_up, x_least_near, x_most_part, x_most_add, x_most_even, x_most_least, x_most_down, x_most_up, x_most_near, x_down_part, x_down_add, x_down_even, x_down_least, x_down_most, x_down_up, x_down_near, x_up_part, x_up_add, x_up_even, x_up_least, x_up_most, x_up_down, x_up_near, x_near_part, x_near_add, x_near_even, x_near_least, x_near_most, x_near_down, x_near_up, o_mulR (i := y) (j := p) ⟨by omega, by omega⟩, q_rounded (a := y * p) (u := 100) (r := r) (by decide) (by decide), and_self]
  | even m r =>
    obtain ⟨h1, h2⟩ := hx
    simp only [dStep, beh, sw_ownL, sw_ownPar, seqD_l, seqD_t, lstAt, lstOf_own, lstOf_lst, ew_run, ew_ok, ew_var, ew_c, ew_op, ew_un, ew_nil, ew_cons, ew_cl, ew_toT, ew_not, ew_and, ew_or, ew_notE, ew_andE, ew_orE, ew_if, ew_ch, ew_call, ew_isi, ew_noO, ew_soO, ew_sl, ew_ownIx, ew_ownLen, ew_seqI, ew_rngI, ew_enI, ew_yes, ew_lc, sw_nx, sw_bad, sw_seq, sw_if, sw_ret, sw_drop, sw_asg, sw_aug, sw_own, sw_app, sw_ext, sw_frz, sw_forS, startR1, startR2, startR3, List.replicate, List.length_cons, List.length_nil, List.getElem?_cons_zero, List.getElem?_cons_succ, List.set_cons_zero, List.set_cons_succ, o_addI, o_subI, o_ltI, o_leI, o_gtI, o_geI, o_addII, o_eqII, o_eqSS, o_neII, o_neSS, o_eqBB, o_neBB, o_neg, o_ixT, o_ixL, atI_0, atI_1, atI_2, atI_last, o_max, o_min, o_int, o_tuple, o_list, o_lenL, o_lenT, o_tup0, o_tup1, o_tup2, o_tup3, asB_bl, asI_int, asL_lst, items_l, items_t, o_inRule, o_in23, o_in33, o_inLeast, o_inMost, o_inAdd, o_inPart, o_inEven, o_enT, o_enL, ty_n, ty_b, ty_i, ty_s, ty_t, ty_l, g_n, g_b, g_i, g_s, g_t, g_l, put1, put2, put3, Option.some.injEq, SV.dat.injEq, SV.own.injEq, exists_eq_left', exists_eq_left, Option.bind_some, Bool.not_true, Bool.not_false, if_true, if_false, ite_true, ite_false, decide_true, decide_false, Bool.false_eq_true, reduceIte, true_and, and_true, ne_eq, not_false_eq_true, not_true_eq_false, x_part_add, x_part_even, x_part_least, x_part_most, x_part_down, x_part_up, x_part_near, x_add_part, x_add_even, x_add_least, x_add_most, x_add_down, x_add_up, x_add_near, x_even_part, x_even_add, x_even_least, x_even_most, x_even_down, x_even_up, x_even_near, x_least_part, x_least_add, x_least_even, x_least_most, x_least_down, x_least_up, x_least_near, x_most_part, x_most_add, x_most_even, x_most_least, x_most_down, x_most_up, x_most_near, x_down_part, x_down_add, x_down_even, x_down_least, x_down_most, x_down_up, x_down_near, x_up_part, x_up_add, x_up_even, x_up_least, x_up_most, x_up_down, x_up_near, x_near_part, x_near_add, x_near_even, x_near_least, x_near_most, x_near_down, x_near_up, q_rounded (a := y) (u := m) (r := r) (show 0 < m by omega) (show m < 500000000 by omega), o_mulR (j := m) ⟨by omega, by omega⟩, and_self]
  | add c => simp only [dStep, beh, sw_ownL, sw_ownPar, seqD_l, seqD_t, lstAt, lstOf_own, lstOf_lst, ew_run, ew_ok, ew_var, ew_c, ew_op, ew_un, ew_nil, ew_cons, ew_cl, ew_toT, ew_not, ew_and, ew_or, ew_notE, ew_andE, ew_orE, ew_if, ew_ch, ew_call, ew_isi, ew_noO, ew_soO, ew_sl, ew_ownIx, ew_ownLen, ew_seqI, ew_rngI, ew_enI, ew_yes, ew_lc, sw_nx, sw_bad, sw_seq, sw_if, sw_ret, sw_drop, sw_asg, sw_aug, sw_own, sw_app, sw_ext, sw_frz, sw_forS, startR1, startR2, startR3, List.replicate, List.length_cons, List.length_nil, List.getElem?_cons_zero, List.getElem?_cons_succ, List.set_cons_zero, List.set_cons_succ, o_addI, o_subI, o_ltI, o_leI, o_gtI, o_geI, o_addII, o_eqII, o_eqSS, o_neII, o_neSS, o_eqBB, o_neBB, o_neg, o_ixT, o_ixL, atI_0, atI_1, atI_2, atI_last, o_max, o_min, o_int, o_tuple, o_list, o_lenL, o_lenT, o_tup0, o_tup1, o_tup2, o_tup3, asB_bl, asI_int, asL_lst, items_l, items_t, o_inRule, o_in23, o_in33, o_inLeast, o_inMost, o_inAdd, o_inPart, o_inEven, o_enT, o_enL, ty_n, ty_b, ty_i, ty_s, ty_t, ty_l, g_n, g_b, g_i, g_s, g_t, g_l, put1, put2, put3, Option.some.injEq, SV.dat.injEq, SV.own.injEq, exists_eq_left', exists_eq_left, Option.bind_some, Bool.not_true, Bool.not_false, if_true, if_false, ite_true, ite_false, decide_true, decide_false, Bool.false_eq_true, reduceIte, true_and, and_true, ne_eq, not_false_eq_true, not_true_eq_false, x_part_add, x_part_even, x_part_least, x_part_most, x_part_down, x_part_up, x_part_near, x_add_part, x_add_even, x_add_least, x_add_most, x_add_down, x_add_up, x_add_near, x_even_part, x_even_add, x_even_least, x_even_most, x_even_down, x_even_up, x_even_near, x_least_part, x_least_add, x_least_even, x_least_most, x_least_down, x_least_up, x_least_near, x_most_part, x_most_add, x_most_even, x_most_least, x_most_down, x_most_up, x_most_near, x_down_part, x_down_add, x_down_even, x_down_least, x_down_most, x_down_up, x_down_near, x_up_part, x_up_add, x_up_even, x_up_least, x_up_most, x_up_down, x_up_near, x_near_part, x_near_add, x_near_even, x_near_least, x_near_most, x_near_down, x_near_up, and_self]
  | least c => simp only [dStep, beh, sw_ownL, sw_ownPar, seqD_l, seqD_t, lstAt, lstOf_own, lstOf_lst, ew_run, ew_ok, ew_var, ew_c, ew_op, ew_un, ew_nil, ew_cons, ew_cl, ew_toT, ew_not, ew_and, ew_or, ew_notE, ew_andE, ew_orE, ew_if, ew_ch, ew_call, ew_isi, ew_noO, ew_soO, ew_sl, ew_ownIx, ew_ownLen, ew_seqI, ew_rngI, ew_enI, ew_yes, ew_lc, sw_nx, sw_bad, sw_seq, sw_if, sw_ret, sw_drop, sw_asg, sw_aug, sw_own, sw_app, sw_ext, sw_frz, sw_forS, startR1, startR2, startR3, List.replicate, List.length_cons, List.length_nil, List.getElem?_cons_zero, List.getElem?_cons_succ, List.set_cons_zero, List.set_cons_succ, o_addI, o_subI, o_ltI, o_leI, o_gtI, o_geI, o_addII, o_eqII, o_eqSS, o_neII, o_neSS, o_eqBB, o_neBB, o_neg, o_ixT, o_ixL, atI_0, atI_1, atI_2, atI_last, o_max, o_min, o_int, o_tuple, o_list, o_lenL, o_lenT, o_tup0, o_tup1, o_tup2, o_tup3, asB_bl, asI_int, asL_lst, items_l, items_t, o_inRule, o_in23, o_in33, o_inLeast, o_inMost, o_inAdd, o_inPart, o_inEven, o_enT, o_enL, ty_n, ty_b, ty_i, ty_s, ty_t, ty_l, g_n, g_b, g_i, g_s, g_t, g_l, put1, put2, put3, Option.some.injEq, SV.dat.injEq, SV.own.injEq, exists_eq_left', exists_eq_left, Option.bind_some, Bool.not_true, Bool.not_false, if_true, if_false, ite_true, ite_false, decide_true, decide_false, Bool.false_eq_true, reduceIte, true_and, and_true, ne_eq, not_false_eq_true, not_true_eq_false, x_part_add, x_part_even, x_part_least, x_part_most, x_part_down, x_part_up, x_part_near, x_add_part, x_add_even, x_add_least, x_add_most, x_add_down, x_add_up, x_add_near, x_even_part, x_even_add, x_even_least, x_even_most, x_even_down, x_even_up, x_even_near, x_least_part, x_least_add, x_least_even, x_least_most, x_least_down, x_least_up, x_least_near, x_most_part, x_most_add, x_most_even, x_most_least, x_most_down, x_most_up, x_most_near, x_down_part, x_down_add, x_down_even, x_down_least, x_down_most, x_down_up, x_down_near, x_up_part, x_up_add, x_up_even, x_up_least, x_up_most, x_up_down, x_up_near, x_near_part, x_near_add, x_near_even, x_near_least, x_near_most, x_near_down, x_near_up, and_self]
  | most c => simp only [dStep, beh, sw_ownL, sw_ownPar, seqD_l, seqD_t, lstAt, lstOf_own, lstOf_lst, ew_run, ew_ok, ew_var, ew_c, ew_op, ew_un, ew_nil, ew_cons, ew_cl, ew_toT, ew_not, ew_and, ew_or, ew_notE, ew_andE, ew_orE, ew_if, ew_ch, ew_call, ew_isi, ew_noO, ew_soO, ew_sl, ew_ownIx, ew_ownLen, ew_seqI, ew_rngI, ew_enI, ew_yes, ew_lc, sw_nx, sw_bad, sw_seq, sw_if, sw_ret, sw_drop, sw_asg, sw_aug, sw_own, sw_app, sw_ext, sw_frz, sw_forS, startR1, startR2, startR3, List.replicate, List.length_cons, List.length_nil, List.getElem?_cons_zero, List.getElem?_cons_succ, List.set_cons_zero, List.set_cons_succ, o_addI, o_subI, o_ltI, o_leI, o_gtI, o_geI, o_addII, o_eqII, o_eqSS, o_neII, o_neSS, o_eqBB, o_neBB, o_neg, o_ixT, o_ixL, atI_0, atI_1, atI_2, atI_last, o_max, o_min, o_int, o_tuple, o_list, o_lenL, o_lenT, o_tup0, o_tup1, o_tup2, o_tup3, asB_bl, asI_int, asL_lst, items_l, items_t, o_inRule, o_in23, o_in33, o_inLeast, o_inMost, o_inAdd, o_inPart, o_inEven, o_enT, o_enL, ty_n, ty_b, ty_i, ty_s, ty_t, ty_l, g_n, g_b, g_i, g_s, g_t, g_l, put1, put2, put3, Option.some.injEq, SV.dat.injEq, SV.own.injEq, exists_eq_left', exists_eq_left, Option.bind_some, Bool.not_true, Bool.not_false, if_true, if_false, ite_true, ite_false, decide_true, decide_false, Bool.false_eq_true, reduceIte, true_and, and_true, ne_eq, not_false_eq_true, not_true_eq_false, x_part_add, x_part_even, x_part_least, x_part_most, x_part_down, x_part_up, x_part_near, x_add_part, x_add_even, x_add_least, x_add_most, x_add_down, x_add_up, x_add_near, x_even_part, x_even_add, x_even_least, x_even_most, x_even_down, x_even_up, x_even_near, x_least_part, x_least_add, x_least_even, x_least_most, x_least_down, x_least_up, x_least_near, x_most_part, x_most_add, x_most_even, x_most_least, x_most_down, x_most_up, x_most_near, x_down_part, x_down_add, x_down_even, x_down_least, x_down_most, x_down_up, x_down_near, x_up_part, x_up_add, x_up_even, x_up_least, x_up_most, x_up_down, x_up_near, x_near_part, x_near_add, x_near_even, x_near_least, x_near_most, x_near_down, x_near_up, and_self]
theorem q_paid {s : Steps} (hs : Ok s) {y : Int} {g : G} : d_paid [dS s, .int y] g = .ok (.int (paid s y)) g := by
  refine ew_eq ?_
  unfold d_paid b_paid
  simp only [sw_ownL, sw_ownPar, seqD_l, seqD_t, lstAt, lstOf_own, lstOf_lst, ew_run, ew_ok, ew_var, ew_c, ew_op, ew_un, ew_nil, ew_cons, ew_cl, ew_toT, ew_not, ew_and, ew_or, ew_notE, ew_andE, ew_orE, ew_if, ew_ch, ew_call, ew_isi, ew_noO, ew_soO, ew_sl, ew_ownIx, ew_ownLen, ew_seqI, ew_rngI, ew_enI, ew_yes, ew_lc, sw_nx, sw_bad, sw_seq, sw_if, sw_ret, sw_drop, sw_asg, sw_aug, sw_own, sw_app, sw_ext, sw_frz, sw_forS, startR1, startR2, startR3, List.replicate, List.length_cons, List.length_nil, List.getElem?_cons_zero, List.getElem?_cons_succ, List.set_cons_zero, List.set_cons_succ, o_addI, o_subI, o_ltI, o_leI, o_gtI, o_geI, o_addII, o_eqII, o_eqSS, o_neII, o_neSS, o_eqBB, o_neBB, o_neg, o_ixT, o_ixL, atI_0, atI_1, atI_2, atI_last, o_max, o_min, o_int, o_tuple, o_list, o_lenL, o_lenT, o_tup0, o_tup1, o_tup2, o_tup3, asB_bl, asI_int, asL_lst, items_l, items_t, o_inRule, o_in23, o_in33, o_inLeast, o_inMost, o_inAdd, o_inPart, o_inEven, o_enT, o_enL, ty_n, ty_b, ty_i, ty_s, ty_t, ty_l, g_n, g_b, g_i, g_s, g_t, g_l, put1, put2, put3, Option.some.injEq, SV.dat.injEq, SV.own.injEq, exists_eq_left', exists_eq_left, Option.bind_some, Bool.not_true, Bool.not_false, if_true, if_false, ite_true, ite_false, decide_true, decide_false, Bool.false_eq_true, reduceIte, true_and, and_true, ne_eq, not_false_eq_true, not_true_eq_false]
  refine sw_forM dStep (fun l ρ g' => g' = g ∧ Ok l ∧ ∃ z v, ρ = [some (.dat (dS s)), some (.dat (.int z)), v] ∧ paid l z = paid s y) ?_ ?_ ⟨rfl, hs, y, none, rfl, rfl⟩
  · rintro d ds ρ g' ⟨rfl, ho, z, v, rfl, e⟩
    refine ⟨_, rfl, ?_⟩
    simp only [sw_ownL, sw_ownPar, seqD_l, seqD_t, lstAt, lstOf_own, lstOf_lst, ew_run, ew_ok, ew_var, ew_c, ew_op, ew_un, ew_nil, ew_cons, ew_cl, ew_toT, ew_not, ew_and, ew_or, ew_notE, ew_andE, ew_orE, ew_if, ew_ch, ew_call, ew_isi, ew_noO, ew_soO, ew_sl, ew_ownIx, ew_ownLen, ew_seqI, ew_rngI, ew_enI, ew_yes, ew_lc, sw_nx, sw_bad, sw_seq, sw_if, sw_ret, sw_drop, sw_asg, sw_aug, sw_own, sw_app, sw_ext, sw_frz, sw_forS, startR1, startR2, startR3, List.replicate, List.length_cons, List.length_nil, List.getElem?_cons_zero, List.getElem?_cons_succ, List.set_cons_zero, List.set_cons_succ, o_addI, o_subI, o_ltI, o_leI, o_gtI, o_geI, o_addII, o_eqII, o_eqSS, o_neII, o_neSS, o_eqBB, o_neBB, o_neg, o_ixT, o_ixL, atI_0, atI_1, atI_2, atI_last, o_max, o_min, o_int, o_tuple, o_list, o_lenL, o_lenT, o_tup0, o_tup1, o_tup2, o_tup3, asB_bl, asI_int, asL_lst, items_l, items_t, o_inRule, o_in23, o_in33, o_inLeast, o_inMost, o_inAdd, o_inPart, o_inEven, o_enT, o_enL, ty_n, ty_b, ty_i, ty_s, ty_t, ty_l, g_n, g_b, g_i, g_s, g_t, g_l, put1, put2, put3, Option.some.injEq, SV.dat.injEq, SV.own.injEq, exists_eq_left', exists_eq_left, Option.bind_some, Bool.not_true, Bool.not_false, if_true, if_false, ite_true, ite_false, decide_true, decide_false, Bool.false_eq_true, reduceIte, true_and, and_true, ne_eq, not_false_eq_true, not_true_eq_false, q_behind (ok_cons ho).1]
    exact ⟨(ok_cons ho).2, _, _, rfl, e⟩
  · rintro ρ g' ⟨rfl, ho, z, v, rfl, e⟩
    simp only [sw_ownL, sw_ownPar, seqD_l, seqD_t, lstAt, lstOf_own, lstOf_lst, ew_run, ew_ok, ew_var, ew_c, ew_op, ew_un, ew_nil, ew_cons, ew_cl, ew_toT, ew_not, ew_and, ew_or, ew_notE, ew_andE, ew_orE, ew_if, ew_ch, ew_call, ew_isi, ew_noO, ew_soO, ew_sl, ew_ownIx, ew_ownLen, ew_seqI, ew_rngI, ew_enI, ew_yes, ew_lc, sw_nx, sw_bad, sw_seq, sw_if, sw_ret, sw_drop, sw_asg, sw_aug, sw_own, sw_app, sw_ext, sw_frz, sw_forS, startR1, startR2, startR3, List.replicate, List.length_cons, List.length_nil, List.getElem?_cons_zero, List.getElem?_cons_succ, List.set_cons_zero, List.set_cons_succ, o_addI, o_subI, o_ltI, o_leI, o_gtI, o_geI, o_addII, o_eqII, o_eqSS, o_neII, o_neSS, o_eqBB, o_neBB, o_neg, o_ixT, o_ixL, atI_0, atI_1, atI_2, atI_last, o_max, o_min, o_int, o_tuple, o_list, o_lenL, o_lenT, o_tup0, o_tup1, o_tup2, o_tup3, asB_bl, asI_int, asL_lst, items_l, items_t, o_inRule, o_in23, o_in33, o_inLeast, o_inMost, o_inAdd, o_inPart, o_inEven, o_enT, o_enL, ty_n, ty_b, ty_i, ty_s, ty_t, ty_l, g_n, g_b, g_i, g_s, g_t, g_l, put1, put2, put3, Option.some.injEq, SV.dat.injEq, SV.own.injEq, exists_eq_left', exists_eq_left, Option.bind_some, Bool.not_true, Bool.not_false, if_true, if_false, ite_true, ite_false, decide_true, decide_false, Bool.false_eq_true, reduceIte, true_and, and_true, ne_eq, not_false_eq_true, not_true_eq_false]
    exact congrArg D.int e
theorem q_is_integer {i lo hi : Int} {g : G} : d_is_integer [.int i, .int lo, .int hi] g = .ok (.bl (decide (lo ≤ i ∧ i ≤ hi))) g := by
  refine ew_eq ?_
  unfold d_is_integer b_is_integer
  simp only [sw_ownL, sw_ownPar, seqD_l, seqD_t, lstAt, lstOf_own, lstOf_lst, ew_run, ew_ok, ew_var, ew_c, ew_op, ew_un, ew_nil, ew_cons, ew_cl, ew_toT, ew_not, ew_and, ew_or, ew_notE, ew_andE, ew_orE, ew_if, ew_ch, ew_call, ew_isi, ew_noO, ew_soO, ew_sl, ew_ownIx, ew_ownLen, ew_seqI, ew_rngI, ew_enI, ew_yes, ew_lc, sw_nx, sw_bad, sw_seq, sw_if, sw_ret, sw_drop, sw_asg, sw_aug, sw_own, sw_app, sw_ext, sw_frz, sw_forS, startR1, startR2, startR3, List.replicate, List.length_cons, List.length_nil, List.getElem?_cons_zero, List.getElem?_cons_succ, List.set_cons_zero, List.set_cons_succ, o_addI, o_subI, o_ltI, o_leI, o_gtI, o_geI, o_addII, o_eqII, o_eqSS, o_neII, o_neSS, o_eqBB, o_neBB, o_neg, o_ixT, o_ixL, atI_0, atI_1, atI_2, atI_last, o_max, o_min, o_int, o_tuple, o_list, o_lenL, o_lenT, o_tup0, o_tup1, o_tup2, o_tup3, asB_bl, asI_int, asL_lst, items_l, items_t, o_inRule, o_in23, o_in33, o_inLeast, o_inMost, o_inAdd, o_inPart, o_inEven, o_enT, o_enL, ty_n, ty_b, ty_i, ty_s, ty_t, ty_l, g_n, g_b, g_i, g_s, g_t, g_l, put1, put2, put3, Option.some.injEq, SV.dat.injEq, SV.own.injEq, exists_eq_left', exists_eq_left, Option.bind_some, Bool.not_true, Bool.not_false, if_true, if_false, ite_true, ite_false, decide_true, decide_false, Bool.false_eq_true, reduceIte, true_and, and_true, ne_eq, not_false_eq_true, not_true_eq_false]
  have e1 : (["int"].any fun t => subTy "int" t) = true := by decide
  have e2 : (["bool"].any fun t => subTy "int" t) = false := by decide
  simp only [sw_ownL, sw_ownPar, seqD_l, seqD_t, lstAt, lstOf_own, lstOf_lst, ew_run, ew_ok, ew_var, ew_c, ew_op, ew_un, ew_nil, ew_cons, ew_cl, ew_toT, ew_not, ew_and, ew_or, ew_notE, ew_andE, ew_orE, ew_if, ew_ch, ew_call, ew_isi, ew_noO, ew_soO, ew_sl, ew_ownIx, ew_ownLen, ew_seqI, ew_rngI, ew_enI, ew_yes, ew_lc, sw_nx, sw_bad, sw_seq, sw_if, sw_ret, sw_drop, sw_asg, sw_aug, sw_own, sw_app, sw_ext, sw_frz, sw_forS, startR1, startR2, startR3, List.replicate, List.length_cons, List.length_nil, List.getElem?_cons_zero, List.getElem?_cons_succ, List.set_cons_zero, List.set_cons_succ, o_addI, o_subI, o_ltI, o_leI, o_gtI, o_geI, o_addII, o_eqII, o_eqSS, o_neII, o_neSS, o_eqBB, o_neBB, o_neg, o_ixT, o_ixL, atI_0, atI_1, atI_2, atI_last, o_max, o_min, o_int, o_tuple, o_list, o_lenL, o_lenT, o_tup0, o_tup1, o_tup2, o_tup3, asB_bl, asI_int, asL_lst, items_l, items_t, o_inRule, o_in23, o_in33, o_inLeast, o_inMost, o_inAdd, o_inPart, o_inEven, o_enT, o_enL, ty_n, ty_b, ty_i, ty_s, ty_t, ty_l, g_n, g_b, g_i, g_s, g_t, g_l, put1, put2, put3, Option.some.injEq, SV.dat.injEq, SV.own.injEq, exists_eq_left', exists_eq_left, Option.bind_some, Bool.not_true, Bool.not_false, if_true, if_false, ite_true, ite_false, decide_true, decide_false, Bool.false_eq_true, reduceIte, true_and, and_true, ne_eq, not_false_eq_true, not_true_eq_false, e1, e2]
  by_cases h : lo ≤ i
  · by_cases h2 : i ≤ hi <;> simp [sw_ownL, sw_ownPar, seqD_l, seqD_t, lstAt, lstOf_own, lstOf_lst, ew_run, ew_ok, ew_var, ew_c, ew_op, ew_un, ew_nil, ew_cons, ew_cl, ew_toT, ew_not, ew_and, ew_or, ew_notE, ew_andE, ew_orE, ew_if, ew_ch, ew_call, ew_isi, ew_noO, ew_soO, ew_sl, ew_ownIx, ew_ownLen, ew_seqI, ew_rngI, ew_enI, ew_yes, ew_lc, sw_nx, sw_bad, sw_seq, sw_if, sw_ret, sw_drop, sw_asg, sw_aug, sw_own, sw_app, sw_ext, sw_frz, sw_forS, startR1, startR2, startR3, List.replicate, List.length_cons, List.length_nil, List.getElem?_cons_zero, List.getElem?_cons_succ, List.set_cons_zero, List.set_cons_succ, o_addI, o_subI, o_ltI, o_leI, o_gtI, o_geI, o_addII, o_eqII, o_eqSS, o_neII, o_neSS, o_eqBB, o_neBB, o_neg, o_ixT, o_ixL, atI_0, atI_1, atI_2, atI_last, o_max, o_min, o_int, o_tuple, o_list, o_lenL, o_lenT, o_tup0, o_tup1, o_tup2, o_tup3, asB_bl, asI_int, asL_lst, items_l, items_t, o_inRule, o_in23, o_in33, o_inLeast, o_inMost, o_inAdd, o_inPart, o_inEven, o_enT, o_enL, ty_n, ty_b, ty_i, ty_s, ty_t, ty_l, g_n, g_b, g_i, g_s, g_t, g_l, put1, put2, put3, Option.some.injEq, SV.dat.injEq, SV.own.injEq, exists_eq_left', exists_eq_left, Option.bind_some, Bool.not_true, Bool.not_false, if_true, if_false, ite_true, ite_false, decide_true, decide_false, Bool.false_eq_true, reduceIte, true_and, and_true, ne_eq, not_false_eq_true, not_true_eq_false, h, h2]
  · simp [sw_ownL, sw_ownPar, seqD_l, seqD_t, lstAt, lstOf_own, lstOf_lst, ew_run, ew_ok, ew_var, ew_c, ew_op, ew_un, ew_nil, ew_cons, ew_cl, ew_toT, ew_not, ew_and, ew_or, ew_notE, ew_andE, ew_orE, ew_if, ew_ch, ew_call, ew_isi, ew_noO, ew_soO, ew_sl, ew_ownIx, ew_ownLen, ew_seqI, ew_rngI, ew_enI, ew_yes, ew_lc, sw_nx, sw_bad, sw_seq, sw_if, sw_ret, sw_drop, sw_asg, sw_aug, sw_own, sw_app, sw_ext, sw_frz, sw_forS, startR1, startR2, startR3, List.replicate, List.length_cons, List.length_nil, List.getElem?_cons_zero, List.getElem?_cons_succ, List.set_cons_zero, List.set_cons_succ, o_addI, o_subI, o_ltI, o_leI, o_gtI, o_geI, o_addII, o_eqII, o_eqSS, o_neII, o_neSS, o_eqBB, o_neBB, o_neg, o_ixT, o_ixL, atI_0, atI_1, atI_2, atI_last, o_max, o_min, o_int, o_tuple, o_list, o_lenL, o_lenT, o_tup0, o_tup1, o_tup2, o_tup3, asB_bl, asI_int, asL_lst, items_l, items_t, o_inRule, o_in23, o_in33, o_inLeast, o_inMost, o_inAdd, o_inPart, o_inEven, o_enT, o_enL, ty_n, ty_b, ty_i, ty_s, ty_t, ty_l, g_n, g_b, g_i, g_s, g_t, g_l, put1, put2, put3, Option.some.injEq, SV.dat.injEq, SV.own.injEq, exists_eq_left', exists_eq_left, Option.bind_some, Bool.not_true, Bool.not_false, if_true, if_false, ite_true, ite_false, decide_true, decide_false, Bool.false_eq_true, reduceIte, true_and, and_true, ne_eq, not_false_eq_true, not_true_eq_false, h]
theorem q_is_rule {r : Rule} {g : G} : d_is_rule [.str (sRule r)] g = .ok (.bl true) g := by
  refine ew_eq ?_
  unfold d_is_rule b_is_rule
  have e1 : (["str"].any fun t => subTy "str" t) = true := by decide
  simp only [sw_ownL, sw_ownPar, seqD_l, seqD_t, lstAt, lstOf_own, lstOf_lst, ew_run, ew_ok, ew_var, ew_c, ew_op, ew_un, ew_nil, ew_cons, ew_cl, ew_toT, ew_not, ew_and, ew_or, ew_notE, ew_andE, ew_orE, ew_if, ew_ch, ew_call, ew_isi, ew_noO, ew_soO, ew_sl, ew_ownIx, ew_ownLen, ew_seqI, ew_rngI, ew_enI, ew_yes, ew_lc, sw_nx, sw_bad, sw_seq, sw_if, sw_ret, sw_drop, sw_asg, sw_aug, sw_own, sw_app, sw_ext, sw_frz, sw_forS, startR1, startR2, startR3, List.replicate, List.length_cons, List.length_nil, List.getElem?_cons_zero, List.getElem?_cons_succ, List.set_cons_zero, List.set_cons_succ, o_addI, o_subI, o_ltI, o_leI, o_gtI, o_geI, o_addII, o_eqII, o_eqSS, o_neII, o_neSS, o_eqBB, o_neBB, o_neg, o_ixT, o_ixL, atI_0, atI_1, atI_2, atI_last, o_max, o_min, o_int, o_tuple, o_list, o_lenL, o_lenT, o_tup0, o_tup1, o_tup2, o_tup3, asB_bl, asI_int, asL_lst, items_l, items_t, o_inRule, o_in23, o_in33, o_inLeast, o_inMost, o_inAdd, o_inPart, o_inEven, o_enT, o_enL, ty_n, ty_b, ty_i, ty_s, ty_t, ty_l, g_n, g_b, g_i, g_s, g_t, g_l, put1, put2, put3, Option.some.injEq, SV.dat.injEq, SV.own.injEq, exists_eq_left', exists_eq_left, Option.bind_some, Bool.not_true, Bool.not_false, if_true, if_false, ite_true, ite_false, decide_true, decide_false, Bool.false_eq_true, reduceIte, true_and, and_true, ne_eq, not_false_eq_true, not_true_eq_false, e1, and_self]
theorem q_is_step {x : TM.Step} (hx : x.ok) {g : G} : d_is_step [dStep x] g = .ok (.bl true) g := by
  refine ew_eq ?_
  unfold d_is_step b_is_step
  have e1 : (["tuple"].any fun t => subTy "tuple" t) = true := by decide
  have e2 : (["str"].any fun t => subTy "str" t) = true := by decide
  have n2 : (((0 + 1 + 1 : Nat) : Int)) = 2 := rfl
  have n3 : (((0 + 1 + 1 + 1 : Nat) : Int)) = 3 := rfl
  have d23 : ((2 : Int) = 3) = False := by simp
  cases x with
  | part p r =>
    obtain ⟨h1, h2⟩ := hx
    simp only [dStep, sw_ownL, sw_ownPar, seqD_l, seqD_t, lstAt, lstOf_own, lstOf_lst, ew_run, ew_ok, ew_var, ew_c, ew_op, ew_un, ew_nil, ew_cons, ew_cl, ew_toT, ew_not, ew_and, ew_or, ew_notE, ew_andE, ew_orE, ew_if, ew_ch, ew_call, ew_isi, ew_noO, ew_soO, ew_sl, ew_ownIx, ew_ownLen, ew_seqI, ew_rngI, ew_enI, ew_yes, ew_lc, sw_nx, sw_bad, sw_seq, sw_if, sw_ret, sw_drop, sw_asg, sw_aug, sw_own, sw_app, sw_ext, sw_frz, sw_forS, startR1, startR2, startR3, List.replicate, List.length_cons, List.length_nil, List.getElem?_cons_zero, List.getElem?_cons_succ, List.set_cons_zero, List.set_cons_succ, o_addI, o_subI, o_ltI, o_leI, o_gtI, o_geI, o_addII, o_eqII, o_eqSS, o_neII, o_neSS, o_eqBB, o_neBB, o_neg, o_ixT, o_ixL, atI_0, atI_1, atI_2, atI_last, o_max, o_min, o_int, o_tuple, o_list, o_lenL, o_lenT, o_tup0, o_tup1, o_tup2, o_tup3, asB_bl, asI_int, asL_lst, items_l, items_t, o_inRule, o_in23, o_in33, o_inLeast, o_inMost, o_inAdd, o_inPart, o_inEven, o_enT, o_enL, ty_n, ty_b, ty_i, ty_s, ty_t, ty_l, g_n, g_b, g_i, g_s, g_t, g_l, put1, put2, put3, Option.some.injEq, SV.dat.injEq, SV.own.injEq, exists_eq_left', exists_eq_left, Option.bind_some, Bool.not_true, Bool.not_false, if_true, if_false, ite_true, ite_false, decide_true, decide_false, Bool.false_eq_true, reduceIte, true_and, and_true, ne_eq, not_false_eq_true, not_true_eq_false, x_part_add, x_part_even, x_part_least, x_part_most, x_part_down, x_part_up, x_part_near, x_add_part, x_add_even, x_add_least, x_add_most, x_add_down, x_add_up, x_add_near, x_even_part, x_even_add, x_even_least, x_even_most, x_even_down, x_even_up, x_even_near, x_least_part, x_least_add, x_least_even, x_least_most, x_least_down, x_least_up, x_least_near, x_most_part, x_most_add, x_most_even, x_most_least, x_most_down, x_most_up, x_most_near, x_down_part, x_down_add, x_down_even, x_down_least, x_down_most, x_down_up, x_down_near, x_up_part, x_up_add, x_up_even, x_up_least, x_up_most, x_up_down, x_up_near, x_near_part, x_near_add, x_near_even, x_near_least, x_near_most, x_near_down, x_near_up, e1, e2, n2, n3, q_is_integer, q_is_rule, h1, h2, and_self]
  | even p r =>
    obtain ⟨h1, h2⟩ := hx
    simp only [dStep, sw_ownL, sw_ownPar, seqD_l, seqD_t, lstAt, lstOf_own, lstOf_lst, ew_run, ew_ok, ew_var, ew_c, ew_op, ew_un, ew_nil, ew_cons, ew_cl, ew_toT, ew_not, ew_and, ew_or, ew_notE, ew_andE, ew_orE, ew_if, ew_ch, ew_call, ew_isi, ew_noO, ew_soO, ew_sl, ew_ownIx, ew_ownLen, ew_seqI, ew_rngI, ew_enI, ew_yes, ew_lc, sw_nx, sw_bad, sw_seq, sw_if, sw_ret, sw_drop, sw_asg, sw_aug, sw_own, sw_app, sw_ext, sw_frz, sw_forS, startR1, startR2, startR3, List.replicate, List.length_cons, List.length_nil, List.getElem?_cons_zero, List.getElem?_cons_succ, List.set_cons_zero, List.set_cons_succ, o_addI, o_subI, o_ltI, o_leI, o_gtI, o_geI, o_addII, o_eqII, o_eqSS, o_neII, o_neSS, o_eqBB, o_neBB, o_neg, o_ixT, o_ixL, atI_0, atI_1, atI_2, atI_last, o_max, o_min, o_int, o_tuple, o_list, o_lenL, o_lenT, o_tup0, o_tup1, o_tup2, o_tup3, asB_bl, asI_int, asL_lst, items_l, items_t, o_inRule, o_in23, o_in33, o_inLeast, o_inMost, o_inAdd, o_inPart, o_inEven, o_enT, o_enL, ty_n, ty_b, ty_i, ty_s, ty_t, ty_l, g_n, g_b, g_i, g_s, g_t, g_l, put1, put2, put3, Option.some.injEq, SV.dat.injEq, SV.own.injEq, exists_eq_left', exists_eq_left, Option.bind_some, Bool.not_true, Bool.not_false, if_true, if_false, ite_true, ite_false, decide_true, decide_false, Bool.false_eq_true, reduceIte, true_and, and_true, ne_eq, not_false_eq_true, not_true_eq_false, x_part_add, x_part_even, x_part_least, x_part_most, x_part_down, x_part_up, x_part_near, x_add_part, x_add_even, x_add_least, x_add_most, x_add_down, x_add_up, x_add_near, x_even_part, x_even_add, x_even_least, x_even_most, x_even_down, x_even_up, x_even_near, x_least_part, x_least_add, x_least_even, x_least_most, x_least_down, x_least_up, x_least_near, x_most_part, x_most_add, x_most_even, x_most_least, x_most_down, x_most_up, x_most_near, x_down_part, x_down_add, x_down_even, x_down_least, x_down_most, x_down_up, x_down_near, x_up_part, x_up_add, x_up_even, x_up_least, x_up_most, x_up_down, x_up_near, x_near_part, x_near_add, x_near_even, x_near_least, x_near_most, x_near_down, x_near_up, e1, e2, n2, n3, q_is_integer, q_is_rule, h1, h2, and_self]
  | add c =>
    obtain ⟨h1, h2⟩ := hx
    simp only [dStep, sw_ownL, sw_ownPar, seqD_l, seqD_t, lstAt, lstOf_own, lstOf_lst, ew_run, ew_ok, ew_var, ew_c, ew_op, ew_un, ew_nil, ew_cons, ew_cl, ew_toT, ew_not, ew_and, ew_or, ew_notE, ew_andE, ew_orE, ew_if, ew_ch, ew_call, ew_isi, ew_noO, ew_soO, ew_sl, ew_ownIx, ew_ownLen, ew_seqI, ew_rngI, ew_enI, ew_yes, ew_lc, sw_nx, sw_bad, sw_seq, sw_if, sw_ret, sw_drop, sw_asg, sw_aug, sw_own, sw_app, sw_ext, sw_frz, sw_forS, startR1, startR2, startR3, List.replicate, List.length_cons, List.length_nil, List.getElem?_cons_zero, List.getElem?_cons_succ, List.set_cons_zero, List.set_cons_succ, o_addI, o_subI, o_ltI, o_leI, o_gtI, o_geI, o_addII, o_eqII, o_eqSS, o_neII, o_neSS, o_eqBB, o_neBB, o_neg, o_ixT, o_ixL, atI_0, atI_1, atI_2, atI_last, o_max, o_min, o_int, o_tuple, o_list, o_lenL, o_lenT, o_tup0, o_tup1, o_tup2, o_tup3, asB_bl, asI_int, asL_lst, items_l, items_t, o_inRule, o_in23, o_in33, o_inLeast, o_inMost, o_inAdd, o_inPart, o_inEven, o_enT, o_enL, ty_n, ty_b, ty_i, ty_s, ty_t, ty_l, g_n, g_b, g_i, g_s, g_t, g_l, put1, put2, put3, Option.some.injEq, SV.dat.injEq, SV.own.injEq, exists_eq_left', exists_eq_left, Option.bind_some, Bool.not_true, Bool.not_false, if_true, if_false, ite_true, ite_false, decide_true, decide_false, Bool.false_eq_true, reduceIte, true_and, and_true, ne_eq, not_false_eq_true, not_true_eq_false, x_part_add, x_part_even, x_part_least, x_part_most, x_part_down, x_part_up, x_part_near, x_add_part, x_add_even, x_add_least, x_add_most, x_add_down, x_add_up, x_add_near, x_even_part, x_even_add, x_even_least, x_even_most, x_even_down, x_even_up, x_even_near, x_least_part, x_least_add, x_least_even, x_least_most, x_least_down, x_least_up, x_least_near, x_most_part, x_most_add, x_most_even, x_most_least, x_most_down, x_most_up, x_most_near, x_down_part, x_down_add, x_down_even, x_down_least, x_down_most, x_down_up, x_down_near, x_up_part, x_up_add, x_up_even, x_up_least, x_up_most, x_up_down, x_up_near, x_near_part, x_near_add, x_near_even, x_near_least, x_near_most, x_near_down, x_near_up, e1, e2, n2, n3, d23, q_is_integer, h1, h2, and_self]
  | least c =>
    obtain ⟨h1, h2⟩ := hx
    simp only [dStep, sw_ownL, sw_ownPar, seqD_l, seqD_t, lstAt, lstOf_own, lstOf_lst, ew_run, ew_ok, ew_var, ew_c, ew_op, ew_un, ew_nil, ew_cons, ew_cl, ew_toT, ew_not, ew_and, ew_or, ew_notE, ew_andE, ew_orE, ew_if, ew_ch, ew_call, ew_isi, ew_noO, ew_soO, ew_sl, ew_ownIx, ew_ownLen, ew_seqI, ew_rngI, ew_enI, ew_yes, ew_lc, sw_nx, sw_bad, sw_seq, sw_if, sw_ret, sw_drop, sw_asg, sw_aug, sw_own, sw_app, sw_ext, sw_frz, sw_forS, startR1, startR2, startR3, List.replicate, List.length_cons, List.length_nil, List.getElem?_cons_zero, List.getElem?_cons_succ, List.set_cons_zero, List.set_cons_succ, o_addI, o_subI, o_ltI, o_leI, o_gtI, o_geI, o_addII, o_eqII, o_eqSS, o_neII, o_neSS, o_eqBB, o_neBB, o_neg, o_ixT, o_ixL, atI_0, atI_1, atI_2, atI_last, o_max, o_min, o_int, o_tuple, o_list, o_lenL, o_lenT, o_tup0, o_tup1, o_tup2, o_tup3, asB_bl, asI_int, asL_lst, items_l, items_t, o_inRule, o_in23, o_in33, o_inLeast, o_inMost, o_inAdd, o_inPart, o_inEven, o_enT, o_enL, ty_n, ty_b, ty_i, ty_s, ty_t, ty_l, g_n, g_b, g_i, g_s, g_t, g_l, put1, put2, put3, Option.some.injEq, SV.dat.injEq, SV.own.injEq, exists_eq_left', exists_eq_left, Option.bind_some, Bool.not_true, Bool.not_false, if_true, if_false, ite_true, ite_false, decide_true, decide_false, Bool.false_eq_true, reduceIte, true_and, and_true, ne_eq, not_false_eq_true, not_true_eq_false, x_part_add, x_part_even, x_part_least, x_part_most, x_part_down, x_part_up, x_part_near, x_add_part, x_add_even, x_add_least, x_add_most, x_add_down, x_add_up, x_add_near, x_even_part, x_even_add, x_even_least, x_even_most, x_even_down, x_even_up, x_even_near, x_least_part, x_least_add, x_least_even, x_least_most, x_least_down, x_least_up, x_least_near, x_most_part, x_most_add, x_most_even, x_most_least, x_most_down, x_most_up, x_most_near, x_down_part, x_down_add, x_down_even, x_down_least, x_down_most, x_down_up, x_down_near, x_up_part, x_up_add, x_up_even, x_up_least, x_up_most, x_up_down, x_up_near, x_near_part, x_near_add, x_near_even, x_near_least, x_near_most, x_near_down, x_near_up, e1, e2, n2, n3, d23, q_is_integer, h1, h2, and_self]
  | most c =>
    obtain ⟨h1, h2⟩ := hx
    simp only [dStep, sw_ownL, sw_ownPar, seqD_l, seqD_t, lstAt, lstOf_own, lstOf_lst, ew_run, ew_ok, ew_var, ew_c, ew_op, ew_un, ew_nil, ew_cons, ew_cl, ew_toT, ew_not, ew_and, ew_or, ew_notE, ew_andE, ew_orE, ew_if, ew_ch, ew_call, ew_isi, ew_noO, ew_soO, ew_sl, ew_ownIx, ew_ownLen, ew_seqI, ew_rngI, ew_enI, ew_yes, ew_lc, sw_nx, sw_bad, sw_seq, sw_if, sw_ret, sw_drop, sw_asg, sw_aug, sw_own, sw_app, sw_ext, sw_frz, sw_forS, startR1, startR2, startR3, List.replicate, List.length_cons, List.length_nil, List.getElem?_cons_zero, List.getElem?_cons_succ, List.set_cons_zero, List.set_cons_succ, o_addI, o_subI, o_ltI, o_leI, o_gtI, o_geI, o_addII, o_eqII, o_eqSS, o_neII, o_neSS, o_eqBB, o_neBB, o_neg, o_ixT, o_ixL, atI_0, atI_1, atI_2, atI_last, o_max, o_min, o_int, o_tuple, o_list, o_lenL, o_lenT, o_tup0, o_tup1, o_tup2, o_tup3, asB_bl, asI_int, asL_lst, items_l, items_t, o_inRule, o_in23, o_in33, o_inLeast, o_inMost, o_inAdd, o_inPart, o_inEven, o_enT, o_enL, ty_n, ty_b, ty_i, ty_s, ty_t, ty_l, g_n, g_b, g_i, g_s, g_t, g_l, put1, put2, put3, Option.some.injEq, SV.dat.injEq, SV.own.injEq, exists_eq_left', exists_eq_left, Option.bind_some, Bool.not_true, Bool.not_false, if_true, if_false, ite_true, ite_false, decide_true, decide_false, Bool.false_eq_true, reduceIte, true_and, and_true, ne_eq, not_false_eq_true, not_true_eq_false, x_part_add, x_part_even, x_part_least, x_part_most, x_part_down, x_part_up, x_part_near, x_add_part, x_add_even, x_add_least, x_add_most, x_add_down, x_add_up, x_add_near, x_even_part, x_even_add, x_even_least, x_even_most, x_even_down, x_even_up, x_even_near, x_least_part, x_least_add, x_least_even, x_least_most, x_least_down, x_least_up, x_least_near, x_most_part, x_most_add, x_most_even, x_most_least, x_most_down, x_most_up, x_most_near, x_down_part, x_down_add, x_down_even, x_down_least, x_down_most, x_down_up, x_down_near, x_up_part, x_up_add, x_up_even, x_up_least, x_up_most, x_up_down, x_up_near, x_near_part, x_near_add, x_near_even, x_near_least, x_near_most, x_near_down, x_near_up, e1, e2, n2, n3, d23, q_is_integer, h1, h2, and_self]
theorem q_check_steps {s : Steps} (hs : Ok s) (hl : s.length ≤ 6) {g : G} : d_check_steps [dS s] g = .ok .non g := by
  refine ew_eq ?_
  unfold d_check_steps b_check_steps
  have e1 : (["tuple"].any fun t => subTy "tuple" t) = true := by decide
  have e2 : ¬ (6 : Int) < (s.length : Int) := by omega
  simp only [sw_ownL, sw_ownPar, seqD_l, seqD_t, lstAt, lstOf_own, lstOf_lst, ew_run, ew_ok, ew_var, ew_c, ew_op, ew_un, ew_nil, ew_cons, ew_cl, ew_toT, ew_not, ew_and, ew_or, ew_notE, ew_andE, ew_orE, ew_if, ew_ch, ew_call, ew_isi, ew_noO, ew_soO, ew_sl, ew_ownIx, ew_ownLen, ew_seqI, ew_rngI, ew_enI, ew_yes, ew_lc, sw_nx, sw_bad, sw_seq, sw_if, sw_ret, sw_drop, sw_asg, sw_aug, sw_own, sw_app, sw_ext, sw_frz, sw_forS, startR1, startR2, startR3, List.replicate, List.length_cons, List.length_nil, List.getElem?_cons_zero, List.getElem?_cons_succ, List.set_cons_zero, List.set_cons_succ, o_addI, o_subI, o_ltI, o_leI, o_gtI, o_geI, o_addII, o_eqII, o_eqSS, o_neII, o_neSS, o_eqBB, o_neBB, o_neg, o_ixT, o_ixL, atI_0, atI_1, atI_2, atI_last, o_max, o_min, o_int, o_tuple, o_list, o_lenL, o_lenT, o_tup0, o_tup1, o_tup2, o_tup3, asB_bl, asI_int, asL_lst, items_l, items_t, o_inRule, o_in23, o_in33, o_inLeast, o_inMost, o_inAdd, o_inPart, o_inEven, o_enT, o_enL, ty_n, ty_b, ty_i, ty_s, ty_t, ty_l, g_n, g_b, g_i, g_s, g_t, g_l, put1, put2, put3, Option.some.injEq, SV.dat.injEq, SV.own.injEq, exists_eq_left', exists_eq_left, Option.bind_some, Bool.not_true, Bool.not_false, if_true, if_false, ite_true, ite_false, decide_true, decide_false, Bool.false_eq_true, reduceIte, true_and, and_true, ne_eq, not_false_eq_true, not_true_eq_false, e1, List.length_map, e2]
  rw [enumD_map]
  refine sw_forM (fun p : TM.Step × Nat => .tup [.int (0 + (p.2 : Nat)), dStep p.1]) (fun l ρ g' => g' = g ∧ (∀ p ∈ l, p.1.ok) ∧ ∃ u v, ρ = [some (.dat (dS s)), u, v]) ?_ ?_ (ds := s.zipIdx) ⟨rfl, fun p hp => hs _ (List.fst_mem_of_mem_zipIdx hp), none, none, rfl⟩
  · rintro ⟨x, n⟩ ds ρ g' ⟨rfl, ho, u, v, rfl⟩
    refine ⟨_, put2, ?_⟩
    simp only [sw_ownL, sw_ownPar, seqD_l, seqD_t, lstAt, lstOf_own, lstOf_lst, ew_run, ew_ok, ew_var, ew_c, ew_op, ew_un, ew_nil, ew_cons, ew_cl, ew_toT, ew_not, ew_and, ew_or, ew_notE, ew_andE, ew_orE, ew_if, ew_ch, ew_call, ew_isi, ew_noO, ew_soO, ew_sl, ew_ownIx, ew_ownLen, ew_seqI, ew_rngI, ew_enI, ew_yes, ew_lc, sw_nx, sw_bad, sw_seq, sw_if, sw_ret, sw_drop, sw_asg, sw_aug, sw_own, sw_app, sw_ext, sw_frz, sw_forS, startR1, startR2, startR3, List.replicate, List.length_cons, List.length_nil, List.getElem?_cons_zero, List.getElem?_cons_succ, List.set_cons_zero, List.set_cons_succ, o_addI, o_subI, o_ltI, o_leI, o_gtI, o_geI, o_addII, o_eqII, o_eqSS, o_neII, o_neSS, o_eqBB, o_neBB, o_neg, o_ixT, o_ixL, atI_0, atI_1, atI_2, atI_last, o_max, o_min, o_int, o_tuple, o_list, o_lenL, o_lenT, o_tup0, o_tup1, o_tup2, o_tup3, asB_bl, asI_int, asL_lst, items_l, items_t, o_inRule, o_in23, o_in33, o_inLeast, o_inMost, o_inAdd, o_inPart, o_inEven, o_enT, o_enL, ty_n, ty_b, ty_i, ty_s, ty_t, ty_l, g_n, g_b, g_i, g_s, g_t, g_l, put1, put2, put3, Option.some.injEq, SV.dat.injEq, SV.own.injEq, exists_eq_left', exists_eq_left, Option.bind_some, Bool.not_true, Bool.not_false, if_true, if_false, ite_true, ite_false, decide_true, decide_false, Bool.false_eq_true, reduceIte, true_and, and_true, ne_eq, not_false_eq_true, not_true_eq_false, q_is_step (ho _ List.mem_cons_self)]
    exact ⟨fun p hp => ho p (List.mem_cons_of_mem _ hp), _, _, rfl⟩
  · rintro ρ g' ⟨rfl, ho, u, v, rfl⟩
    exact rfl
/-- a value is no steps -/
def badX (i : D) : Xc := ⟨("BadSteps" : Str), [(("index" : Str), i)]⟩
theorem q_check_not {d : D} (hg : isG d = false) (ht : (["tuple"].any fun t => subTy (tyN d) t) = false) {g : G} : d_check_steps [d] g = .err (badX .non) g := by
  refine ex_eq ?_
  unfold d_check_steps b_check_steps
  simp only [sw_ownL, sw_ownPar, seqD_l, seqD_t, lstAt, lstOf_own, lstOf_lst, ew_run, ew_ok, ew_var, ew_c, ew_op, ew_un, ew_nil, ew_cons, ew_cl, ew_toT, ew_not, ew_and, ew_or, ew_notE, ew_andE, ew_orE, ew_if, ew_ch, ew_call, ew_isi, ew_noO, ew_soO, ew_sl, ew_ownIx, ew_ownLen, ew_seqI, ew_rngI, ew_enI, ew_yes, ew_lc, sw_nx, sw_bad, sw_seq, sw_if, sw_ret, sw_drop, sw_asg, sw_aug, sw_own, sw_app, sw_ext, sw_frz, sw_forS, startR1, startR2, startR3, List.replicate, List.length_cons, List.length_nil, List.getElem?_cons_zero, List.getElem?_cons_succ, List.set_cons_zero, List.set_cons_succ, o_addI, o_subI, o_ltI, o_leI, o_gtI, o_geI, o_addII, o_eqII, o_eqSS, o_neII, o_neSS, o_eqBB, o_neBB, o_neg, o_ixT, o_ixL, atI_0, atI_1, atI_2, atI_last, o_max, o_min, o_int, o_tuple, o_list, o_lenL, o_lenT, o_tup0, o_tup1, o_tup2, o_tup3, asB_bl, asI_int, asL_lst, items_l, items_t, o_inRule, o_in23, o_in33, o_inLeast, o_inMost, o_inAdd, o_inPart, o_inEven, o_enT, o_enL, ty_n, ty_b, ty_i, ty_s, ty_t, ty_l, g_n, g_b, g_i, g_s, g_t, g_l, put1, put2, put3, Option.some.injEq, SV.dat.injEq, SV.own.injEq, exists_eq_left', exists_eq_left, Option.bind_some, Bool.not_true, Bool.not_false, if_true, if_false, ite_true, ite_false, decide_true, decide_false, Bool.false_eq_true, reduceIte, true_and, and_true, ne_eq, not_false_eq_true, not_true_eq_false, sw_try, sw_raise, sx_raise, ex_ok, ex_bad, ex_err, ex_var, ex_c, ex_op, ex_un, ex_nil, ex_cons, ex_cl, ex_toT, ex_not, ex_and, ex_or, ex_notE, ex_andE, ex_orE, ex_if, ex_ch, ex_call, ex_run, ex_isi, ex_noO, ex_soO, ex_sl, ex_ownIx, ex_ownLen, ex_seqI, ex_rngI, ex_enI, ex_yes, ex_lc, sx_nx, sx_bad, sx_seq, sx_if, sx_ret, sx_drop, sx_asg, sx_aug, sx_own, sx_app, sx_ext, sx_frz, sx_forS, ew_err, ew_bad, true_or, or_true, false_or, or_false, and_false, false_and, exists_false, exists_const, exists_eq', exists_eq, ew_no, hg, ht]
  exact ⟨_, rfl, rfl⟩
theorem q_check_long {xs : List D} (h : 6 < xs.length) {g : G} : d_check_steps [.tup xs] g = .err (badX .non) g := by
  refine ex_eq ?_
  unfold d_check_steps b_check_steps
  have e1 : (["tuple"].any fun t => subTy "tuple" t) = true := by decide
  have e2 : (6 : Int) < (xs.length : Int) := by omega
  simp only [sw_ownL, sw_ownPar, seqD_l, seqD_t, lstAt, lstOf_own, lstOf_lst, ew_run, ew_ok, ew_var, ew_c, ew_op, ew_un, ew_nil, ew_cons, ew_cl, ew_toT, ew_not, ew_and, ew_or, ew_notE, ew_andE, ew_orE, ew_if, ew_ch, ew_call, ew_isi, ew_noO, ew_soO, ew_sl, ew_ownIx, ew_ownLen, ew_seqI, ew_rngI, ew_enI, ew_yes, ew_lc, sw_nx, sw_bad, sw_seq, sw_if, sw_ret, sw_drop, sw_asg, sw_aug, sw_own, sw_app, sw_ext, sw_frz, sw_forS, startR1, startR2, startR3, List.replicate, List.length_cons, List.length_nil, List.getElem?_cons_zero, List.getElem?_cons_succ, List.set_cons_zero, List.set_cons_succ, o_addI, o_subI, o_ltI, o_leI, o_gtI, o_geI, o_addII, o_eqII, o_eqSS, o_neII, o_neSS, o_eqBB, o_neBB, o_neg, o_ixT, o_ixL, atI_0, atI_1, atI_2, atI_last, o_max, o_min, o_int, o_tuple, o_list, o_lenL, o_lenT, o_tup0, o_tup1, o_tup2, o_tup3, asB_bl, asI_int, asL_lst, items_l, items_t, o_inRule, o_in23, o_in33, o_inLeast, o_inMost, o_inAdd, o_inPart, o_inEven, o_enT, o_enL, ty_n, ty_b, ty_i, ty_s, ty_t, ty_l, g_n, g_b, g_i, g_s, g_t, g_l, put1, put2, put3, Option.some.injEq, SV.dat.injEq, SV.own.injEq, exists_eq_left', exists_eq_left, Option.bind_some, Bool.not_true, Bool.not_false, if_true, if_false, ite_true, ite_false, decide_true, decide_false, Bool.false_eq_true, reduceIte, true_and, and_true, ne_eq, not_false_eq_true, not_true_eq_false, sw_try, sw_raise, sx_raise, ex_ok, ex_bad, ex_err, ex_var, ex_c, ex_op, ex_un, ex_nil, ex_cons, ex_cl, ex_toT, ex_not, ex_and, ex_or, ex_notE, ex_andE, ex_orE, ex_if, ex_ch, ex_call, ex_run, ex_isi, ex_noO, ex_soO, ex_sl, ex_ownIx, ex_ownLen, ex_seqI, ex_rngI, ex_enI, ex_yes, ex_lc, sx_nx, sx_bad, sx_seq, sx_if, sx_ret, sx_drop, sx_asg, sx_aug, sx_own, sx_app, sx_ext, sx_frz, sx_forS, ew_err, ew_bad, true_or, or_true, false_or, or_false, and_false, false_and, exists_false, exists_const, exists_eq', exists_eq, ew_no, e1, e2]
  exact ⟨_, rfl, rfl⟩
theorem q_check_at {xs : List D} {isB : D → Bool} (hl : xs.length ≤ 6) (he : ∀ x ∈ xs, ∀ g, d_is_step [x] g = .ok (.bl (isB x)) g) {i : Nat} {x : D} (hi : xs[i]? = some x) (hb : isB x = false) (hj : ∀ j y, j < i → xs[j]? = some y → isB y = true) {g : G} : d_check_steps [.tup xs] g = .err (badX (.int i)) g := by
  refine ex_eq ?_
  unfold d_check_steps b_check_steps
  have e1 : (["tuple"].any fun t => subTy "tuple" t) = true := by decide
  have e2 : ¬ (6 : Int) < (xs.length : Int) := by omega
  have hx := he x (List.mem_of_getElem? hi)
  simp only [sw_ownL, sw_ownPar, seqD_l, seqD_t, lstAt, lstOf_own, lstOf_lst, ew_run, ew_ok, ew_var, ew_c, ew_op, ew_un, ew_nil, ew_cons, ew_cl, ew_toT, ew_not, ew_and, ew_or, ew_notE, ew_andE, ew_orE, ew_if, ew_ch, ew_call, ew_isi, ew_noO, ew_soO, ew_sl, ew_ownIx, ew_ownLen, ew_seqI, ew_rngI, ew_enI, ew_yes, ew_lc, sw_nx, sw_bad, sw_seq, sw_if, sw_ret, sw_drop, sw_asg, sw_aug, sw_own, sw_app, sw_ext, sw_frz, sw_forS, startR1, startR2, startR3, List.replicate, List.length_cons, List.length_nil, List.getElem?_cons_zero, List.getElem?_cons_succ, List.set_cons_zero, List.set_cons_succ, o_addI, o_subI, o_ltI, o_leI, o_gtI, o_geI, o_addII, o_eqII, o_eqSS, o_neII, o_neSS, o_eqBB, o_neBB, o_neg, o_ixT, o_ixL, atI_0, atI_1, atI_2, atI_last, o_max, o_min, o_int, o_tuple, o_list, o_lenL, o_lenT, o_tup0, o_tup1, o_tup2, o_tup3, asB_bl, asI_int, asL_lst, items_l, items_t, o_inRule, o_in23, o_in33, o_inLeast, o_inMost, o_inAdd, o_inPart, o_inEven, o_enT, o_enL, ty_n, ty_b, ty_i, ty_s, ty_t, ty_l, g_n, g_b, g_i, g_s, g_t, g_l, put1, put2, put3, Option.some.injEq, SV.dat.injEq, SV.own.injEq, exists_eq_left', exists_eq_left, Option.bind_some, Bool.not_true, Bool.not_false, if_true, if_false, ite_true, ite_false, decide_true, decide_false, Bool.false_eq_true, reduceIte, true_and, and_true, ne_eq, not_false_eq_true, not_true_eq_false, sw_try, sw_raise, sx_raise, ex_ok, ex_bad, ex_err, ex_var, ex_c, ex_op, ex_un, ex_nil, ex_cons, ex_cl, ex_toT, ex_not, ex_and, ex_or, ex_notE, ex_andE, ex_orE, ex_if, ex_ch, ex_call, ex_run, ex_isi, ex_noO, ex_soO, ex_sl, ex_ownIx, ex_ownLen, ex_seqI, ex_rngI, ex_enI, ex_yes, ex_lc, sx_nx, sx_bad, sx_seq, sx_if, sx_ret, sx_drop, sx_asg, sx_aug, sx_own, sx_app, sx_ext, sx_frz, sx_forS, ew_err, ew_bad, true_or, or_true, false_or, or_false, and_false, false_and, exists_false, exists_const, exists_eq', exists_eq, ew_no, e1, e2]
  have em : enumD 0 xs = xs.zipIdx.map fun p => .tup [.int (0 + (p.2 : Nat)), p.1] := by
    have := enumD_map (f := fun d : D => d) (k0 := 0) xs
    rw [List.map_id'] at this
    exact this
  rw [em]
  refine sx_at (fun p : D × Nat => D.tup [.int (0 + (p.2 : Nat)), p.1]) (xs := xs.zipIdx) (fun k ρ g' => g' = g ∧ k ≤ i ∧ ∃ u v, ρ = [some (.dat (.tup xs)), u, v]) ?_ ?_ ⟨rfl, Nat.zero_le _, none, none, rfl⟩
  · rintro k ⟨y, n⟩ ρ g' hk ⟨rfl, hki, u, v, rfl⟩
    obtain ⟨hy, rfl⟩ := zip_at hk
    refine ⟨_, put2, ?_⟩
    by_cases q : n = i
    · subst q
      rw [hi] at hy
      cases hy
      left
      simp only [sw_ownL, sw_ownPar, seqD_l, seqD_t, lstAt, lstOf_own, lstOf_lst, ew_run, ew_ok, ew_var, ew_c, ew_op, ew_un, ew_nil, ew_cons, ew_cl, ew_toT, ew_not, ew_and, ew_or, ew_notE, ew_andE, ew_orE, ew_if, ew_ch, ew_call, ew_isi, ew_noO, ew_soO, ew_sl, ew_ownIx, ew_ownLen, ew_seqI, ew_rngI, ew_enI, ew_yes, ew_lc, sw_nx, sw_bad, sw_seq, sw_if, sw_ret, sw_drop, sw_asg, sw_aug, sw_own, sw_app, sw_ext, sw_frz, sw_forS, startR1, startR2, startR3, List.replicate, List.length_cons, List.length_nil, List.getElem?_cons_zero, List.getElem?_cons_succ, List.set_cons_zero, List.set_cons_succ, o_addI, o_subI, o_ltI, o_leI, o_gtI, o_geI, o_addII, o_eqII, o_eqSS, o_neII, o_neSS, o_eqBB, o_neBB, o_neg, o_ixT, o_ixL, atI_0, atI_1, atI_2, atI_last, o_max, o_min, o_int, o_tuple, o_list, o_lenL, o_lenT, o_tup0, o_tup1, o_tup2, o_tup3, asB_bl, asI_int, asL_lst, items_l, items_t, o_inRule, o_in23, o_in33, o_inLeast, o_inMost, o_inAdd, o_inPart, o_inEven, o_enT, o_enL, ty_n, ty_b, ty_i, ty_s, ty_t, ty_l, g_n, g_b, g_i, g_s, g_t, g_l, put1, put2, put3, Option.some.injEq, SV.dat.injEq, SV.own.injEq, exists_eq_left', exists_eq_left, Option.bind_some, Bool.not_true, Bool.not_false, if_true, if_false, ite_true, ite_false, decide_true, decide_false, Bool.false_eq_true, reduceIte, true_and, and_true, ne_eq, not_false_eq_true, not_true_eq_false, sw_try, sw_raise, sx_raise, ex_ok, ex_bad, ex_err, ex_var, ex_c, ex_op, ex_un, ex_nil, ex_cons, ex_cl, ex_toT, ex_not, ex_and, ex_or, ex_notE, ex_andE, ex_orE, ex_if, ex_ch, ex_call, ex_run, ex_isi, ex_noO, ex_soO, ex_sl, ex_ownIx, ex_ownLen, ex_seqI, ex_rngI, ex_enI, ex_yes, ex_lc, sx_nx, sx_bad, sx_seq, sx_if, sx_ret, sx_drop, sx_asg, sx_aug, sx_own, sx_app, sx_ext, sx_frz, sx_forS, ew_err, ew_bad, true_or, or_true, false_or, or_false, and_false, false_and, exists_false, exists_const, exists_eq', exists_eq, ew_no, hx, hb, Int.zero_add]
      exact ⟨_, rfl, rfl⟩
    · right
      simp only [sw_ownL, sw_ownPar, seqD_l, seqD_t, lstAt, lstOf_own, lstOf_lst, ew_run, ew_ok, ew_var, ew_c, ew_op, ew_un, ew_nil, ew_cons, ew_cl, ew_toT, ew_not, ew_and, ew_or, ew_notE, ew_andE, ew_orE, ew_if, ew_ch, ew_call, ew_isi, ew_noO, ew_soO, ew_sl, ew_ownIx, ew_ownLen, ew_seqI, ew_rngI, ew_enI, ew_yes, ew_lc, sw_nx, sw_bad, sw_seq, sw_if, sw_ret, sw_drop, sw_asg, sw_aug, sw_own, sw_app, sw_ext, sw_frz, sw_forS, startR1, startR2, startR3, List.replicate, List.length_cons, List.length_nil, List.getElem?_cons_zero, List.getElem?_cons_succ, List.set_cons_zero, List.set_cons_succ, o_addI, o_subI, o_ltI, o_leI, o_gtI, o_geI, o_addII, o_eqII, o_eqSS, o_neII, o_neSS, o_eqBB, o_neBB, o_neg, o_ixT, o_ixL, atI_0, atI_1, atI_2, atI_last, o_max, o_min, o_int, o_tuple, o_list, o_lenL, o_lenT, o_tup0, o_tup1, o_tup2, o_tup3, asB_bl, asI_int, asL_lst, items_l, items_t, o_inRule, o_in23, o_in33, o_inLeast, o_inMost, o_inAdd, o_inPart, o_inEven, o_enT, o_enL, ty_n, ty_b, ty_i, ty_s, ty_t, ty_l, g_n, g_b, g_i, g_s, g_t, g_l, put1, put2, put3, Option.some.injEq, SV.dat.injEq, SV.own.injEq, exists_eq_left', exists_eq_left, Option.bind_some, Bool.not_true, Bool.not_false, if_true, if_false, ite_true, ite_false, decide_true, decide_false, Bool.false_eq_true, reduceIte, true_and, and_true, ne_eq, not_false_eq_true, not_true_eq_false, sw_try, sw_raise, sx_raise, ex_ok, ex_bad, ex_err, ex_var, ex_c, ex_op, ex_un, ex_nil, ex_cons, ex_cl, ex_toT, ex_not, ex_and, ex_or, ex_notE, ex_andE, ex_orE, ex_if, ex_ch, ex_call, ex_run, ex_isi, ex_noO, ex_soO, ex_sl, ex_ownIx, ex_ownLen, ex_seqI, ex_rngI, ex_enI, ex_yes, ex_lc, sx_nx, sx_bad, sx_seq, sx_if, sx_ret, sx_drop, sx_asg, sx_aug, sx_own, sx_app, sx_ext, sx_frz, sx_forS, ew_err, ew_bad, true_or, or_true, false_or, or_false, and_false, false_and, exists_false, exists_const, exists_eq', exists_eq, ew_no, he y (List.mem_of_getElem? hy), hj n y (by omega) hy]
      exact ⟨by omega, _, _, rfl⟩
  · rintro ρ g' ⟨rfl, hki, _⟩
    have := (List.getElem?_eq_some_iff.mp hi).1
    simp at hki
    omega
theorem q_check_price {p : Int} (h0 : 0 ≤ p) (h1 : p ≤ 10 ^ 30) {g : G} : d_check_price [.int p] g = .ok .non g := by
  refine ew_eq ?_
  unfold d_check_price b_check_price
  have h1' : p ≤ 1000000000000000000000000000000 := h1
  simp only [sw_ownL, sw_ownPar, seqD_l, seqD_t, lstAt, lstOf_own, lstOf_lst, ew_run, ew_ok, ew_var, ew_c, ew_op, ew_un, ew_nil, ew_cons, ew_cl, ew_toT, ew_not, ew_and, ew_or, ew_notE, ew_andE, ew_orE, ew_if, ew_ch, ew_call, ew_isi, ew_noO, ew_soO, ew_sl, ew_ownIx, ew_ownLen, ew_seqI, ew_rngI, ew_enI, ew_yes, ew_lc, sw_nx, sw_bad, sw_seq, sw_if, sw_ret, sw_drop, sw_asg, sw_aug, sw_own, sw_app, sw_ext, sw_frz, sw_forS, startR1, startR2, startR3, List.replicate, List.length_cons, List.length_nil, List.getElem?_cons_zero, List.getElem?_cons_succ, List.set_cons_zero, List.set_cons_succ, o_addI, o_subI, o_ltI, o_leI, o_gtI, o_geI, o_addII, o_eqII, o_eqSS, o_neII, o_neSS, o_eqBB, o_neBB, o_neg, o_ixT, o_ixL, atI_0, atI_1, atI_2, atI_last, o_max, o_min, o_int, o_tuple, o_list, o_lenL, o_lenT, o_tup0, o_tup1, o_tup2, o_tup3, asB_bl, asI_int, asL_lst, items_l, items_t, o_inRule, o_in23, o_in33, o_inLeast, o_inMost, o_inAdd, o_inPart, o_inEven, o_enT, o_enL, ty_n, ty_b, ty_i, ty_s, ty_t, ty_l, g_n, g_b, g_i, g_s, g_t, g_l, put1, put2, put3, Option.some.injEq, SV.dat.injEq, SV.own.injEq, exists_eq_left', exists_eq_left, Option.bind_some, Bool.not_true, Bool.not_false, if_true, if_false, ite_true, ite_false, decide_true, decide_false, Bool.false_eq_true, reduceIte, true_and, and_true, ne_eq, not_false_eq_true, not_true_eq_false, q_is_integer, h0, h1', and_self]
theorem q_pay {s : Steps} (hs : Ok s) (hl : s.length ≤ 6) {p : Int} (h0 : 0 ≤ p) (h1 : p ≤ 10 ^ 30) {g : G} : d_pay [dS s, .int p] g = .ok (.int (paid s p)) g := by
  refine ew_eq ?_
  unfold d_pay b_pay
  simp only [sw_ownL, sw_ownPar, seqD_l, seqD_t, lstAt, lstOf_own, lstOf_lst, ew_run, ew_ok, ew_var, ew_c, ew_op, ew_un, ew_nil, ew_cons, ew_cl, ew_toT, ew_not, ew_and, ew_or, ew_notE, ew_andE, ew_orE, ew_if, ew_ch, ew_call, ew_isi, ew_noO, ew_soO, ew_sl, ew_ownIx, ew_ownLen, ew_seqI, ew_rngI, ew_enI, ew_yes, ew_lc, sw_nx, sw_bad, sw_seq, sw_if, sw_ret, sw_drop, sw_asg, sw_aug, sw_own, sw_app, sw_ext, sw_frz, sw_forS, startR1, startR2, startR3, List.replicate, List.length_cons, List.length_nil, List.getElem?_cons_zero, List.getElem?_cons_succ, List.set_cons_zero, List.set_cons_succ, o_addI, o_subI, o_ltI, o_leI, o_gtI, o_geI, o_addII, o_eqII, o_eqSS, o_neII, o_neSS, o_eqBB, o_neBB, o_neg, o_ixT, o_ixL, atI_0, atI_1, atI_2, atI_last, o_max, o_min, o_int, o_tuple, o_list, o_lenL, o_lenT, o_tup0, o_tup1, o_tup2, o_tup3, asB_bl, asI_int, asL_lst, items_l, items_t, o_inRule, o_in23, o_in33, o_inLeast, o_inMost, o_inAdd, o_inPart, o_inEven, o_enT, o_enL, ty_n, ty_b, ty_i, ty_s, ty_t, ty_l, g_n, g_b, g_i, g_s, g_t, g_l, put1, put2, put3, Option.some.injEq, SV.dat.injEq, SV.own.injEq, exists_eq_left', exists_eq_left, Option.bind_some, Bool.not_true, Bool.not_false, if_true, if_false, ite_true, ite_false, decide_true, decide_false, Bool.false_eq_true, reduceIte, true_and, and_true, ne_eq, not_false_eq_true, not_true_eq_false, q_check_steps hs hl, q_check_price h0 h1, q_paid hs, and_self]
theorem q__law_round {a u : Int} {r : Rule} {g : G} (h0 : 0 < u) (h1 : u < 500000000) : d__law_round [.int a, .int u, .str (sRule r)] g = .ok (.int (rnd a u r)) g := by
  refine ew_eq ?_
  unfold d__law_round b__law_round
  have h4 : u < 1073741824 := by omega
  have e1 := Int.mul_ediv_add_emod a u
  have e2 := Int.emod_nonneg a (show u ≠ 0 by omega)
  have e3 := Int.emod_lt_of_pos a h0
  cases r with
  | down =>
    simp only [sRule, rnd, sw_ownL, sw_ownPar, seqD_l, seqD_t, lstAt, lstOf_own, lstOf_lst, ew_run, ew_ok, ew_var, ew_c, ew_op, ew_un, ew_nil, ew_cons, ew_cl, ew_toT, ew_not, ew_and, ew_or, ew_notE, ew_andE, ew_orE, ew_if, ew_ch, ew_call, ew_isi, ew_noO, ew_soO, ew_sl, ew_ownIx, ew_ownLen, ew_seqI, ew_rngI, ew_enI, ew_yes, ew_lc, sw_nx, sw_bad, sw_seq, sw_if, sw_ret, sw_drop, sw_asg, sw_aug, sw_own, sw_app, sw_ext, sw_frz, sw_forS, startR1, startR2, startR3, List.replicate, List.length_cons, List.length_nil, List.getElem?_cons_zero, List.getElem?_cons_succ, List.set_cons_zero, List.set_cons_succ, o_addI, o_subI, o_ltI, o_leI, o_gtI, o_geI, o_addII, o_eqII, o_eqSS, o_neII, o_neSS, o_eqBB, o_neBB, o_neg, o_ixT, o_ixL, atI_0, atI_1, atI_2, atI_last, o_max, o_min, o_int, o_tuple, o_list, o_lenL, o_lenT, o_tup0, o_tup1, o_tup2, o_tup3, asB_bl, asI_int, asL_lst, items_l, items_t, o_inRule, o_in23, o_in33, o_inLeast, o_inMost, o_inAdd, o_inPart, o_inEven, o_enT, o_enL, ty_n, ty_b, ty_i, ty_s, ty_t, ty_l, g_n, g_b, g_i, g_s, g_t, g_l, put1, put2, put3, Option.some.injEq, SV.dat.injEq, SV.own.injEq, exists_eq_left', exists_eq_left, Option.bind_some, Bool.not_true, Bool.not_false, if_true, if_false, ite_true, ite_false, decide_true, decide_false, Bool.false_eq_true, reduceIte, true_and, and_true, ne_eq, not_false_eq_true, not_true_eq_false, x_part_add, x_part_even, x_part_least, x_part_most, x_part_down, x_part_up, x_part_near, x_add_part, x_add_even, x_add_least, x_add_most, x_add_down, x_add_up, x_add_near, x_even_part, x_even_add, x_even_least, x_even_most, x_even_down, x_even_up, x_even_near, x_least_part, x_least_add, x_least_even, x_least_most, x_least_down, x_least_up, x_least_near, x_most_part, x_most_add, x_most_even, x_most_least, x_most_down, x_most_up, x_most_near, x_down_part, x_down_add, x_down_even, x_down_least, x_down_most, x_down_up, x_down_near, x_up_part, x_up_add, x_up_even, x_up_least, x_up_most, x_up_down, x_up_near, x_near_part, x_near_add, x_near_even, x_near_least, x_near_most, x_near_down, x_near_up, o_fdiv h0 h4, o_mod h0, o_mulL (show -(2 ^ 64) < (2 : Int) ∧ (2 : Int) < 2 ^ 64 by decide), and_self]
    by_cases h : 0 < a % u
    · simp only [sw_ownL, sw_ownPar, seqD_l, seqD_t, lstAt, lstOf_own, lstOf_lst, ew_run, ew_ok, ew_var, ew_c, ew_op, ew_un, ew_nil, ew_cons, ew_cl, ew_toT, ew_not, ew_and, ew_or, ew_notE, ew_andE, ew_orE, ew_if, ew_ch, ew_call, ew_isi, ew_noO, ew_soO, ew_sl, ew_ownIx, ew_ownLen, ew_seqI, ew_rngI, ew_enI, ew_yes, ew_lc, sw_nx, sw_bad, sw_seq, sw_if, sw_ret, sw_drop, sw_asg, sw_aug, sw_own, sw_app, sw_ext, sw_frz, sw_forS, startR1, startR2, startR3, List.replicate, List.length_cons, List.length_nil, List.getElem?_cons_zero, List.getElem?_cons_succ, List.set_cons_zero, List.set_cons_succ, o_addI, o_subI, o_ltI, o_leI, o_gtI, o_geI, o_addII, o_eqII, o_eqSS, o_neII, o_neSS, o_eqBB, o_neBB, o_neg, o_ixT, o_ixL, atI_0, atI_1, atI_2, atI_last, o_max, o_min, o_int, o_tuple, o_list, o_lenL, o_lenT, o_tup0, o_tup1, o_tup2, o_tup3, asB_bl, asI_int, asL_lst, items_l, items_t, o_inRule, o_in23, o_in33, o_inLeast, o_inMost, o_inAdd, o_inPart, o_inEven, o_enT, o_enL, ty_n, ty_b, ty_i, ty_s, ty_t, ty_l, g_n, g_b, g_i, g_s, g_t, g_l, put1, put2, put3, Option.some.injEq, SV.dat.injEq, SV.own.injEq, exists_eq_left', exists_eq_left, Option.bind_some, Bool.not_true, Bool.not_false, if_true, if_false, ite_true, ite_false, decide_true, decide_false, Bool.false_eq_true, reduceIte, true_and, and_true, ne_eq, not_false_eq_true, not_true_eq_false, h]
      congr 1; omega
    · simp only [sw_ownL, sw_ownPar, seqD_l, seqD_t, lstAt, lstOf_own, lstOf_lst, ew_run, ew_ok, ew_var, ew_c, ew_op, ew_un, ew_nil, ew_cons, ew_cl, ew_toT, ew_not, ew_and, ew_or, ew_notE, ew_andE, ew_orE, ew_if, ew_ch, ew_call, ew_isi, ew_noO, ew_soO, ew_sl, ew_ownIx, ew_ownLen, ew_seqI, ew_rngI, ew_enI, ew_yes, ew_lc, sw_nx, sw_bad, sw_seq, sw_if, sw_ret, sw_drop, sw_asg, sw_aug, sw_own, sw_app, sw_ext, sw_frz, sw_forS, startR1, startR2, startR3, List.replicate, List.length_cons, List.length_nil, List.getElem?_cons_zero, List.getElem?_cons_succ, List.set_cons_zero, List.set_cons_succ, o_addI, o_subI, o_ltI, o_leI, o_gtI, o_geI, o_addII, o_eqII, o_eqSS, o_neII, o_neSS, o_eqBB, o_neBB, o_neg, o_ixT, o_ixL, atI_0, atI_1, atI_2, atI_last, o_max, o_min, o_int, o_tuple, o_list, o_lenL, o_lenT, o_tup0, o_tup1, o_tup2, o_tup3, asB_bl, asI_int, asL_lst, items_l, items_t, o_inRule, o_in23, o_in33, o_inLeast, o_inMost, o_inAdd, o_inPart, o_inEven, o_enT, o_enL, ty_n, ty_b, ty_i, ty_s, ty_t, ty_l, g_n, g_b, g_i, g_s, g_t, g_l, put1, put2, put3, Option.some.injEq, SV.dat.injEq, SV.own.injEq, exists_eq_left', exists_eq_left, Option.bind_some, Bool.not_true, Bool.not_false, if_true, if_false, ite_true, ite_false, decide_true, decide_false, Bool.false_eq_true, reduceIte, true_and, and_true, ne_eq, not_false_eq_true, not_true_eq_false, h]
      congr 1; omega
  | up =>
    simp only [sRule, rnd, sw_ownL, sw_ownPar, seqD_l, seqD_t, lstAt, lstOf_own, lstOf_lst, ew_run, ew_ok, ew_var, ew_c, ew_op, ew_un, ew_nil, ew_cons, ew_cl, ew_toT, ew_not, ew_and, ew_or, ew_notE, ew_andE, ew_orE, ew_if, ew_ch, ew_call, ew_isi, ew_noO, ew_soO, ew_sl, ew_ownIx, ew_ownLen, ew_seqI, ew_rngI, ew_enI, ew_yes, ew_lc, sw_nx, sw_bad, sw_seq, sw_if, sw_ret, sw_drop, sw_asg, sw_aug, sw_own, sw_app, sw_ext, sw_frz, sw_forS, startR1, startR2, startR3, List.replicate, List.length_cons, List.length_nil, List.getElem?_cons_zero, List.getElem?_cons_succ, List.set_cons_zero, List.set_cons_succ, o_addI, o_subI, o_ltI, o_leI, o_gtI, o_geI, o_addII, o_eqII, o_eqSS, o_neII, o_neSS, o_eqBB, o_neBB, o_neg, o_ixT, o_ixL, atI_0, atI_1, atI_2, atI_last, o_max, o_min, o_int, o_tuple, o_list, o_lenL, o_lenT, o_tup0, o_tup1, o_tup2, o_tup3, asB_bl, asI_int, asL_lst, items_l, items_t, o_inRule, o_in23, o_in33, o_inLeast, o_inMost, o_inAdd, o_inPart, o_inEven, o_enT, o_enL, ty_n, ty_b, ty_i, ty_s, ty_t, ty_l, g_n, g_b, g_i, g_s, g_t, g_l, put1, put2, put3, Option.some.injEq, SV.dat.injEq, SV.own.injEq, exists_eq_left', exists_eq_left, Option.bind_some, Bool.not_true, Bool.not_false, if_true, if_false, ite_true, ite_false, decide_true, decide_false, Bool.false_eq_true, reduceIte, true_and, and_true, ne_eq, not_false_eq_true, not_true_eq_false, x_part_add, x_part_even, x_part_least, x_part_most, x_part_down, x_part_up, x_part_near, x_add_part, x_add_even, x_add_least, x_add_most, x_add_down, x_add_up, x_add_near, x_even_part, x_even_add, x_even_least, x_even_most, x_even_down, x_even_up, x_even_near, x_least_part, x_least_add, x_least_even, x_least_most, x_least_down, x_least_up, x_least_near, x_most_part, x_most_add, x_most_even, x_most_least, x_most_down, x_most_up, x_most_near, x_down_part, x_down_add, x_down_even, x_down_least, x_down_most, x_down_up, x_down_near, x_up_part, x_up_add, x_up_even, x_up_least, x_up_most, x_up_down, x_up_near, x_near_part, x_near_add, x_near_even, x_near_least, x_near_most, x_near_down, x_near_up, o_fdiv h0 h4, o_mod h0, o_mulL (show -(2 ^ 64) < (2 : Int) ∧ (2 : Int) < 2 ^ 64 by decide), and_self]
    by_cases h : 0 < a % u
    · simp only [sw_ownL, sw_ownPar, seqD_l, seqD_t, lstAt, lstOf_own, lstOf_lst, ew_run, ew_ok, ew_var, ew_c, ew_op, ew_un, ew_nil, ew_cons, ew_cl, ew_toT, ew_not, ew_and, ew_or, ew_notE, ew_andE, ew_orE, ew_if, ew_ch, ew_call, ew_isi, ew_noO, ew_soO, ew_sl, ew_ownIx, ew_ownLen, ew_seqI, ew_rngI, ew_enI, ew_yes, ew_lc, sw_nx, sw_bad, sw_seq, sw_if, sw_ret, sw_drop, sw_asg, sw_aug, sw_own, sw_app, sw_ext, sw_frz, sw_forS, startR1, startR2, startR3, List.replicate, List.length_cons, List.length_nil, List.getElem?_cons_zero, List.getElem?_cons_succ, List.set_cons_zero, List.set_cons_succ, o_addI, o_subI, o_ltI, o_leI, o_gtI, o_geI, o_addII, o_eqII, o_eqSS, o_neII, o_neSS, o_eqBB, o_neBB, o_neg, o_ixT, o_ixL, atI_0, atI_1, atI_2, atI_last, o_max, o_min, o_int, o_tuple, o_list, o_lenL, o_lenT, o_tup0, o_tup1, o_tup2, o_tup3, asB_bl, asI_int, asL_lst, items_l, items_t, o_inRule, o_in23, o_in33, o_inLeast, o_inMost, o_inAdd, o_inPart, o_inEven, o_enT, o_enL, ty_n, ty_b, ty_i, ty_s, ty_t, ty_l, g_n, g_b, g_i, g_s, g_t, g_l, put1, put2, put3, Option.some.injEq, SV.dat.injEq, SV.own.injEq, exists_eq_left', exists_eq_left, Option.bind_some, Bool.not_true, Bool.not_false, if_true, if_false, ite_true, ite_false, decide_true, decide_false, Bool.false_eq_true, reduceIte, true_and, and_true, ne_eq, not_false_eq_true, not_true_eq_false, h]
      congr 1
      rw [show a + u - 1 = (a % u - 1) + u * (a / u + 1) by rw [Int.mul_add]; omega, Int.add_mul_ediv_left _ _ (show u ≠ 0 by omega), Int.ediv_eq_zero_of_lt (a := a % u - 1) (by omega) (by omega)]
      omega
    · simp only [sw_ownL, sw_ownPar, seqD_l, seqD_t, lstAt, lstOf_own, lstOf_lst, ew_run, ew_ok, ew_var, ew_c, ew_op, ew_un, ew_nil, ew_cons, ew_cl, ew_toT, ew_not, ew_and, ew_or, ew_notE, ew_andE, ew_orE, ew_if, ew_ch, ew_call, ew_isi, ew_noO, ew_soO, ew_sl, ew_ownIx, ew_ownLen, ew_seqI, ew_rngI, ew_enI, ew_yes, ew_lc, sw_nx, sw_bad, sw_seq, sw_if, sw_ret, sw_drop, sw_asg, sw_aug, sw_own, sw_app, sw_ext, sw_frz, sw_forS, startR1, startR2, startR3, List.replicate, List.length_cons, List.length_nil, List.getElem?_cons_zero, List.getElem?_cons_succ, List.set_cons_zero, List.set_cons_succ, o_addI, o_subI, o_ltI, o_leI, o_gtI, o_geI, o_addII, o_eqII, o_eqSS, o_neII, o_neSS, o_eqBB, o_neBB, o_neg, o_ixT, o_ixL, atI_0, atI_1, atI_2, atI_last, o_max, o_min, o_int, o_tuple, o_list, o_lenL, o_lenT, o_tup0, o_tup1, o_tup2, o_tup3, asB_bl, asI_int, asL_lst, items_l, items_t, o_inRule, o_in23, o_in33, o_inLeast, o_inMost, o_inAdd, o_inPart, o_inEven, o_enT, o_enL, ty_n, ty_b, ty_i, ty_s, ty_t, ty_l, g_n, g_b, g_i, g_s, g_t, g_l, put1, put2, put3, Option.some.injEq, SV.dat.injEq, SV.own.injEq, exists_eq_left', exists_eq_left, Option.bind_some, Bool.not_true, Bool.not_false, if_true, if_false, ite_true, ite_false, decide_true, decide_false, Bool.false_eq_true, reduceIte, true_and, and_true, ne_eq, not_false_eq_true, not_true_eq_false, h]
      congr 1
      rw [show a + u - 1 = (u - 1) + u * (a / u) by omega, Int.add_mul_ediv_left _ _ (show u ≠ 0 by omega), Int.ediv_eq_zero_of_lt (a := u - 1) (by omega) (by omega)]
      omega
  | near =>
    simp only [sRule, rnd, sw_ownL, sw_ownPar, seqD_l, seqD_t, lstAt, lstOf_own, lstOf_lst, ew_run, ew_ok, ew_var, ew_c, ew_op, ew_un, ew_nil, ew_cons, ew_cl, ew_toT, ew_not, ew_and, ew_or, ew_notE, ew_andE, ew_orE, ew_if, ew_ch, ew_call, ew_isi, ew_noO, ew_soO, ew_sl, ew_ownIx, ew_ownLen, ew_seqI, ew_rngI, ew_enI, ew_yes, ew_lc, sw_nx, sw_bad, sw_seq, sw_if, sw_ret, sw_drop, sw_asg, sw_aug, sw_own, sw_app, sw_ext, sw_frz, sw_forS, startR1, startR2, startR3, List.replicate, List.length_cons, List.length_nil, List.getElem?_cons_zero, List.getElem?_cons_succ, List.set_cons_zero, List.set_cons_succ, o_addI, o_subI, o_ltI, o_leI, o_gtI, o_geI, o_addII, o_eqII, o_eqSS, o_neII, o_neSS, o_eqBB, o_neBB, o_neg, o_ixT, o_ixL, atI_0, atI_1, atI_2, atI_last, o_max, o_min, o_int, o_tuple, o_list, o_lenL, o_lenT, o_tup0, o_tup1, o_tup2, o_tup3, asB_bl, asI_int, asL_lst, items_l, items_t, o_inRule, o_in23, o_in33, o_inLeast, o_inMost, o_inAdd, o_inPart, o_inEven, o_enT, o_enL, ty_n, ty_b, ty_i, ty_s, ty_t, ty_l, g_n, g_b, g_i, g_s, g_t, g_l, put1, put2, put3, Option.some.injEq, SV.dat.injEq, SV.own.injEq, exists_eq_left', exists_eq_left, Option.bind_some, Bool.not_true, Bool.not_false, if_true, if_false, ite_true, ite_false, decide_true, decide_false, Bool.false_eq_true, reduceIte, true_and, and_true, ne_eq, not_false_eq_true, not_true_eq_false, x_part_add, x_part_even, x_part_least, x_part_most, x_part_down, x_part_up, x_part_near, x_add_part, x_add_even, x_add_least, x_add_most, x_add_down, x_add_up, x_add_near, x_even_part, x_even_add, x_even_least, x_even_most, x_even_down, x_even_up, x_even_near, x_least_part, x_least_add, x_least_even, x_least_most, x_least_down, x_least_up, x_least_near, x_most_part, x_most_add, x_most_even, x_most_least, x_most_down, x_most_up, x_most_near, x_down_part, x_down_add, x_down_even, x_down_least, x_down_most, x_down_up, x_down_near, x_up_part, x_up_add, x_up_even, x_up_least, x_up_most, x_up_down, x_up_near, x_near_part, x_near_add, x_near_even, x_near_least, x_near_most, x_near_down, x_near_up, o_fdiv h0 h4, o_mod h0, o_mulL (show -(2 ^ 64) < (2 : Int) ∧ (2 : Int) < 2 ^ 64 by decide), and_self]
    by_cases h : u ≤ 2 * (a % u)
    · simp only [sw_ownL, sw_ownPar, seqD_l, seqD_t, lstAt, lstOf_own, lstOf_lst, ew_run, ew_ok, ew_var, ew_c, ew_op, ew_un, ew_nil, ew_cons, ew_cl, ew_toT, ew_not, ew_and, ew_or, ew_notE, ew_andE, ew_orE, ew_if, ew_ch, ew_call, ew_isi, ew_noO, ew_soO, ew_sl, ew_ownIx, ew_ownLen, ew_seqI, ew_rngI, ew_enI, ew_yes, ew_lc, sw_nx, sw_bad, sw_seq, sw_if, sw_ret, sw_drop, sw_asg, sw_aug, sw_own, sw_app, sw_ext, sw_frz, sw_forS, startR1, startR2, startR3, List.replicate, List.length_cons, List.length_nil, List.getElem?_cons_zero, List.getElem?_cons_succ, List.set_cons_zero, List.set_cons_succ, o_addI, o_subI, o_ltI, o_leI, o_gtI, o_geI, o_addII, o_eqII, o_eqSS, o_neII, o_neSS, o_eqBB, o_neBB, o_neg, o_ixT, o_ixL, atI_0, atI_1, atI_2, atI_last, o_max, o_min, o_int, o_tuple, o_list, o_lenL, o_lenT, o_tup0, o_tup1, o_tup2, o_tup3, asB_bl, asI_int, asL_lst, items_l, items_t, o_inRule, o_in23, o_in33, o_inLeast, o_inMost, o_inAdd, o_inPart, o_inEven, o_enT, o_enL, ty_n, ty_b, ty_i, ty_s, ty_t, ty_l, g_n, g_b, g_i, g_s, g_t, g_l, put1, put2, put3, Option.some.injEq, SV.dat.injEq, SV.own.injEq, exists_eq_left', exists_eq_left, Option.bind_some, Bool.not_true, Bool.not_false, if_true, if_false, ite_true, ite_false, decide_true, decide_false, Bool.false_eq_true, reduceIte, true_and, and_true, ne_eq, not_false_eq_true, not_true_eq_false, h]
      congr 1
      rw [show 2 * a + u = (2 * (a % u) - u) + 2 * u * (a / u + 1) by rw [Int.mul_add, Int.mul_assoc]; omega, Int.add_mul_ediv_left _ _ (show 2 * u ≠ 0 by omega), Int.ediv_eq_zero_of_lt (a := 2 * (a % u) - u) (by omega) (by omega)]
      omega
    · simp only [sw_ownL, sw_ownPar, seqD_l, seqD_t, lstAt, lstOf_own, lstOf_lst, ew_run, ew_ok, ew_var, ew_c, ew_op, ew_un, ew_nil, ew_cons, ew_cl, ew_toT, ew_not, ew_and, ew_or, ew_notE, ew_andE, ew_orE, ew_if, ew_ch, ew_call, ew_isi, ew_noO, ew_soO, ew_sl, ew_ownIx, ew_ownLen, ew_seqI, ew_rngI, ew_enI, ew_yes, ew_lc, sw_nx, sw_bad, sw_seq, sw_if, sw_ret, sw_drop, sw_asg, sw_aug, sw_own, sw_app, sw_ext, sw_frz, sw_forS, startR1, startR2, startR3, List.replicate, List.length_cons, List.length_nil, List.getElem?_cons_zero, List.getElem?_cons_succ, List.set_cons_zero, List.set_cons_succ, o_addI, o_subI, o_ltI, o_leI, o_gtI, o_geI, o_addII, o_eqII, o_eqSS, o_neII, o_neSS, o_eqBB, o_neBB, o_neg, o_ixT, o_ixL, atI_0, atI_1, atI_2, atI_last, o_max, o_min, o_int, o_tuple, o_list, o_lenL, o_lenT, o_tup0, o_tup1, o_tup2, o_tup3, asB_bl, asI_int, asL_lst, items_l, items_t, o_inRule, o_in23, o_in33, o_inLeast, o_inMost, o_inAdd, o_inPart, o_inEven, o_enT, o_enL, ty_n, ty_b, ty_i, ty_s, ty_t, ty_l, g_n, g_b, g_i, g_s, g_t, g_l, put1, put2, put3, Option.some.injEq, SV.dat.injEq, SV.own.injEq, exists_eq_left', exists_eq_left, Option.bind_some, Bool.not_true, Bool.not_false, if_true, if_false, ite_true, ite_false, decide_true, decide_false, Bool.false_eq_true, reduceIte, true_and, and_true, ne_eq, not_false_eq_true, not_true_eq_false, h]
      congr 1
      rw [show 2 * a + u = (2 * (a % u) + u) + 2 * u * (a / u) by rw [Int.mul_assoc]; omega, Int.add_mul_ediv_left _ _ (show 2 * u ≠ 0 by omega), Int.ediv_eq_zero_of_lt (a := 2 * (a % u) + u) (by omega) (by omega)]
      omega
theorem q__law_paid {s : Steps} (hs : Ok s) {y : Int} {g : G} : d__law_paid [dS s, .int y] g = .ok (.int (paid s y)) g := by
  refine ew_eq ?_
  unfold d__law_paid b__law_paid
  simp only [sw_ownL, sw_ownPar, seqD_l, seqD_t, lstAt, lstOf_own, lstOf_lst, ew_run, ew_ok, ew_var, ew_c, ew_op, ew_un, ew_nil, ew_cons, ew_cl, ew_toT, ew_not, ew_and, ew_or, ew_notE, ew_andE, ew_orE, ew_if, ew_ch, ew_call, ew_isi, ew_noO, ew_soO, ew_sl, ew_ownIx, ew_ownLen, ew_seqI, ew_rngI, ew_enI, ew_yes, ew_lc, sw_nx, sw_bad, sw_seq, sw_if, sw_ret, sw_drop, sw_asg, sw_aug, sw_own, sw_app, sw_ext, sw_frz, sw_forS, startR1, startR2, startR3, List.replicate, List.length_cons, List.length_nil, List.getElem?_cons_zero, List.getElem?_cons_succ, List.set_cons_zero, List.set_cons_succ, o_addI, o_subI, o_ltI, o_leI, o_gtI, o_geI, o_addII, o_eqII, o_eqSS, o_neII, o_neSS, o_eqBB, o_neBB, o_neg, o_ixT, o_ixL, atI_0, atI_1, atI_2, atI_last, o_max, o_min, o_int, o_tuple, o_list, o_lenL, o_lenT, o_tup0, o_tup1, o_tup2, o_tup3, asB_bl, asI_int, asL_lst, items_l, items_t, o_inRule, o_in23, o_in33, o_inLeast, o_inMost, o_inAdd, o_inPart, o_inEven, o_enT, o_enL, ty_n, ty_b, ty_i, ty_s, ty_t, ty_l, g_n, g_b, g_i, g_s, g_t, g_l, put1, put2, put3, Option.some.injEq, SV.dat.injEq, SV.own.injEq, exists_eq_left', exists_eq_left, Option.bind_some, Bool.not_true, Bool.not_false, if_true, if_false, ite_true, ite_false, decide_true, decide_false, Bool.false_eq_true, reduceIte, true_and, and_true, ne_eq, not_false_eq_true, not_true_eq_false]
  refine sw_forM dStep (fun l ρ g' => g' = g ∧ Ok l ∧ ∃ z v, ρ = [some (.dat (dS s)), some (.dat (.int z)), v] ∧ paid l z = paid s y) ?_ ?_ ⟨rfl, hs, y, none, rfl, rfl⟩
  · rintro d ds ρ g' ⟨rfl, ho, z, v, rfl, e⟩
    refine ⟨_, rfl, ?_⟩
    obtain ⟨hx, ho'⟩ := ok_cons ho
    cases d with
    | part p r =>
      obtain ⟨h1, h2⟩ := hx
      simp only [dStep, sw_ownL, sw_ownPar, seqD_l, seqD_t, lstAt, lstOf_own, lstOf_lst, ew_run, ew_ok, ew_var, ew_c, ew_op, ew_un, ew_nil, ew_cons, ew_cl, ew_toT, ew_not, ew_and, ew_or, ew_notE, ew_andE, ew_orE, ew_if, ew_ch, ew_call, ew_isi, ew_noO, ew_soO, ew_sl, ew_ownIx, ew_ownLen, ew_seqI, ew_rngI, ew_enI, ew_yes, ew_lc, sw_nx, sw_bad, sw_seq, sw_if, sw_ret, sw_drop, sw_asg, sw_aug, sw_own, sw_app, sw_ext, sw_frz, sw_forS, startR1, startR2, startR3, List.replicate, List.length_cons, List.length_nil, List.getElem?_cons_zero, List.getElem?_cons_succ, List.set_cons_zero, List.set_cons_succ, o_addI, o_subI, o_ltI, o_leI, o_gtI, o_geI, o_addII, o_eqII, o_eqSS, o_neII, o_neSS, o_eqBB, o_neBB, o_neg, o_ixT, o_ixL, atI_0, atI_1, atI_2, atI_last, o_max, o_min, o_int, o_tuple, o_list, o_lenL, o_lenT, o_tup0, o_tup1, o_tup2, o_tup3, asB_bl, asI_int, asL_lst, items_l, items_t, o_inRule, o_in23, o_in33, o_inLeast, o_inMost, o_inAdd, o_inPart, o_inEven, o_enT, o_enL, ty_n, ty_b, ty_i, ty_s, ty_t, ty_l, g_n, g_b, g_i, g_s, g_t, g_l, put1, put2, put3, Option.some.injEq, SV.dat.injEq, SV.own.injEq, exists_eq_left', exists_eq_left, Option.bind_some, Bool.not_true, Bool.not_false, if_true, if_false, ite_true, ite_false, decide_true, decide_false, Bool.false_eq_true, reduceIte, true_and, and_true, ne_eq, not_false_eq_true, not_true_eq_false, x_part_add, x_part_even, x_part_least, x_part_most, x_part_down, x_part_up, x_part_near, x_add_part, x_add_even, x_add_least, x_add_most, x_add_down, x_add_up, x_add_near, x_even_part, x_even_add, x_even_least, x_even_most, x_even_down, x_even_up, x_even_near, x_least_part, x_least_add, x_least_even, x_least_most, x_least_down, x_least_up, x_least_near, x_most_part, x_most_add, x_most_even, x_most_least, x_most_down, x_most_up, x_most_near, x_down_part, x_down_add, x_down_even, x_down_least, x_down_most, x_down_up, x_down_near, x_up_part, x_up_add, x_up_even, x_up_least, x_up_most, x_up_down, x_up_near, x_near_part, x_near_add, x_near_even, x_near_least, x_near_most, x_near_down, x_near_up, o_mulR (i := z) (j := p) ⟨by omega, by omega⟩, q__law_round (a := z * p) (u := 100) (r := r) (by decide) (by decide)]
      exact ⟨ho', _, _, rfl, e⟩
    | even m r =>
      obtain ⟨h1, h2⟩ := hx
      simp only [dStep, sw_ownL, sw_ownPar, seqD_l, seqD_t, lstAt, lstOf_own, lstOf_lst, ew_run, ew_ok, ew_var, ew_c, ew_op, ew_un, ew_nil, ew_cons, ew_cl, ew_toT, ew_not, ew_and, ew_or, ew_notE, ew_andE, ew_orE, ew_if, ew_ch, ew_call, ew_isi, ew_noO, ew_soO, ew_sl, ew_ownIx, ew_ownLen, ew_seqI, ew_rngI, ew_enI, ew_yes, ew_lc, sw_nx, sw_bad, sw_seq, sw_if, sw_ret, sw_drop, sw_asg, sw_aug, sw_own, sw_app, sw_ext, sw_frz, sw_forS, startR1, startR2, startR3, List.replicate, List.length_cons, List.length_nil, List.getElem?_cons_zero, List.getElem?_cons_succ, List.set_cons_zero, List.set_cons_succ, o_addI, o_subI, o_ltI, o_leI, o_gtI, o_geI, o_addII, o_eqII, o_eqSS, o_neII, o_neSS, o_eqBB, o_neBB, o_neg, o_ixT, o_ixL, atI_0, atI_1, atI_2, atI_last, o_max, o_min, o_int, o_tuple, o_list, o_lenL, o_lenT, o_tup0, o_tup1, o_tup2, o_tup3, asB_bl, asI_int, asL_lst, items_l, items_t, o_inRule, o_in23, o_in33, o_inLeast, o_inMost, o_inAdd, o_inPart, o_inEven, o_enT, o_enL, ty_n, ty_b, ty_i, ty_s, ty_t, ty_l, g_n, g_b, g_i, g_s, g_t, g_l, put1, put2, put3, Option.some.injEq, SV.dat.injEq, SV.own.injEq, exists_eq_left', exists_eq_left, Option.bind_some, Bool.not_true, Bool.not_false, if_true, if_false, ite_true, ite_false, decide_true, decide_false, Bool.false_eq_true, reduceIte, true_and, and_true, ne_eq, not_false_eq_true, not_true_eq_false, x_part_add, x_part_even, x_part_least, x_part_most, x_part_down, x_part_up, x_part_near, x_add_part, x_add_even, x_add_least, x_add_most, x_add_down, x_add_up, x_add_near, x_even_part, x_even_add, x_even_least, x_even_most, x_even_down, x_even_up, x_even_near, x_least_part, x_least_add, x_least_even, x_least_most, x_least_down, x_least_up, x_least_near, x_most_part, x_most_add, x_most_even, x_most_least, x_most_down, x_most_up, x_most_near, x_down_part, x_down_add, x_down_even, x_down_least, x_down_most, x_down_up, x_down_near, x_up_part, x_up_add, x_up_even, x_up_least, x_up_most, x_up_down, x_up_near, x_near_part, x_near_add, x_near_even, x_near_least, x_near_most, x_near_down, x_near_up, q__law_round (a := z) (u := m) (r := r) (show 0 < m by omega) (show m < 500000000 by omega), o_mulL (i := m) ⟨by omega, by omega⟩]
      exact ⟨ho', _, _, rfl, by rw [← e]; show paid ds _ = paid ds (rnd z m r * m); rw [Int.mul_comm]⟩
    | add c =>
      simp only [dStep, sw_ownL, sw_ownPar, seqD_l, seqD_t, lstAt, lstOf_own, lstOf_lst, ew_run, ew_ok, ew_var, ew_c, ew_op, ew_un, ew_nil, ew_cons, ew_cl, ew_toT, ew_not, ew_and, ew_or, ew_notE, ew_andE, ew_orE, ew_if, ew_ch, ew_call, ew_isi, ew_noO, ew_soO, ew_sl, ew_ownIx, ew_ownLen, ew_seqI, ew_rngI, ew_enI, ew_yes, ew_lc, sw_nx, sw_bad, sw_seq, sw_if, sw_ret, sw_drop, sw_asg, sw_aug, sw_own, sw_app, sw_ext, sw_frz, sw_forS, startR1, startR2, startR3, List.replicate, List.length_cons, List.length_nil, List.getElem?_cons_zero, List.getElem?_cons_succ, List.set_cons_zero, List.set_cons_succ, o_addI, o_subI, o_ltI, o_leI, o_gtI, o_geI, o_addII, o_eqII, o_eqSS, o_neII, o_neSS, o_eqBB, o_neBB, o_neg, o_ixT, o_ixL, atI_0, atI_1, atI_2, atI_last, o_max, o_min, o_int, o_tuple, o_list, o_lenL, o_lenT, o_tup0, o_tup1, o_tup2, o_tup3, asB_bl, asI_int, asL_lst, items_l, items_t, o_inRule, o_in23, o_in33, o_inLeast, o_inMost, o_inAdd, o_inPart, o_inEven, o_enT, o_enL, ty_n, ty_b, ty_i, ty_s, ty_t, ty_l, g_n, g_b, g_i, g_s, g_t, g_l, put1, put2, put3, Option.some.injEq, SV.dat.injEq, SV.own.injEq, exists_eq_left', exists_eq_left, Option.bind_some, Bool.not_true, Bool.not_false, if_true, if_false, ite_true, ite_false, decide_true, decide_false, Bool.false_eq_true, reduceIte, true_and, and_true, ne_eq, not_false_eq_true, not_true_eq_false, x_part_add, x_part_even, x_part_least, x_part_most, x_part_down, x_part_up, x_part_near, x_add_part, x_add_even, x_add_least, x_add_most, x_add_down, x_add_up, x_add_near, x_even_part, x_even_add, x_even_least, x_even_most, x_even_down, x_even_up, x_even_near, x_least_part, x_least_add, x_least_even, x_least_most, x_least_down, x_least_up, x_least_near, x_most_part, x_most_add, x_most_even, x_most_least, x_most_down, x_most_up, x_most_near, x_down_part, x_down_add, x_down_even, x_down_least, x_down_most, x_down_up, x_down_near, x_up_part, x_up_add, x_up_even, x_up_least, x_up_most, x_up_down, x_up_near, x_near_part, x_near_add, x_near_even, x_near_least, x_near_most, x_near_down, x_near_up]
      by_cases h : 0 < z + c
      · simp only [sw_ownL, sw_ownPar, seqD_l, seqD_t, lstAt, lstOf_own, lstOf_lst, ew_run, ew_ok, ew_var, ew_c, ew_op, ew_un, ew_nil, ew_cons, ew_cl, ew_toT, ew_not, ew_and, ew_or, ew_notE, ew_andE, ew_orE, ew_if, ew_ch, ew_call, ew_isi, ew_noO, ew_soO, ew_sl, ew_ownIx, ew_ownLen, ew_seqI, ew_rngI, ew_enI, ew_yes, ew_lc, sw_nx, sw_bad, sw_seq, sw_if, sw_ret, sw_drop, sw_asg, sw_aug, sw_own, sw_app, sw_ext, sw_frz, sw_forS, startR1, startR2, startR3, List.replicate, List.length_cons, List.length_nil, List.getElem?_cons_zero, List.getElem?_cons_succ, List.set_cons_zero, List.set_cons_succ, o_addI, o_subI, o_ltI, o_leI, o_gtI, o_geI, o_addII, o_eqII, o_eqSS, o_neII, o_neSS, o_eqBB, o_neBB, o_neg, o_ixT, o_ixL, atI_0, atI_1, atI_2, atI_last, o_max, o_min, o_int, o_tuple, o_list, o_lenL, o_lenT, o_tup0, o_tup1, o_tup2, o_tup3, asB_bl, asI_int, asL_lst, items_l, items_t, o_inRule, o_in23, o_in33, o_inLeast, o_inMost, o_inAdd, o_inPart, o_inEven, o_enT, o_enL, ty_n, ty_b, ty_i, ty_s, ty_t, ty_l, g_n, g_b, g_i, g_s, g_t, g_l, put1, put2, put3, Option.some.injEq, SV.dat.injEq, SV.own.injEq, exists_eq_left', exists_eq_left, Option.bind_some, Bool.not_true, Bool.not_false, if_true, if_false, ite_true, ite_false, decide_true, decide_false, Bool.false_eq_true, reduceIte, true_and, and_true, ne_eq, not_false_eq_true, not_true_eq_false, h]
        exact ⟨ho', _, _, rfl, by rw [← e]; show paid ds _ = paid ds (max 0 (z + c)); congr 1; omega⟩
      · simp only [sw_ownL, sw_ownPar, seqD_l, seqD_t, lstAt, lstOf_own, lstOf_lst, ew_run, ew_ok, ew_var, ew_c, ew_op, ew_un, ew_nil, ew_cons, ew_cl, ew_toT, ew_not, ew_and, ew_or, ew_notE, ew_andE, ew_orE, ew_if, ew_ch, ew_call, ew_isi, ew_noO, ew_soO, ew_sl, ew_ownIx, ew_ownLen, ew_seqI, ew_rngI, ew_enI, ew_yes, ew_lc, sw_nx, sw_bad, sw_seq, sw_if, sw_ret, sw_drop, sw_asg, sw_aug, sw_own, sw_app, sw_ext, sw_frz, sw_forS, startR1, startR2, startR3, List.replicate, List.length_cons, List.length_nil, List.getElem?_cons_zero, List.getElem?_cons_succ, List.set_cons_zero, List.set_cons_succ, o_addI, o_subI, o_ltI, o_leI, o_gtI, o_geI, o_addII, o_eqII, o_eqSS, o_neII, o_neSS, o_eqBB, o_neBB, o_neg, o_ixT, o_ixL, atI_0, atI_1, atI_2, atI_last, o_max, o_min, o_int, o_tuple, o_list, o_lenL, o_lenT, o_tup0, o_tup1, o_tup2, o_tup3, asB_bl, asI_int, asL_lst, items_l, items_t, o_inRule, o_in23, o_in33, o_inLeast, o_inMost, o_inAdd, o_inPart, o_inEven, o_enT, o_enL, ty_n, ty_b, ty_i, ty_s, ty_t, ty_l, g_n, g_b, g_i, g_s, g_t, g_l, put1, put2, put3, Option.some.injEq, SV.dat.injEq, SV.own.injEq, exists_eq_left', exists_eq_left, Option.bind_some, Bool.not_true, Bool.not_false, if_true, if_false, ite_true, ite_false, decide_true, decide_false, Bool.false_eq_true, reduceIte, true_and, and_true, ne_eq, not_false_eq_true, not_true_eq_false, h]
        exact ⟨ho', _, _, rfl, by rw [← e]; show paid ds _ = paid ds (max 0 (z + c)); congr 1; omega⟩
    | least c =>
      simp only [dStep, sw_ownL, sw_ownPar, seqD_l, seqD_t, lstAt, lstOf_own, lstOf_lst, ew_run, ew_ok, ew_var, ew_c, ew_op, ew_un, ew_nil, ew_cons, ew_cl, ew_toT, ew_not, ew_and, ew_or, ew_notE, ew_andE, ew_orE, ew_if, ew_ch, ew_call, ew_isi, ew_noO, ew_soO, ew_sl, ew_ownIx, ew_ownLen, ew_seqI, ew_rngI, ew_enI, ew_yes, ew_lc, sw_nx, sw_bad, sw_seq, sw_if, sw_ret, sw_drop, sw_asg, sw_aug, sw_own, sw_app, sw_ext, sw_frz, sw_forS, startR1, startR2, startR3, List.replicate, List.length_cons, List.length_nil, List.getElem?_cons_zero, List.getElem?_cons_succ, List.set_cons_zero, List.set_cons_succ, o_addI, o_subI, o_ltI, o_leI, o_gtI, o_geI, o_addII, o_eqII, o_eqSS, o_neII, o_neSS, o_eqBB, o_neBB, o_neg, o_ixT, o_ixL, atI_0, atI_1, atI_2, atI_last, o_max, o_min, o_int, o_tuple, o_list, o_lenL, o_lenT, o_tup0, o_tup1, o_tup2, o_tup3, asB_bl, asI_int, asL_lst, items_l, items_t, o_inRule, o_in23, o_in33, o_inLeast, o_inMost, o_inAdd, o_inPart, o_inEven, o_enT, o_enL, ty_n, ty_b, ty_i, ty_s, ty_t, ty_l, g_n, g_b, g_i, g_s, g_t, g_l, put1, put2, put3, Option.some.injEq, SV.dat.injEq, SV.own.injEq, exists_eq_left', exists_eq_left, Option.bind_some, Bool.not_true, Bool.not_false, if_true, if_false, ite_true, ite_false, decide_true, decide_false, Bool.false_eq_true, reduceIte, true_and, and_true, ne_eq, not_false_eq_true, not_true_eq_false, x_part_add, x_part_even, x_part_least, x_part_most, x_part_down, x_part_up, x_part_near, x_add_part, x_add_even, x_add_least, x_add_most, x_add_down, x_add_up, x_add_near, x_even_part, x_even_add, x_even_least, x_even_most, x_even_down, x_even_up, x_even_near, x_least_part, x_least_add, x_least_even, x_least_most, x_least_down, x_least_up, x_least_near, x_most_part, x_most_add, x_most_even, x_most_least, x_most_down, x_most_up, x_most_near, x_down_part, x_down_add, x_down_even, x_down_least, x_down_most, x_down_up, x_down_near, x_up_part, x_up_add, x_up_even, x_up_least, x_up_most, x_up_down, x_up_near, x_near_part, x_near_add, x_near_even, x_near_least, x_near_most, x_near_down, x_near_up]
      by_cases h : z < c
      · simp only [sw_ownL, sw_ownPar, seqD_l, seqD_t, lstAt, lstOf_own, lstOf_lst, ew_run, ew_ok, ew_var, ew_c, ew_op, ew_un, ew_nil, ew_cons, ew_cl, ew_toT, ew_not, ew_and, ew_or, ew_notE, ew_andE, ew_orE, ew_if, ew_ch, ew_call, ew_isi, ew_noO, ew_soO, ew_sl, ew_ownIx, ew_ownLen, ew_seqI, ew_rngI, ew_enI, ew_yes, ew_lc, sw_nx, sw_bad, sw_seq, sw_if, sw_ret, sw_drop, sw_asg, sw_aug, sw_own, sw_app, sw_ext, sw_frz, sw_forS, startR1, startR2, startR3, List.replicate, List.length_cons, List.length_nil, List.getElem?_cons_zero, List.getElem?_cons_succ, List.set_cons_zero, List.set_cons_succ, o_addI, o_subI, o_ltI, o_leI, o_gtI, o_geI, o_addII, o_eqII, o_eqSS, o_neII, o_neSS, o_eqBB, o_neBB, o_neg, o_ixT, o_ixL, atI_0, atI_1, atI_2, atI_last, o_max, o_min, o_int, o_tuple, o_list, o_lenL, o_lenT, o_tup0, o_tup1, o_tup2, o_tup3, asB_bl, asI_int, asL_lst, items_l, items_t, o_inRule, o_in23, o_in33, o_inLeast, o_inMost, o_inAdd, o_inPart, o_inEven, o_enT, o_enL, ty_n, ty_b, ty_i, ty_s, ty_t, ty_l, g_n, g_b, g_i, g_s, g_t, g_l, put1, put2, put3, Option.some.injEq, SV.dat.injEq, SV.own.injEq, exists_eq_left', exists_eq_left, Option.bind_some, Bool.not_true, Bool.not_false, if_true, if_false, ite_true, ite_false, decide_true, decide_false, Bool.false_eq_true, reduceIte, true_and, and_true, ne_eq, not_false_eq_true, not_true_eq_false, h]
        exact ⟨ho', _, _, rfl, by rw [← e]; show paid ds _ = paid ds (max z c); congr 1; omega⟩
      · simp only [sw_ownL, sw_ownPar, seqD_l, seqD_t, lstAt, lstOf_own, lstOf_lst, ew_run, ew_ok, ew_var, ew_c, ew_op, ew_un, ew_nil, ew_cons, ew_cl, ew_toT, ew_not, ew_and, ew_or, ew_notE, ew_andE, ew_orE, ew_if, ew_ch, ew_call, ew_isi, ew_noO, ew_soO, ew_sl, ew_ownIx, ew_ownLen, ew_seqI, ew_rngI, ew_enI, ew_yes, ew_lc, sw_nx, sw_bad, sw_seq, sw_if, sw_ret, sw_drop, sw_asg, sw_aug, sw_own, sw_app, sw_ext, sw_frz, sw_forS, startR1, startR2, startR3, List.replicate, List.length_cons, List.length_nil, List.getElem?_cons_zero, List.getElem?_cons_succ, List.set_cons_zero, List.set_cons_succ, o_addI, o_subI, o_ltI, o_leI, o_gtI, o_geI, o_addII, o_eqII, o_eqSS, o_neII, o_neSS, o_eqBB, o_neBB, o_neg, o_ixT, o_ixL, atI_0, atI_1, atI_2, atI_last, o_max, o_min, o_int, o_tuple, o_list, o_lenL, o_lenT, o_tup0, o_tup1, o_tup2, o_tup3, asB_bl, asI_int, asL_lst, items_l, items_t, o_inRule, o_in23, o_in33, o_inLeast, o_inMost, o_inAdd, o_inPart, o_inEven, o_enT, o_enL, ty_n, ty_b, ty_i, ty_s, ty_t, ty_l, g_n, g_b, g_i, g_s, g_t, g_l, put1, put2, put3, Option.some.injEq, SV.dat.injEq, SV.own.injEq, exists_eq_left', exists_eq_left, Option.bind_some, Bool.not_true, Bool.not_false, if_true, if_false, ite_true, ite_false, decide_true, decide_false, Bool.false_eq_true, reduceIte, true_and, and_true, ne_eq, not_false_eq_true, not_true_eq_false, h]
        exact ⟨ho', _, _, rfl, by rw [← e]; show paid ds _ = paid ds (max z c); congr 1; omega⟩
    | most c =>
      simp only [dStep, sw_ownL, sw_ownPar, seqD_l, seqD_t, lstAt, lstOf_own, lstOf_lst, ew_run, ew_ok, ew_var, ew_c, ew_op, ew_un, ew_nil, ew_cons, ew_cl, ew_toT, ew_not, ew_and, ew_or, ew_notE, ew_andE, ew_orE, ew_if, ew_ch, ew_call, ew_isi, ew_noO, ew_soO, ew_sl, ew_ownIx, ew_ownLen, ew_seqI, ew_rngI, ew_enI, ew_yes, ew_lc, sw_nx, sw_bad, sw_seq, sw_if, sw_ret, sw_drop, sw_asg, sw_aug, sw_own, sw_app, sw_ext, sw_frz, sw_forS, startR1, startR2, startR3, List.replicate, List.length_cons, List.length_nil, List.getElem?_cons_zero, List.getElem?_cons_succ, List.set_cons_zero, List.set_cons_succ, o_addI, o_subI, o_ltI, o_leI, o_gtI, o_geI, o_addII, o_eqII, o_eqSS, o_neII, o_neSS, o_eqBB, o_neBB, o_neg, o_ixT, o_ixL, atI_0, atI_1, atI_2, atI_last, o_max, o_min, o_int, o_tuple, o_list, o_lenL, o_lenT, o_tup0, o_tup1, o_tup2, o_tup3, asB_bl, asI_int, asL_lst, items_l, items_t, o_inRule, o_in23, o_in33, o_inLeast, o_inMost, o_inAdd, o_inPart, o_inEven, o_enT, o_enL, ty_n, ty_b, ty_i, ty_s, ty_t, ty_l, g_n, g_b, g_i, g_s, g_t, g_l, put1, put2, put3, Option.some.injEq, SV.dat.injEq, SV.own.injEq, exists_eq_left', exists_eq_left, Option.bind_some, Bool.not_true, Bool.not_false, if_true, if_false, ite_true, ite_false, decide_true, decide_false, Bool.false_eq_true, reduceIte, true_and, and_true, ne_eq, not_false_eq_true, not_true_eq_false, x_part_add, x_part_even, x_part_least, x_part_most, x_part_down, x_part_up, x_part_near, x_add_part, x_add_even, x_add_least, x_add_most, x_add_down, x_add_up, x_add_near, x_even_part, x_even_add, x_even_least, x_even_most, x_even_down, x_even_up, x_even_near, x_least_part, x_least_add, x_least_even, x_least_most, x_least_down, x_least_up, x_least_near, x_most_part, x_most_add, x_most_even, x_most_least, x_most_down, x_most_up, x_most_near, x_down_part, x_down_add, x_down_even, x_down_least, x_down_most, x_down_up, x_down_near, x_up_part, x_up_add, x_up_even, x_up_least, x_up_most, x_up_down, x_up_near, x_near_part, x_near_add, x_near_even, x_near_least, x_near_most, x_near_down, x_near_up]
      by_cases h : z < c
      · simp only [sw_ownL, sw_ownPar, seqD_l, seqD_t, lstAt, lstOf_own, lstOf_lst, ew_run, ew_ok, ew_var, ew_c, ew_op, ew_un, ew_nil, ew_cons, ew_cl, ew_toT, ew_not, ew_and, ew_or, ew_notE, ew_andE, ew_orE, ew_if, ew_ch, ew_call, ew_isi, ew_noO, ew_soO, ew_sl, ew_ownIx, ew_ownLen, ew_seqI, ew_rngI, ew_enI, ew_yes, ew_lc, sw_nx, sw_bad, sw_seq, sw_if, sw_ret, sw_drop, sw_asg, sw_aug, sw_own, sw_app, sw_ext, sw_frz, sw_forS, startR1, startR2, startR3, List.replicate, List.length_cons, List.length_nil, List.getElem?_cons_zero, List.getElem?_cons_succ, List.set_cons_zero, List.set_cons_succ, o_addI, o_subI, o_ltI, o_leI, o_gtI, o_geI, o_addII, o_eqII, o_eqSS, o_neII, o_neSS, o_eqBB, o_neBB, o_neg, o_ixT, o_ixL, atI_0, atI_1, atI_2, atI_last, o_max, o_min, o_int, o_tuple, o_list, o_lenL, o_lenT, o_tup0, o_tup1, o_tup2, o_tup3, asB_bl, asI_int, asL_lst, items_l, items_t, o_inRule, o_in23, o_in33, o_inLeast, o_inMost, o_inAdd, o_inPart, o_inEven, o_enT, o_enL, ty_n, ty_b, ty_i, ty_s, ty_t, ty_l, g_n, g_b, g_i, g_s, g_t, g_l, put1, put2, put3, Option.some.injEq, SV.dat.injEq, SV.own.injEq, exists_eq_left', exists_eq_left, Option.bind_some, Bool.not_true, Bool.not_false, if_true, if_false, ite_true, ite_false, decide_true, decide_false, Bool.false_eq_true, reduceIte, true_and, and_true, ne_eq, not_false_eq_true, not_true_eq_false, h]
        exact ⟨ho', _, _, rfl, by rw [← e]; show paid ds _ = paid ds (min z c); congr 1; omega⟩
      · simp only [sw_ownL, sw_ownPar, seqD_l, seqD_t, lstAt, lstOf_own, lstOf_lst, ew_run, ew_ok, ew_var, ew_c, ew_op, ew_un, ew_nil, ew_cons, ew_cl, ew_toT, ew_not, ew_and, ew_or, ew_notE, ew_andE, ew_orE, ew_if, ew_ch, ew_call, ew_isi, ew_noO, ew_soO, ew_sl, ew_ownIx, ew_ownLen, ew_seqI, ew_rngI, ew_enI, ew_yes, ew_lc, sw_nx, sw_bad, sw_seq, sw_if, sw_ret, sw_drop, sw_asg, sw_aug, sw_own, sw_app, sw_ext, sw_frz, sw_forS, startR1, startR2, startR3, List.replicate, List.length_cons, List.length_nil, List.getElem?_cons_zero, List.getElem?_cons_succ, List.set_cons_zero, List.set_cons_succ, o_addI, o_subI, o_ltI, o_leI, o_gtI, o_geI, o_addII, o_eqII, o_eqSS, o_neII, o_neSS, o_eqBB, o_neBB, o_neg, o_ixT, o_ixL, atI_0, atI_1, atI_2, atI_last, o_max, o_min, o_int, o_tuple, o_list, o_lenL, o_lenT, o_tup0, o_tup1, o_tup2, o_tup3, asB_bl, asI_int, asL_lst, items_l, items_t, o_inRule, o_in23, o_in33, o_inLeast, o_inMost, o_inAdd, o_inPart, o_inEven, o_enT, o_enL, ty_n, ty_b, ty_i, ty_s, ty_t, ty_l, g_n, g_b, g_i, g_s, g_t, g_l, put1, put2, put3, Option.some.injEq, SV.dat.injEq, SV.own.injEq, exists_eq_left', exists_eq_left, Option.bind_some, Bool.not_true, Bool.not_false, if_true, if_false, ite_true, ite_false, decide_true, decide_false, Bool.false_eq_true, reduceIte, true_and, and_true, ne_eq, not_false_eq_true, not_true_eq_false, h]
        exact ⟨ho', _, _, rfl, by rw [← e]; show paid ds _ = paid ds (min z c); congr 1; omega⟩
  · rintro ρ g' ⟨rfl, ho, z, v, rfl, e⟩
    simp only [sw_ownL, sw_ownPar, seqD_l, seqD_t, lstAt, lstOf_own, lstOf_lst, ew_run, ew_ok, ew_var, ew_c, ew_op, ew_un, ew_nil, ew_cons, ew_cl, ew_toT, ew_not, ew_and, ew_or, ew_notE, ew_andE, ew_orE, ew_if, ew_ch, ew_call, ew_isi, ew_noO, ew_soO, ew_sl, ew_ownIx, ew_ownLen, ew_seqI, ew_rngI, ew_enI, ew_yes, ew_lc, sw_nx, sw_bad, sw_seq, sw_if, sw_ret, sw_drop, sw_asg, sw_aug, sw_own, sw_app, sw_ext, sw_frz, sw_forS, startR1, startR2, startR3, List.replicate, List.length_cons, List.length_nil, List.getElem?_cons_zero, List.getElem?_cons_succ, List.set_cons_zero, List.set_cons_succ, o_addI, o_subI, o_ltI, o_leI, o_gtI, o_geI, o_addII, o_eqII, o_eqSS, o_neII, o_neSS, o_eqBB, o_neBB, o_neg, o_ixT, o_ixL, atI_0, atI_1, atI_2, atI_last, o_max, o_min, o_int, o_tuple, o_list, o_lenL, o_lenT, o_tup0, o_tup1, o_tup2, o_tup3, asB_bl, asI_int, asL_lst, items_l, items_t, o_inRule, o_in23, o_in33, o_inLeast, o_inMost, o_inAdd, o_inPart, o_inEven, o_enT, o_enL, ty_n, ty_b, ty_i, ty_s, ty_t, ty_l, g_n, g_b, g_i, g_s, g_t, g_l, put1, put2, put3, Option.some.injEq, SV.dat.injEq, SV.own.injEq, exists_eq_left', exists_eq_left, Option.bind_some, Bool.not_true, Bool.not_false, if_true, if_false, ite_true, ite_false, decide_true, decide_false, Bool.false_eq_true, reduceIte, true_and, and_true, ne_eq, not_false_eq_true, not_true_eq_false]
    exact congrArg D.int e
theorem ew_pick {γ : GS} (h : GOk γ) {ds : List D} (h0 : 0 < ds.length) (h1 : ds.length < 1000) {Q : D → G → Prop} (k : ∀ (n : Nat) d γ', GOk γ' → ds[n]? = some d → Q d (some γ')) : EW (d__law_pick [.gen, .lst ds] (some γ)) Q := by
  unfold d__law_pick b__law_pick
  simp only [sw_ownL, sw_ownPar, seqD_l, seqD_t, lstAt, lstOf_own, lstOf_lst, ew_run, ew_ok, ew_var, ew_c, ew_op, ew_un, ew_nil, ew_cons, ew_cl, ew_toT, ew_not, ew_and, ew_or, ew_notE, ew_andE, ew_orE, ew_if, ew_ch, ew_call, ew_isi, ew_noO, ew_soO, ew_sl, ew_ownIx, ew_ownLen, ew_seqI, ew_rngI, ew_enI, ew_yes, ew_lc, sw_nx, sw_bad, sw_seq, sw_if, sw_ret, sw_drop, sw_asg, sw_aug, sw_own, sw_app, sw_ext, sw_frz, sw_forS, startR1, startR2, startR3, List.replicate, List.length_cons, List.length_nil, List.getElem?_cons_zero, List.getElem?_cons_succ, List.set_cons_zero, List.set_cons_succ, o_addI, o_subI, o_ltI, o_leI, o_gtI, o_geI, o_addII, o_eqII, o_eqSS, o_neII, o_neSS, o_eqBB, o_neBB, o_neg, o_ixT, o_ixL, atI_0, atI_1, atI_2, atI_last, o_max, o_min, o_int, o_tuple, o_list, o_lenL, o_lenT, o_tup0, o_tup1, o_tup2, o_tup3, asB_bl, asI_int, asL_lst, items_l, items_t, o_inRule, o_in23, o_in33, o_inLeast, o_inMost, o_inAdd, o_inPart, o_inEven, o_enT, o_enL, ty_n, ty_b, ty_i, ty_s, ty_t, ty_l, g_n, g_b, g_i, g_s, g_t, g_l, put1, put2, put3, Option.some.injEq, SV.dat.injEq, SV.own.injEq, exists_eq_left', exists_eq_left, Option.bind_some, Bool.not_true, Bool.not_false, if_true, if_false, ite_true, ite_false, decide_true, decide_false, Bool.false_eq_true, reduceIte, true_and, and_true, ne_eq, not_false_eq_true, not_true_eq_false]
  refine ew_next h (by omega) (by omega) fun n γ' h' n0 n1 => ?_
  have hn : n.toNat < ds.length := by omega
  refine ⟨ds[n.toNat], ?_, k n.toNat _ γ' h' (List.getElem?_eq_getElem hn)⟩
  rw [show ixO (.lst ds) (.int n) = atI ds ((n.toNat : Nat) : Int) by rw [o_ixL]; congr 1; omega, atI_nat]
  exact List.getElem?_eq_getElem hn
/-- a step as the laws draw it -/
def Drawn (x : TM.Step) : Prop := match x with
  | .part p _ => p = 0 ∨ (25 ≤ p ∧ p ≤ 200)
  | .add c => -200 ≤ c ∧ c ≤ 400
  | .even m _ => 2 ≤ m ∧ m ≤ 100
  | .least c => 0 ≤ c ∧ c ≤ 300
  | .most c => 0 ≤ c ∧ c ≤ 300
theorem mem_ints {l : List Int} {n : Nat} {d : D} (h : (l.map D.int)[n]? = some d) : ∃ i ∈ l, d = .int i := by
  rw [List.getElem?_map] at h
  cases e : l[n]? with
  | none => rw [e] at h; cases h
  | some i => rw [e] at h; cases h; exact ⟨i, List.mem_of_getElem? e, rfl⟩
theorem ew_step {γ : GS} (h : GOk γ) {Q : D → G → Prop} (k : ∀ x γ', GOk γ' → Drawn x → Q (dStep x) (some γ')) : EW (d__law_step [.gen] (some γ)) Q := by
  unfold d__law_step b__law_step
  simp only [sw_ownL, sw_ownPar, seqD_l, seqD_t, lstAt, lstOf_own, lstOf_lst, ew_run, ew_ok, ew_var, ew_c, ew_op, ew_un, ew_nil, ew_cons, ew_cl, ew_toT, ew_not, ew_and, ew_or, ew_notE, ew_andE, ew_orE, ew_if, ew_ch, ew_call, ew_isi, ew_noO, ew_soO, ew_sl, ew_ownIx, ew_ownLen, ew_seqI, ew_rngI, ew_enI, ew_yes, ew_lc, sw_nx, sw_bad, sw_seq, sw_if, sw_ret, sw_drop, sw_asg, sw_aug, sw_own, sw_app, sw_ext, sw_frz, sw_forS, startR1, startR2, startR3, List.replicate, List.length_cons, List.length_nil, List.getElem?_cons_zero, List.getElem?_cons_succ, List.set_cons_zero, List.set_cons_succ, o_addI, o_subI, o_ltI, o_leI, o_gtI, o_geI, o_addII, o_eqII, o_eqSS, o_neII, o_neSS, o_eqBB, o_neBB, o_neg, o_ixT, o_ixL, atI_0, atI_1, atI_2, atI_last, o_max, o_min, o_int, o_tuple, o_list, o_lenL, o_lenT, o_tup0, o_tup1, o_tup2, o_tup3, asB_bl, asI_int, asL_lst, items_l, items_t, o_inRule, o_in23, o_in33, o_inLeast, o_inMost, o_inAdd, o_inPart, o_inEven, o_enT, o_enL, ty_n, ty_b, ty_i, ty_s, ty_t, ty_l, g_n, g_b, g_i, g_s, g_t, g_l, put1, put2, put3, Option.some.injEq, SV.dat.injEq, SV.own.injEq, exists_eq_left', exists_eq_left, Option.bind_some, Bool.not_true, Bool.not_false, if_true, if_false, ite_true, ite_false, decide_true, decide_false, Bool.false_eq_true, reduceIte, true_and, and_true, ne_eq, not_false_eq_true, not_true_eq_false]
  refine ew_next h (by decide) (by decide) fun kind γ1 h1 k0 k1 => ?_
  simp only [sw_ownL, sw_ownPar, seqD_l, seqD_t, lstAt, lstOf_own, lstOf_lst, ew_run, ew_ok, ew_var, ew_c, ew_op, ew_un, ew_nil, ew_cons, ew_cl, ew_toT, ew_not, ew_and, ew_or, ew_notE, ew_andE, ew_orE, ew_if, ew_ch, ew_call, ew_isi, ew_noO, ew_soO, ew_sl, ew_ownIx, ew_ownLen, ew_seqI, ew_rngI, ew_enI, ew_yes, ew_lc, sw_nx, sw_bad, sw_seq, sw_if, sw_ret, sw_drop, sw_asg, sw_aug, sw_own, sw_app, sw_ext, sw_frz, sw_forS, startR1, startR2, startR3, List.replicate, List.length_cons, List.length_nil, List.getElem?_cons_zero, List.getElem?_cons_succ, List.set_cons_zero, List.set_cons_succ, o_addI, o_subI, o_ltI, o_leI, o_gtI, o_geI, o_addII, o_eqII, o_eqSS, o_neII, o_neSS, o_eqBB, o_neBB, o_neg, o_ixT, o_ixL, atI_0, atI_1, atI_2, atI_last, o_max, o_min, o_int, o_tuple, o_list, o_lenL, o_lenT, o_tup0, o_tup1, o_tup2, o_tup3, asB_bl, asI_int, asL_lst, items_l, items_t, o_inRule, o_in23, o_in33, o_inLeast, o_inMost, o_inAdd, o_inPart, o_inEven, o_enT, o_enL, ty_n, ty_b, ty_i, ty_s, ty_t, ty_l, g_n, g_b, g_i, g_s, g_t, g_l, put1, put2, put3, Option.some.injEq, SV.dat.injEq, SV.own.injEq, exists_eq_left', exists_eq_left, Option.bind_some, Bool.not_true, Bool.not_false, if_true, if_false, ite_true, ite_false, decide_true, decide_false, Bool.false_eq_true, reduceIte, true_and, and_true, ne_eq, not_false_eq_true, not_true_eq_false, o_lst (ds := [D.str (Str.ofString "down"), D.str (Str.ofString "up"), D.str (Str.ofString "near")]) (by decide)]
  refine ew_pick h1 (by decide) (by decide) fun n d γ2 h2 hd => ?_
  obtain ⟨r, rfl⟩ : ∃ r : Rule, d = .str (sRule r) := by
    match n, hd with
    | 0, hd => cases hd; exact ⟨.down, rfl⟩
    | 1, hd => cases hd; exact ⟨.up, rfl⟩
    | 2, hd => cases hd; exact ⟨.near, rfl⟩
  try simp only [sw_ownL, sw_ownPar, seqD_l, seqD_t, lstAt, lstOf_own, lstOf_lst, ew_run, ew_ok, ew_var, ew_c, ew_op, ew_un, ew_nil, ew_cons, ew_cl, ew_toT, ew_not, ew_and, ew_or, ew_notE, ew_andE, ew_orE, ew_if, ew_ch, ew_call, ew_isi, ew_noO, ew_soO, ew_sl, ew_ownIx, ew_ownLen, ew_seqI, ew_rngI, ew_enI, ew_yes, ew_lc, sw_nx, sw_bad, sw_seq, sw_if, sw_ret, sw_drop, sw_asg, sw_aug, sw_own, sw_app, sw_ext, sw_frz, sw_forS, startR1, startR2, startR3, List.replicate, List.length_cons, List.length_nil, List.getElem?_cons_zero, List.getElem?_cons_succ, List.set_cons_zero, List.set_cons_succ, o_addI, o_subI, o_ltI, o_leI, o_gtI, o_geI, o_addII, o_eqII, o_eqSS, o_neII, o_neSS, o_eqBB, o_neBB, o_neg, o_ixT, o_ixL, atI_0, atI_1, atI_2, atI_last, o_max, o_min, o_int, o_tuple, o_list, o_lenL, o_lenT, o_tup0, o_tup1, o_tup2, o_tup3, asB_bl, asI_int, asL_lst, items_l, items_t, o_inRule, o_in23, o_in33, o_inLeast, o_inMost, o_inAdd, o_inPart, o_inEven, o_enT, o_enL, ty_n, ty_b, ty_i, ty_s, ty_t, ty_l, g_n, g_b, g_i, g_s, g_t, g_l, put1, put2, put3, Option.some.injEq, SV.dat.injEq, SV.own.injEq, exists_eq_left', exists_eq_left, Option.bind_some, Bool.not_true, Bool.not_false, if_true, if_false, ite_true, ite_false, decide_true, decide_false, Bool.false_eq_true, reduceIte, true_and, and_true, ne_eq, not_false_eq_true, not_true_eq_false]
  by_cases c1 : kind < 2
  · simp only [sw_ownL, sw_ownPar, seqD_l, seqD_t, lstAt, lstOf_own, lstOf_lst, ew_run, ew_ok, ew_var, ew_c, ew_op, ew_un, ew_nil, ew_cons, ew_cl, ew_toT, ew_not, ew_and, ew_or, ew_notE, ew_andE, ew_orE, ew_if, ew_ch, ew_call, ew_isi, ew_noO, ew_soO, ew_sl, ew_ownIx, ew_ownLen, ew_seqI, ew_rngI, ew_enI, ew_yes, ew_lc, sw_nx, sw_bad, sw_seq, sw_if, sw_ret, sw_drop, sw_asg, sw_aug, sw_own, sw_app, sw_ext, sw_frz, sw_forS, startR1, startR2, startR3, List.replicate, List.length_cons, List.length_nil, List.getElem?_cons_zero, List.getElem?_cons_succ, List.set_cons_zero, List.set_cons_succ, o_addI, o_subI, o_ltI, o_leI, o_gtI, o_geI, o_addII, o_eqII, o_eqSS, o_neII, o_neSS, o_eqBB, o_neBB, o_neg, o_ixT, o_ixL, atI_0, atI_1, atI_2, atI_last, o_max, o_min, o_int, o_tuple, o_list, o_lenL, o_lenT, o_tup0, o_tup1, o_tup2, o_tup3, asB_bl, asI_int, asL_lst, items_l, items_t, o_inRule, o_in23, o_in33, o_inLeast, o_inMost, o_inAdd, o_inPart, o_inEven, o_enT, o_enL, ty_n, ty_b, ty_i, ty_s, ty_t, ty_l, g_n, g_b, g_i, g_s, g_t, g_l, put1, put2, put3, Option.some.injEq, SV.dat.injEq, SV.own.injEq, exists_eq_left', exists_eq_left, Option.bind_some, Bool.not_true, Bool.not_false, if_true, if_false, ite_true, ite_false, decide_true, decide_false, Bool.false_eq_true, reduceIte, true_and, and_true, ne_eq, not_false_eq_true, not_true_eq_false, c1, o_lst (ds := [D.int 0, D.int 25, D.int 50, D.int 50, D.int 75, D.int 80, D.int 80, D.int 100, D.int 110, D.int 120, D.int 150, D.int 200, D.int 90, D.int 95]) (by decide)]
    refine ew_pick h2 (by decide) (by decide) fun n d γ3 h3 hd => ?_
    obtain ⟨i, hi, rfl⟩ := mem_ints (l := [0, 25, 50, 50, 75, 80, 80, 100, 110, 120, 150, 200, 90, 95]) hd
    try simp only [sw_ownL, sw_ownPar, seqD_l, seqD_t, lstAt, lstOf_own, lstOf_lst, ew_run, ew_ok, ew_var, ew_c, ew_op, ew_un, ew_nil, ew_cons, ew_cl, ew_toT, ew_not, ew_and, ew_or, ew_notE, ew_andE, ew_orE, ew_if, ew_ch, ew_call, ew_isi, ew_noO, ew_soO, ew_sl, ew_ownIx, ew_ownLen, ew_seqI, ew_rngI, ew_enI, ew_yes, ew_lc, sw_nx, sw_bad, sw_seq, sw_if, sw_ret, sw_drop, sw_asg, sw_aug, sw_own, sw_app, sw_ext, sw_frz, sw_forS, startR1, startR2, startR3, List.replicate, List.length_cons, List.length_nil, List.getElem?_cons_zero, List.getElem?_cons_succ, List.set_cons_zero, List.set_cons_succ, o_addI, o_subI, o_ltI, o_leI, o_gtI, o_geI, o_addII, o_eqII, o_eqSS, o_neII, o_neSS, o_eqBB, o_neBB, o_neg, o_ixT, o_ixL, atI_0, atI_1, atI_2, atI_last, o_max, o_min, o_int, o_tuple, o_list, o_lenL, o_lenT, o_tup0, o_tup1, o_tup2, o_tup3, asB_bl, asI_int, asL_lst, items_l, items_t, o_inRule, o_in23, o_in33, o_inLeast, o_inMost, o_inAdd, o_inPart, o_inEven, o_enT, o_enL, ty_n, ty_b, ty_i, ty_s, ty_t, ty_l, g_n, g_b, g_i, g_s, g_t, g_l, put1, put2, put3, Option.some.injEq, SV.dat.injEq, SV.own.injEq, exists_eq_left', exists_eq_left, Option.bind_some, Bool.not_true, Bool.not_false, if_true, if_false, ite_true, ite_false, decide_true, decide_false, Bool.false_eq_true, reduceIte, true_and, and_true, ne_eq, not_false_eq_true, not_true_eq_false]
    refine k (.part i r) γ3 h3 ?_
    simp at hi
    show i = 0 ∨ (25 ≤ i ∧ i ≤ 200)
    omega
  simp only [sw_ownL, sw_ownPar, seqD_l, seqD_t, lstAt, lstOf_own, lstOf_lst, ew_run, ew_ok, ew_var, ew_c, ew_op, ew_un, ew_nil, ew_cons, ew_cl, ew_toT, ew_not, ew_and, ew_or, ew_notE, ew_andE, ew_orE, ew_if, ew_ch, ew_call, ew_isi, ew_noO, ew_soO, ew_sl, ew_ownIx, ew_ownLen, ew_seqI, ew_rngI, ew_enI, ew_yes, ew_lc, sw_nx, sw_bad, sw_seq, sw_if, sw_ret, sw_drop, sw_asg, sw_aug, sw_own, sw_app, sw_ext, sw_frz, sw_forS, startR1, startR2, startR3, List.replicate, List.length_cons, List.length_nil, List.getElem?_cons_zero, List.getElem?_cons_succ, List.set_cons_zero, List.set_cons_succ, o_addI, o_subI, o_ltI, o_leI, o_gtI, o_geI, o_addII, o_eqII, o_eqSS, o_neII, o_neSS, o_eqBB, o_neBB, o_neg, o_ixT, o_ixL, atI_0, atI_1, atI_2, atI_last, o_max, o_min, o_int, o_tuple, o_list, o_lenL, o_lenT, o_tup0, o_tup1, o_tup2, o_tup3, asB_bl, asI_int, asL_lst, items_l, items_t, o_inRule, o_in23, o_in33, o_inLeast, o_inMost, o_inAdd, o_inPart, o_inEven, o_enT, o_enL, ty_n, ty_b, ty_i, ty_s, ty_t, ty_l, g_n, g_b, g_i, g_s, g_t, g_l, put1, put2, put3, Option.some.injEq, SV.dat.injEq, SV.own.injEq, exists_eq_left', exists_eq_left, Option.bind_some, Bool.not_true, Bool.not_false, if_true, if_false, ite_true, ite_false, decide_true, decide_false, Bool.false_eq_true, reduceIte, true_and, and_true, ne_eq, not_false_eq_true, not_true_eq_false, c1]
  by_cases c2 : kind < 5
  · simp only [sw_ownL, sw_ownPar, seqD_l, seqD_t, lstAt, lstOf_own, lstOf_lst, ew_run, ew_ok, ew_var, ew_c, ew_op, ew_un, ew_nil, ew_cons, ew_cl, ew_toT, ew_not, ew_and, ew_or, ew_notE, ew_andE, ew_orE, ew_if, ew_ch, ew_call, ew_isi, ew_noO, ew_soO, ew_sl, ew_ownIx, ew_ownLen, ew_seqI, ew_rngI, ew_enI, ew_yes, ew_lc, sw_nx, sw_bad, sw_seq, sw_if, sw_ret, sw_drop, sw_asg, sw_aug, sw_own, sw_app, sw_ext, sw_frz, sw_forS, startR1, startR2, startR3, List.replicate, List.length_cons, List.length_nil, List.getElem?_cons_zero, List.getElem?_cons_succ, List.set_cons_zero, List.set_cons_succ, o_addI, o_subI, o_ltI, o_leI, o_gtI, o_geI, o_addII, o_eqII, o_eqSS, o_neII, o_neSS, o_eqBB, o_neBB, o_neg, o_ixT, o_ixL, atI_0, atI_1, atI_2, atI_last, o_max, o_min, o_int, o_tuple, o_list, o_lenL, o_lenT, o_tup0, o_tup1, o_tup2, o_tup3, asB_bl, asI_int, asL_lst, items_l, items_t, o_inRule, o_in23, o_in33, o_inLeast, o_inMost, o_inAdd, o_inPart, o_inEven, o_enT, o_enL, ty_n, ty_b, ty_i, ty_s, ty_t, ty_l, g_n, g_b, g_i, g_s, g_t, g_l, put1, put2, put3, Option.some.injEq, SV.dat.injEq, SV.own.injEq, exists_eq_left', exists_eq_left, Option.bind_some, Bool.not_true, Bool.not_false, if_true, if_false, ite_true, ite_false, decide_true, decide_false, Bool.false_eq_true, reduceIte, true_and, and_true, ne_eq, not_false_eq_true, not_true_eq_false, c2, o_lst (ds := [D.int 7, D.int 41, D.int 401]) (by decide), o_lst (ds := [D.int 0, D.int 3, D.int 20, D.int 200]) (by decide)]
    refine ew_pick h2 (by decide) (by decide) fun n d γ3 h3 hd => ?_
    obtain ⟨i, hi, rfl⟩ := mem_ints (l := [7, 41, 401]) hd
    simp at hi
    try simp only [sw_ownL, sw_ownPar, seqD_l, seqD_t, lstAt, lstOf_own, lstOf_lst, ew_run, ew_ok, ew_var, ew_c, ew_op, ew_un, ew_nil, ew_cons, ew_cl, ew_toT, ew_not, ew_and, ew_or, ew_notE, ew_andE, ew_orE, ew_if, ew_ch, ew_call, ew_isi, ew_noO, ew_soO, ew_sl, ew_ownIx, ew_ownLen, ew_seqI, ew_rngI, ew_enI, ew_yes, ew_lc, sw_nx, sw_bad, sw_seq, sw_if, sw_ret, sw_drop, sw_asg, sw_aug, sw_own, sw_app, sw_ext, sw_frz, sw_forS, startR1, startR2, startR3, List.replicate, List.length_cons, List.length_nil, List.getElem?_cons_zero, List.getElem?_cons_succ, List.set_cons_zero, List.set_cons_succ, o_addI, o_subI, o_ltI, o_leI, o_gtI, o_geI, o_addII, o_eqII, o_eqSS, o_neII, o_neSS, o_eqBB, o_neBB, o_neg, o_ixT, o_ixL, atI_0, atI_1, atI_2, atI_last, o_max, o_min, o_int, o_tuple, o_list, o_lenL, o_lenT, o_tup0, o_tup1, o_tup2, o_tup3, asB_bl, asI_int, asL_lst, items_l, items_t, o_inRule, o_in23, o_in33, o_inLeast, o_inMost, o_inAdd, o_inPart, o_inEven, o_enT, o_enL, ty_n, ty_b, ty_i, ty_s, ty_t, ty_l, g_n, g_b, g_i, g_s, g_t, g_l, put1, put2, put3, Option.some.injEq, SV.dat.injEq, SV.own.injEq, exists_eq_left', exists_eq_left, Option.bind_some, Bool.not_true, Bool.not_false, if_true, if_false, ite_true, ite_false, decide_true, decide_false, Bool.false_eq_true, reduceIte, true_and, and_true, ne_eq, not_false_eq_true, not_true_eq_false]
    refine ew_next h3 (by omega) (by omega) fun m γ4 h4 m0 m1 => ?_
    try simp only [sw_ownL, sw_ownPar, seqD_l, seqD_t, lstAt, lstOf_own, lstOf_lst, ew_run, ew_ok, ew_var, ew_c, ew_op, ew_un, ew_nil, ew_cons, ew_cl, ew_toT, ew_not, ew_and, ew_or, ew_notE, ew_andE, ew_orE, ew_if, ew_ch, ew_call, ew_isi, ew_noO, ew_soO, ew_sl, ew_ownIx, ew_ownLen, ew_seqI, ew_rngI, ew_enI, ew_yes, ew_lc, sw_nx, sw_bad, sw_seq, sw_if, sw_ret, sw_drop, sw_asg, sw_aug, sw_own, sw_app, sw_ext, sw_frz, sw_forS, startR1, startR2, startR3, List.replicate, List.length_cons, List.length_nil, List.getElem?_cons_zero, List.getElem?_cons_succ, List.set_cons_zero, List.set_cons_succ, o_addI, o_subI, o_ltI, o_leI, o_gtI, o_geI, o_addII, o_eqII, o_eqSS, o_neII, o_neSS, o_eqBB, o_neBB, o_neg, o_ixT, o_ixL, atI_0, atI_1, atI_2, atI_last, o_max, o_min, o_int, o_tuple, o_list, o_lenL, o_lenT, o_tup0, o_tup1, o_tup2, o_tup3, asB_bl, asI_int, asL_lst, items_l, items_t, o_inRule, o_in23, o_in33, o_inLeast, o_inMost, o_inAdd, o_inPart, o_inEven, o_enT, o_enL, ty_n, ty_b, ty_i, ty_s, ty_t, ty_l, g_n, g_b, g_i, g_s, g_t, g_l, put1, put2, put3, Option.some.injEq, SV.dat.injEq, SV.own.injEq, exists_eq_left', exists_eq_left, Option.bind_some, Bool.not_true, Bool.not_false, if_true, if_false, ite_true, ite_false, decide_true, decide_false, Bool.false_eq_true, reduceIte, true_and, and_true, ne_eq, not_false_eq_true, not_true_eq_false]
    refine ew_pick h4 (by decide) (by decide) fun n d γ5 h5 hd => ?_
    obtain ⟨j, hj, rfl⟩ := mem_ints (l := [0, 3, 20, 200]) hd
    simp at hj
    try simp only [sw_ownL, sw_ownPar, seqD_l, seqD_t, lstAt, lstOf_own, lstOf_lst, ew_run, ew_ok, ew_var, ew_c, ew_op, ew_un, ew_nil, ew_cons, ew_cl, ew_toT, ew_not, ew_and, ew_or, ew_notE, ew_andE, ew_orE, ew_if, ew_ch, ew_call, ew_isi, ew_noO, ew_soO, ew_sl, ew_ownIx, ew_ownLen, ew_seqI, ew_rngI, ew_enI, ew_yes, ew_lc, sw_nx, sw_bad, sw_seq, sw_if, sw_ret, sw_drop, sw_asg, sw_aug, sw_own, sw_app, sw_ext, sw_frz, sw_forS, startR1, startR2, startR3, List.replicate, List.length_cons, List.length_nil, List.getElem?_cons_zero, List.getElem?_cons_succ, List.set_cons_zero, List.set_cons_succ, o_addI, o_subI, o_ltI, o_leI, o_gtI, o_geI, o_addII, o_eqII, o_eqSS, o_neII, o_neSS, o_eqBB, o_neBB, o_neg, o_ixT, o_ixL, atI_0, atI_1, atI_2, atI_last, o_max, o_min, o_int, o_tuple, o_list, o_lenL, o_lenT, o_tup0, o_tup1, o_tup2, o_tup3, asB_bl, asI_int, asL_lst, items_l, items_t, o_inRule, o_in23, o_in33, o_inLeast, o_inMost, o_inAdd, o_inPart, o_inEven, o_enT, o_enL, ty_n, ty_b, ty_i, ty_s, ty_t, ty_l, g_n, g_b, g_i, g_s, g_t, g_l, put1, put2, put3, Option.some.injEq, SV.dat.injEq, SV.own.injEq, exists_eq_left', exists_eq_left, Option.bind_some, Bool.not_true, Bool.not_false, if_true, if_false, ite_true, ite_false, decide_true, decide_false, Bool.false_eq_true, reduceIte, true_and, and_true, ne_eq, not_false_eq_true, not_true_eq_false]
    refine k (.add (m - j)) γ5 h5 ?_
    show -200 ≤ m - j ∧ m - j ≤ 400
    omega
  simp only [sw_ownL, sw_ownPar, seqD_l, seqD_t, lstAt, lstOf_own, lstOf_lst, ew_run, ew_ok, ew_var, ew_c, ew_op, ew_un, ew_nil, ew_cons, ew_cl, ew_toT, ew_not, ew_and, ew_or, ew_notE, ew_andE, ew_orE, ew_if, ew_ch, ew_call, ew_isi, ew_noO, ew_soO, ew_sl, ew_ownIx, ew_ownLen, ew_seqI, ew_rngI, ew_enI, ew_yes, ew_lc, sw_nx, sw_bad, sw_seq, sw_if, sw_ret, sw_drop, sw_asg, sw_aug, sw_own, sw_app, sw_ext, sw_frz, sw_forS, startR1, startR2, startR3, List.replicate, List.length_cons, List.length_nil, List.getElem?_cons_zero, List.getElem?_cons_succ, List.set_cons_zero, List.set_cons_succ, o_addI, o_subI, o_ltI, o_leI, o_gtI, o_geI, o_addII, o_eqII, o_eqSS, o_neII, o_neSS, o_eqBB, o_neBB, o_neg, o_ixT, o_ixL, atI_0, atI_1, atI_2, atI_last, o_max, o_min, o_int, o_tuple, o_list, o_lenL, o_lenT, o_tup0, o_tup1, o_tup2, o_tup3, asB_bl, asI_int, asL_lst, items_l, items_t, o_inRule, o_in23, o_in33, o_inLeast, o_inMost, o_inAdd, o_inPart, o_inEven, o_enT, o_enL, ty_n, ty_b, ty_i, ty_s, ty_t, ty_l, g_n, g_b, g_i, g_s, g_t, g_l, put1, put2, put3, Option.some.injEq, SV.dat.injEq, SV.own.injEq, exists_eq_left', exists_eq_left, Option.bind_some, Bool.not_true, Bool.not_false, if_true, if_false, ite_true, ite_false, decide_true, decide_false, Bool.false_eq_true, reduceIte, true_and, and_true, ne_eq, not_false_eq_true, not_true_eq_false, c2]
  by_cases c3 : kind = 5
  · simp only [sw_ownL, sw_ownPar, seqD_l, seqD_t, lstAt, lstOf_own, lstOf_lst, ew_run, ew_ok, ew_var, ew_c, ew_op, ew_un, ew_nil, ew_cons, ew_cl, ew_toT, ew_not, ew_and, ew_or, ew_notE, ew_andE, ew_orE, ew_if, ew_ch, ew_call, ew_isi, ew_noO, ew_soO, ew_sl, ew_ownIx, ew_ownLen, ew_seqI, ew_rngI, ew_enI, ew_yes, ew_lc, sw_nx, sw_bad, sw_seq, sw_if, sw_ret, sw_drop, sw_asg, sw_aug, sw_own, sw_app, sw_ext, sw_frz, sw_forS, startR1, startR2, startR3, List.replicate, List.length_cons, List.length_nil, List.getElem?_cons_zero, List.getElem?_cons_succ, List.set_cons_zero, List.set_cons_succ, o_addI, o_subI, o_ltI, o_leI, o_gtI, o_geI, o_addII, o_eqII, o_eqSS, o_neII, o_neSS, o_eqBB, o_neBB, o_neg, o_ixT, o_ixL, atI_0, atI_1, atI_2, atI_last, o_max, o_min, o_int, o_tuple, o_list, o_lenL, o_lenT, o_tup0, o_tup1, o_tup2, o_tup3, asB_bl, asI_int, asL_lst, items_l, items_t, o_inRule, o_in23, o_in33, o_inLeast, o_inMost, o_inAdd, o_inPart, o_inEven, o_enT, o_enL, ty_n, ty_b, ty_i, ty_s, ty_t, ty_l, g_n, g_b, g_i, g_s, g_t, g_l, put1, put2, put3, Option.some.injEq, SV.dat.injEq, SV.own.injEq, exists_eq_left', exists_eq_left, Option.bind_some, Bool.not_true, Bool.not_false, if_true, if_false, ite_true, ite_false, decide_true, decide_false, Bool.false_eq_true, reduceIte, true_and, and_true, ne_eq, not_false_eq_true, not_true_eq_false, c3, o_lst (ds := [D.int 2, D.int 3, D.int 5, D.int 5, D.int 10, D.int 25, D.int 100]) (by decide)]
    refine ew_pick h2 (by decide) (by decide) fun n d γ3 h3 hd => ?_
    obtain ⟨i, hi, rfl⟩ := mem_ints (l := [2, 3, 5, 5, 10, 25, 100]) hd
    try simp only [sw_ownL, sw_ownPar, seqD_l, seqD_t, lstAt, lstOf_own, lstOf_lst, ew_run, ew_ok, ew_var, ew_c, ew_op, ew_un, ew_nil, ew_cons, ew_cl, ew_toT, ew_not, ew_and, ew_or, ew_notE, ew_andE, ew_orE, ew_if, ew_ch, ew_call, ew_isi, ew_noO, ew_soO, ew_sl, ew_ownIx, ew_ownLen, ew_seqI, ew_rngI, ew_enI, ew_yes, ew_lc, sw_nx, sw_bad, sw_seq, sw_if, sw_ret, sw_drop, sw_asg, sw_aug, sw_own, sw_app, sw_ext, sw_frz, sw_forS, startR1, startR2, startR3, List.replicate, List.length_cons, List.length_nil, List.getElem?_cons_zero, List.getElem?_cons_succ, List.set_cons_zero, List.set_cons_succ, o_addI, o_subI, o_ltI, o_leI, o_gtI, o_geI, o_addII, o_eqII, o_eqSS, o_neII, o_neSS, o_eqBB, o_neBB, o_neg, o_ixT, o_ixL, atI_0, atI_1, atI_2, atI_last, o_max, o_min, o_int, o_tuple, o_list, o_lenL, o_lenT, o_tup0, o_tup1, o_tup2, o_tup3, asB_bl, asI_int, asL_lst, items_l, items_t, o_inRule, o_in23, o_in33, o_inLeast, o_inMost, o_inAdd, o_inPart, o_inEven, o_enT, o_enL, ty_n, ty_b, ty_i, ty_s, ty_t, ty_l, g_n, g_b, g_i, g_s, g_t, g_l, put1, put2, put3, Option.some.injEq, SV.dat.injEq, SV.own.injEq, exists_eq_left', exists_eq_left, Option.bind_some, Bool.not_true, Bool.not_false, if_true, if_false, ite_true, ite_false, decide_true, decide_false, Bool.false_eq_true, reduceIte, true_and, and_true, ne_eq, not_false_eq_true, not_true_eq_false]
    refine k (.even i r) γ3 h3 ?_
    simp at hi
    show 2 ≤ i ∧ i ≤ 100
    omega
  simp only [sw_ownL, sw_ownPar, seqD_l, seqD_t, lstAt, lstOf_own, lstOf_lst, ew_run, ew_ok, ew_var, ew_c, ew_op, ew_un, ew_nil, ew_cons, ew_cl, ew_toT, ew_not, ew_and, ew_or, ew_notE, ew_andE, ew_orE, ew_if, ew_ch, ew_call, ew_isi, ew_noO, ew_soO, ew_sl, ew_ownIx, ew_ownLen, ew_seqI, ew_rngI, ew_enI, ew_yes, ew_lc, sw_nx, sw_bad, sw_seq, sw_if, sw_ret, sw_drop, sw_asg, sw_aug, sw_own, sw_app, sw_ext, sw_frz, sw_forS, startR1, startR2, startR3, List.replicate, List.length_cons, List.length_nil, List.getElem?_cons_zero, List.getElem?_cons_succ, List.set_cons_zero, List.set_cons_succ, o_addI, o_subI, o_ltI, o_leI, o_gtI, o_geI, o_addII, o_eqII, o_eqSS, o_neII, o_neSS, o_eqBB, o_neBB, o_neg, o_ixT, o_ixL, atI_0, atI_1, atI_2, atI_last, o_max, o_min, o_int, o_tuple, o_list, o_lenL, o_lenT, o_tup0, o_tup1, o_tup2, o_tup3, asB_bl, asI_int, asL_lst, items_l, items_t, o_inRule, o_in23, o_in33, o_inLeast, o_inMost, o_inAdd, o_inPart, o_inEven, o_enT, o_enL, ty_n, ty_b, ty_i, ty_s, ty_t, ty_l, g_n, g_b, g_i, g_s, g_t, g_l, put1, put2, put3, Option.some.injEq, SV.dat.injEq, SV.own.injEq, exists_eq_left', exists_eq_left, Option.bind_some, Bool.not_true, Bool.not_false, if_true, if_false, ite_true, ite_false, decide_true, decide_false, Bool.false_eq_true, reduceIte, true_and, and_true, ne_eq, not_false_eq_true, not_true_eq_false, c3, o_lst (ds := [D.str (Str.ofString "least"), D.str (Str.ofString "most"), D.str (Str.ofString "least")]) (by decide), o_lst (ds := [D.int 9, D.int 60, D.int 301]) (by decide)]
  refine ew_pick h2 (by decide) (by decide) fun n d γ3 h3 hd => ?_
  try simp only [sw_ownL, sw_ownPar, seqD_l, seqD_t, lstAt, lstOf_own, lstOf_lst, ew_run, ew_ok, ew_var, ew_c, ew_op, ew_un, ew_nil, ew_cons, ew_cl, ew_toT, ew_not, ew_and, ew_or, ew_notE, ew_andE, ew_orE, ew_if, ew_ch, ew_call, ew_isi, ew_noO, ew_soO, ew_sl, ew_ownIx, ew_ownLen, ew_seqI, ew_rngI, ew_enI, ew_yes, ew_lc, sw_nx, sw_bad, sw_seq, sw_if, sw_ret, sw_drop, sw_asg, sw_aug, sw_own, sw_app, sw_ext, sw_frz, sw_forS, startR1, startR2, startR3, List.replicate, List.length_cons, List.length_nil, List.getElem?_cons_zero, List.getElem?_cons_succ, List.set_cons_zero, List.set_cons_succ, o_addI, o_subI, o_ltI, o_leI, o_gtI, o_geI, o_addII, o_eqII, o_eqSS, o_neII, o_neSS, o_eqBB, o_neBB, o_neg, o_ixT, o_ixL, atI_0, atI_1, atI_2, atI_last, o_max, o_min, o_int, o_tuple, o_list, o_lenL, o_lenT, o_tup0, o_tup1, o_tup2, o_tup3, asB_bl, asI_int, asL_lst, items_l, items_t, o_inRule, o_in23, o_in33, o_inLeast, o_inMost, o_inAdd, o_inPart, o_inEven, o_enT, o_enL, ty_n, ty_b, ty_i, ty_s, ty_t, ty_l, g_n, g_b, g_i, g_s, g_t, g_l, put1, put2, put3, Option.some.injEq, SV.dat.injEq, SV.own.injEq, exists_eq_left', exists_eq_left, Option.bind_some, Bool.not_true, Bool.not_false, if_true, if_false, ite_true, ite_false, decide_true, decide_false, Bool.false_eq_true, reduceIte, true_and, and_true, ne_eq, not_false_eq_true, not_true_eq_false]
  refine ew_pick h3 (by decide) (by decide) fun n' d' γ4 h4 hd' => ?_
  obtain ⟨i, hi, rfl⟩ := mem_ints (l := [9, 60, 301]) hd'
  simp at hi
  try simp only [sw_ownL, sw_ownPar, seqD_l, seqD_t, lstAt, lstOf_own, lstOf_lst, ew_run, ew_ok, ew_var, ew_c, ew_op, ew_un, ew_nil, ew_cons, ew_cl, ew_toT, ew_not, ew_and, ew_or, ew_notE, ew_andE, ew_orE, ew_if, ew_ch, ew_call, ew_isi, ew_noO, ew_soO, ew_sl, ew_ownIx, ew_ownLen, ew_seqI, ew_rngI, ew_enI, ew_yes, ew_lc, sw_nx, sw_bad, sw_seq, sw_if, sw_ret, sw_drop, sw_asg, sw_aug, sw_own, sw_app, sw_ext, sw_frz, sw_forS, startR1, startR2, startR3, List.replicate, List.length_cons, List.length_nil, List.getElem?_cons_zero, List.getElem?_cons_succ, List.set_cons_zero, List.set_cons_succ, o_addI, o_subI, o_ltI, o_leI, o_gtI, o_geI, o_addII, o_eqII, o_eqSS, o_neII, o_neSS, o_eqBB, o_neBB, o_neg, o_ixT, o_ixL, atI_0, atI_1, atI_2, atI_last, o_max, o_min, o_int, o_tuple, o_list, o_lenL, o_lenT, o_tup0, o_tup1, o_tup2, o_tup3, asB_bl, asI_int, asL_lst, items_l, items_t, o_inRule, o_in23, o_in33, o_inLeast, o_inMost, o_inAdd, o_inPart, o_inEven, o_enT, o_enL, ty_n, ty_b, ty_i, ty_s, ty_t, ty_l, g_n, g_b, g_i, g_s, g_t, g_l, put1, put2, put3, Option.some.injEq, SV.dat.injEq, SV.own.injEq, exists_eq_left', exists_eq_left, Option.bind_some, Bool.not_true, Bool.not_false, if_true, if_false, ite_true, ite_false, decide_true, decide_false, Bool.false_eq_true, reduceIte, true_and, and_true, ne_eq, not_false_eq_true, not_true_eq_false]
  refine ew_next h4 (by omega) (by omega) fun m γ5 h5 m0 m1 => ?_
  try simp only [sw_ownL, sw_ownPar, seqD_l, seqD_t, lstAt, lstOf_own, lstOf_lst, ew_run, ew_ok, ew_var, ew_c, ew_op, ew_un, ew_nil, ew_cons, ew_cl, ew_toT, ew_not, ew_and, ew_or, ew_notE, ew_andE, ew_orE, ew_if, ew_ch, ew_call, ew_isi, ew_noO, ew_soO, ew_sl, ew_ownIx, ew_ownLen, ew_seqI, ew_rngI, ew_enI, ew_yes, ew_lc, sw_nx, sw_bad, sw_seq, sw_if, sw_ret, sw_drop, sw_asg, sw_aug, sw_own, sw_app, sw_ext, sw_frz, sw_forS, startR1, startR2, startR3, List.replicate, List.length_cons, List.length_nil, List.getElem?_cons_zero, List.getElem?_cons_succ, List.set_cons_zero, List.set_cons_succ, o_addI, o_subI, o_ltI, o_leI, o_gtI, o_geI, o_addII, o_eqII, o_eqSS, o_neII, o_neSS, o_eqBB, o_neBB, o_neg, o_ixT, o_ixL, atI_0, atI_1, atI_2, atI_last, o_max, o_min, o_int, o_tuple, o_list, o_lenL, o_lenT, o_tup0, o_tup1, o_tup2, o_tup3, asB_bl, asI_int, asL_lst, items_l, items_t, o_inRule, o_in23, o_in33, o_inLeast, o_inMost, o_inAdd, o_inPart, o_inEven, o_enT, o_enL, ty_n, ty_b, ty_i, ty_s, ty_t, ty_l, g_n, g_b, g_i, g_s, g_t, g_l, put1, put2, put3, Option.some.injEq, SV.dat.injEq, SV.own.injEq, exists_eq_left', exists_eq_left, Option.bind_some, Bool.not_true, Bool.not_false, if_true, if_false, ite_true, ite_false, decide_true, decide_false, Bool.false_eq_true, reduceIte, true_and, and_true, ne_eq, not_false_eq_true, not_true_eq_false]
  match n, hd with
  | 0, hd => cases hd; exact k (.least m) γ5 h5 ⟨m0, by omega⟩
  | 1, hd => cases hd; exact k (.most m) γ5 h5 ⟨m0, by omega⟩
  | 2, hd => cases hd; exact k (.least m) γ5 h5 ⟨m0, by omega⟩
/-- steps as the laws draw them -/
def DrawnS (s : Steps) : Prop := ∀ x ∈ s, x.ok ∧ (match x with | .part p _ => p = 0 ∨ 25 ≤ p | _ => True)
theorem DrawnS.ok {s : Steps} (h : DrawnS s) : Ok s := fun x hx => (h x hx).1
def clampS : TM.Step → TM.Step
  | .add c => .add (max (-200) (min 200 c))
  | x => x
theorem clamp_drawn {x : TM.Step} (h : Drawn x) : (clampS x).ok ∧ (match clampS x with | .part p _ => p = 0 ∨ 25 ≤ p | _ => True) := by
  cases x with
  | part p r =>
    have h : p = 0 ∨ (25 ≤ p ∧ p ≤ 200) := h
    refine ⟨?_, ?_⟩
    · show 0 ≤ p ∧ p ≤ 200
      omega
    · show p = 0 ∨ 25 ≤ p
      omega
  | add c =>
    refine ⟨?_, trivial⟩
    show -200 ≤ max (-200) (min 200 c) ∧ max (-200) (min 200 c) ≤ 200
    omega
  | even m r => exact ⟨h, trivial⟩
  | least c =>
    have h : 0 ≤ c ∧ c ≤ 300 := h
    refine ⟨?_, trivial⟩
    show 0 ≤ c ∧ c ≤ 1000
    omega
  | most c =>
    have h : 0 ≤ c ∧ c ≤ 300 := h
    refine ⟨?_, trivial⟩
    show 0 ≤ c ∧ c ≤ 1000
    omega
theorem ew_steps {γ : GS} (h : GOk γ) {m : Int} (h0 : 0 ≤ m) (h1 : m ≤ 6) {Q : D → G → Prop} (k : ∀ s γ', GOk γ' → DrawnS s → (s.length : Int) ≤ m → Q (dS s) (some γ')) : EW (d__law_steps [.gen, .int m] (some γ)) Q := by
  unfold d__law_steps b__law_steps
  simp only [sw_ownL, sw_ownPar, seqD_l, seqD_t, lstAt, lstOf_own, lstOf_lst, ew_run, ew_ok, ew_var, ew_c, ew_op, ew_un, ew_nil, ew_cons, ew_cl, ew_toT, ew_not, ew_and, ew_or, ew_notE, ew_andE, ew_orE, ew_if, ew_ch, ew_call, ew_isi, ew_noO, ew_soO, ew_sl, ew_ownIx, ew_ownLen, ew_seqI, ew_rngI, ew_enI, ew_yes, ew_lc, sw_nx, sw_bad, sw_seq, sw_if, sw_ret, sw_drop, sw_asg, sw_aug, sw_own, sw_app, sw_ext, sw_frz, sw_forS, startR1, startR2, startR3, List.replicate, List.length_cons, List.length_nil, List.getElem?_cons_zero, List.getElem?_cons_succ, List.set_cons_zero, List.set_cons_succ, o_addI, o_subI, o_ltI, o_leI, o_gtI, o_geI, o_addII, o_eqII, o_eqSS, o_neII, o_neSS, o_eqBB, o_neBB, o_neg, o_ixT, o_ixL, atI_0, atI_1, atI_2, atI_last, o_max, o_min, o_int, o_tuple, o_list, o_lenL, o_lenT, o_tup0, o_tup1, o_tup2, o_tup3, asB_bl, asI_int, asL_lst, items_l, items_t, o_inRule, o_in23, o_in33, o_inLeast, o_inMost, o_inAdd, o_inPart, o_inEven, o_enT, o_enL, ty_n, ty_b, ty_i, ty_s, ty_t, ty_l, g_n, g_b, g_i, g_s, g_t, g_l, put1, put2, put3, Option.some.injEq, SV.dat.injEq, SV.own.injEq, exists_eq_left', exists_eq_left, Option.bind_some, Bool.not_true, Bool.not_false, if_true, if_false, ite_true, ite_false, decide_true, decide_false, Bool.false_eq_true, reduceIte, true_and, and_true, ne_eq, not_false_eq_true, not_true_eq_false]
  refine ew_next h (by omega) (by omega) fun n γ1 g1 n0 n1 => ?_
  simp only [sw_ownL, sw_ownPar, seqD_l, seqD_t, lstAt, lstOf_own, lstOf_lst, ew_run, ew_ok, ew_var, ew_c, ew_op, ew_un, ew_nil, ew_cons, ew_cl, ew_toT, ew_not, ew_and, ew_or, ew_notE, ew_andE, ew_orE, ew_if, ew_ch, ew_call, ew_isi, ew_noO, ew_soO, ew_sl, ew_ownIx, ew_ownLen, ew_seqI, ew_rngI, ew_enI, ew_yes, ew_lc, sw_nx, sw_bad, sw_seq, sw_if, sw_ret, sw_drop, sw_asg, sw_aug, sw_own, sw_app, sw_ext, sw_frz, sw_forS, startR1, startR2, startR3, List.replicate, List.length_cons, List.length_nil, List.getElem?_cons_zero, List.getElem?_cons_succ, List.set_cons_zero, List.set_cons_succ, o_addI, o_subI, o_ltI, o_leI, o_gtI, o_geI, o_addII, o_eqII, o_eqSS, o_neII, o_neSS, o_eqBB, o_neBB, o_neg, o_ixT, o_ixL, atI_0, atI_1, atI_2, atI_last, o_max, o_min, o_int, o_tuple, o_list, o_lenL, o_lenT, o_tup0, o_tup1, o_tup2, o_tup3, asB_bl, asI_int, asL_lst, items_l, items_t, o_inRule, o_in23, o_in33, o_inLeast, o_inMost, o_inAdd, o_inPart, o_inEven, o_enT, o_enL, ty_n, ty_b, ty_i, ty_s, ty_t, ty_l, g_n, g_b, g_i, g_s, g_t, g_l, put1, put2, put3, Option.some.injEq, SV.dat.injEq, SV.own.injEq, exists_eq_left', exists_eq_left, Option.bind_some, Bool.not_true, Bool.not_false, if_true, if_false, ite_true, ite_false, decide_true, decide_false, Bool.false_eq_true, reduceIte, true_and, and_true, ne_eq, not_false_eq_true, not_true_eq_false, o_rng1 (j := n) n0 (by omega)]
  refine ew_lcL (fun ds acc g => ∃ γ' s, g = some γ' ∧ GOk γ' ∧ acc = s.map dStep ∧ (∀ x ∈ s, Drawn x) ∧ s.length + ds.length = n.toNat) ?_ (acc := []) ⟨γ1, [], rfl, g1, rfl, (fun x hx => by cases hx), by simp [rngInts]⟩ ?_
  · rintro d ds acc g ⟨γ', s, rfl, hγ, rfl, hs, hl⟩
    refine ⟨_, rfl, ?_⟩
    simp only [sw_ownL, sw_ownPar, seqD_l, seqD_t, lstAt, lstOf_own, lstOf_lst, ew_run, ew_ok, ew_var, ew_c, ew_op, ew_un, ew_nil, ew_cons, ew_cl, ew_toT, ew_not, ew_and, ew_or, ew_notE, ew_andE, ew_orE, ew_if, ew_ch, ew_call, ew_isi, ew_noO, ew_soO, ew_sl, ew_ownIx, ew_ownLen, ew_seqI, ew_rngI, ew_enI, ew_yes, ew_lc, sw_nx, sw_bad, sw_seq, sw_if, sw_ret, sw_drop, sw_asg, sw_aug, sw_own, sw_app, sw_ext, sw_frz, sw_forS, startR1, startR2, startR3, List.replicate, List.length_cons, List.length_nil, List.getElem?_cons_zero, List.getElem?_cons_succ, List.set_cons_zero, List.set_cons_succ, o_addI, o_subI, o_ltI, o_leI, o_gtI, o_geI, o_addII, o_eqII, o_eqSS, o_neII, o_neSS, o_eqBB, o_neBB, o_neg, o_ixT, o_ixL, atI_0, atI_1, atI_2, atI_last, o_max, o_min, o_int, o_tuple, o_list, o_lenL, o_lenT, o_tup0, o_tup1, o_tup2, o_tup3, asB_bl, asI_int, asL_lst, items_l, items_t, o_inRule, o_in23, o_in33, o_inLeast, o_inMost, o_inAdd, o_inPart, o_inEven, o_enT, o_enL, ty_n, ty_b, ty_i, ty_s, ty_t, ty_l, g_n, g_b, g_i, g_s, g_t, g_l, put1, put2, put3, Option.some.injEq, SV.dat.injEq, SV.own.injEq, exists_eq_left', exists_eq_left, Option.bind_some, Bool.not_true, Bool.not_false, if_true, if_false, ite_true, ite_false, decide_true, decide_false, Bool.false_eq_true, reduceIte, true_and, and_true, ne_eq, not_false_eq_true, not_true_eq_false, wipeR]
    refine ew_step hγ fun x γ2 h2 hx => ⟨γ2, s ++ [x], rfl, h2, by simp, fun y hy => ?_, by simp at hl ⊢; omega⟩
    rcases List.mem_append.mp hy with q | q
    · exact hs y q
    · rw [List.mem_singleton.mp q]; exact hx
  · rintro acc' g' ⟨γ', s, rfl, hγ, e, hs, hl⟩
    rw [List.nil_append] at e
    subst e
    have hl' : s.length ≤ 6 := by simp at hl; omega
    refine ⟨by rw [List.length_map]; exact Nat.le_trans hl' (by decide), ?_⟩
    simp only [sw_ownL, sw_ownPar, seqD_l, seqD_t, lstAt, lstOf_own, lstOf_lst, ew_run, ew_ok, ew_var, ew_c, ew_op, ew_un, ew_nil, ew_cons, ew_cl, ew_toT, ew_not, ew_and, ew_or, ew_notE, ew_andE, ew_orE, ew_if, ew_ch, ew_call, ew_isi, ew_noO, ew_soO, ew_sl, ew_ownIx, ew_ownLen, ew_seqI, ew_rngI, ew_enI, ew_yes, ew_lc, sw_nx, sw_bad, sw_seq, sw_if, sw_ret, sw_drop, sw_asg, sw_aug, sw_own, sw_app, sw_ext, sw_frz, sw_forS, startR1, startR2, startR3, List.replicate, List.length_cons, List.length_nil, List.getElem?_cons_zero, List.getElem?_cons_succ, List.set_cons_zero, List.set_cons_succ, o_addI, o_subI, o_ltI, o_leI, o_gtI, o_geI, o_addII, o_eqII, o_eqSS, o_neII, o_neSS, o_eqBB, o_neBB, o_neg, o_ixT, o_ixL, atI_0, atI_1, atI_2, atI_last, o_max, o_min, o_int, o_tuple, o_list, o_lenL, o_lenT, o_tup0, o_tup1, o_tup2, o_tup3, asB_bl, asI_int, asL_lst, items_l, items_t, o_inRule, o_in23, o_in33, o_inLeast, o_inMost, o_inAdd, o_inPart, o_inEven, o_enT, o_enL, ty_n, ty_b, ty_i, ty_s, ty_t, ty_l, g_n, g_b, g_i, g_s, g_t, g_l, put1, put2, put3, Option.some.injEq, SV.dat.injEq, SV.own.injEq, exists_eq_left', exists_eq_left, Option.bind_some, Bool.not_true, Bool.not_false, if_true, if_false, ite_true, ite_false, decide_true, decide_false, Bool.false_eq_true, reduceIte, true_and, and_true, ne_eq, not_false_eq_true, not_true_eq_false, wipeR]
    rw [lcL_map dStep (fun x => dStep (clampS x)) s (fun x hx => ⟨_, rfl, by
        refine ew_eq ?_
        cases x <;> simp only [dStep, clampS, sw_ownL, sw_ownPar, seqD_l, seqD_t, lstAt, lstOf_own, lstOf_lst, ew_run, ew_ok, ew_var, ew_c, ew_op, ew_un, ew_nil, ew_cons, ew_cl, ew_toT, ew_not, ew_and, ew_or, ew_notE, ew_andE, ew_orE, ew_if, ew_ch, ew_call, ew_isi, ew_noO, ew_soO, ew_sl, ew_ownIx, ew_ownLen, ew_seqI, ew_rngI, ew_enI, ew_yes, ew_lc, sw_nx, sw_bad, sw_seq, sw_if, sw_ret, sw_drop, sw_asg, sw_aug, sw_own, sw_app, sw_ext, sw_frz, sw_forS, startR1, startR2, startR3, List.replicate, List.length_cons, List.length_nil, List.getElem?_cons_zero, List.getElem?_cons_succ, List.set_cons_zero, List.set_cons_succ, o_addI, o_subI, o_ltI, o_leI, o_gtI, o_geI, o_addII, o_eqII, o_eqSS, o_neII, o_neSS, o_eqBB, o_neBB, o_neg, o_ixT, o_ixL, atI_0, atI_1, atI_2, atI_last, o_max, o_min, o_int, o_tuple, o_list, o_lenL, o_lenT, o_tup0, o_tup1, o_tup2, o_tup3, asB_bl, asI_int, asL_lst, items_l, items_t, o_inRule, o_in23, o_in33, o_inLeast, o_inMost, o_inAdd, o_inPart, o_inEven, o_enT, o_enL, ty_n, ty_b, ty_i, ty_s, ty_t, ty_l, g_n, g_b, g_i, g_s, g_t, g_l, put1, put2, put3, Option.some.injEq, SV.dat.injEq, SV.own.injEq, exists_eq_left', exists_eq_left, Option.bind_some, Bool.not_true, Bool.not_false, if_true, if_false, ite_true, ite_false, decide_true, decide_false, Bool.false_eq_true, reduceIte, true_and, and_true, ne_eq, not_false_eq_true, not_true_eq_false, x_part_add, x_part_even, x_part_least, x_part_most, x_part_down, x_part_up, x_part_near, x_add_part, x_add_even, x_add_least, x_add_most, x_add_down, x_add_up, x_add_near, x_even_part, x_even_add, x_even_least, x_even_most, x_even_down, x_even_up, x_even_near, x_least_part, x_least_add, x_least_even, x_least_most, x_least_down, x_least_up, x_least_near, x_most_part, x_most_add, x_most_even, x_most_least, x_most_down, x_most_up, x_most_near, x_down_part, x_down_add, x_down_even, x_down_least, x_down_most, x_down_up, x_down_near, x_up_part, x_up_add, x_up_even, x_up_least, x_up_most, x_up_down, x_up_near, x_near_part, x_near_add, x_near_even, x_near_least, x_near_most, x_near_down, x_near_up]⟩)]
    simp only [sw_ownL, sw_ownPar, seqD_l, seqD_t, lstAt, lstOf_own, lstOf_lst, ew_run, ew_ok, ew_var, ew_c, ew_op, ew_un, ew_nil, ew_cons, ew_cl, ew_toT, ew_not, ew_and, ew_or, ew_notE, ew_andE, ew_orE, ew_if, ew_ch, ew_call, ew_isi, ew_noO, ew_soO, ew_sl, ew_ownIx, ew_ownLen, ew_seqI, ew_rngI, ew_enI, ew_yes, ew_lc, sw_nx, sw_bad, sw_seq, sw_if, sw_ret, sw_drop, sw_asg, sw_aug, sw_own, sw_app, sw_ext, sw_frz, sw_forS, startR1, startR2, startR3, List.replicate, List.length_cons, List.length_nil, List.getElem?_cons_zero, List.getElem?_cons_succ, List.set_cons_zero, List.set_cons_succ, o_addI, o_subI, o_ltI, o_leI, o_gtI, o_geI, o_addII, o_eqII, o_eqSS, o_neII, o_neSS, o_eqBB, o_neBB, o_neg, o_ixT, o_ixL, atI_0, atI_1, atI_2, atI_last, o_max, o_min, o_int, o_tuple, o_list, o_lenL, o_lenT, o_tup0, o_tup1, o_tup2, o_tup3, asB_bl, asI_int, asL_lst, items_l, items_t, o_inRule, o_in23, o_in33, o_inLeast, o_inMost, o_inAdd, o_inPart, o_inEven, o_enT, o_enL, ty_n, ty_b, ty_i, ty_s, ty_t, ty_l, g_n, g_b, g_i, g_s, g_t, g_l, put1, put2, put3, Option.some.injEq, SV.dat.injEq, SV.own.injEq, exists_eq_left', exists_eq_left, Option.bind_some, Bool.not_true, Bool.not_false, if_true, if_false, ite_true, ite_false, decide_true, decide_false, Bool.false_eq_true, reduceIte, true_and, and_true, ne_eq, not_false_eq_true, not_true_eq_false]
    refine ⟨by rw [List.length_map]; exact Nat.le_trans hl' (by decide), ?_⟩
    have e : s.map (fun x => dStep (clampS x)) = (s.map clampS).map dStep := by rw [List.map_map]; rfl
    rw [e]
    refine k (s.map clampS) γ' hγ (fun y hy => ?_) (by rw [List.length_map]; simp at hl; omega)
    obtain ⟨x, hx, rfl⟩ := List.mem_map.mp hy
    exact clamp_drawn (hs x hx)
/-- data that are compared place by place, at most so deep -/
def Plain : Nat → D → Prop
  | 0, _ => False
  | _ + 1, .non => True
  | _ + 1, .bl _ => True
  | _ + 1, .int _ => True
  | _ + 1, .str _ => True
  | n + 1, .tup ds => (ds.length : Int) < 2 ^ 62 ∧ ∀ d ∈ ds, Plain n d
  | n + 1, .lst ds => (ds.length : Int) < 2 ^ 62 ∧ ∀ d ∈ ds, Plain n d
  | _ + 1, .gen => False
  | _ + 1, .scr _ => False
theorem e_alike : ∀ (n : Nat) (d : D), Plain n d → ∀ g, e__law_alike n [d, d] g = .ok (.bl true) g
  | 0, d, h, g => h.elim
  | n + 1, d, h, g => by
    have ih := e_alike n
    have t1 : (["tuple", "list"].any fun t => subTy "NoneType" t) = false := by decide
    have t2 : (["tuple", "list"].any fun t => subTy "bool" t) = false := by decide
    have t3 : (["tuple", "list"].any fun t => subTy "int" t) = false := by decide
    have t4 : (["tuple", "list"].any fun t => subTy "str" t) = false := by decide
    have t5 : (["tuple", "list"].any fun t => subTy "tuple" t) = true := by decide
    have t6 : (["tuple", "list"].any fun t => subTy "list" t) = true := by decide
    have s1 : (["str"].any fun t => subTy "NoneType" t) = false := by decide
    have s2 : (["str"].any fun t => subTy "bool" t) = false := by decide
    have s3 : (["str"].any fun t => subTy "int" t) = false := by decide
    have s4 : (["str"].any fun t => subTy "str" t) = true := by decide
    have i2 : (["int"].any fun t => subTy "bool" t) = true := by decide
    have i3 : (["int"].any fun t => subTy "int" t) = true := by decide
    have b2 : (["bool"].any fun t => subTy "bool" t) = true := by decide
    have b3 : (["bool"].any fun t => subTy "int" t) = false := by decide
    have seqs : ∀ (ds : List D), (ds.length : Int) < 2 ^ 62 → (∀ d ∈ ds, Plain n d) → ∀ (s : D), (∀ (j : Nat) d, ds[j]? = some d → ixO s (.int (0 + (j : Nat))) = some d) → 
        lcL (.one 2) (notT (toT (callE 2 (e__law_alike n) (consA (opE ixO (varE 0) (varE 2)) (consA (opE ixO (varE 1) (varE 2)) nilA))))) (varE 2) [some (.dat s), some (.dat s), none] (rngInts 0 ((ds.length : Int)).toNat) g = .ok [] g := fun ds hl hp s hs => by
      have := lcL_pure (t := .one 2) (ft := notT (toT (callE 2 (e__law_alike n) (consA (opE ixO (varE 0) (varE 2)) (consA (opE ixO (varE 1) (varE 2)) nilA))))) (fe := varE 2) (ρ := [some (.dat s), some (.dat s), none]) (g := g) (fun i : Nat => D.int (0 + (i : Nat))) (fun _ => false) (fun i : Nat => D.int (0 + (i : Nat))) (List.range ((ds.length : Int)).toNat) fun x hx => by
        refine ⟨_, rfl, ?_, fun q => by cases q⟩
        refine ew_eq ?_
        have hx' : x < ds.length := by simpa using hx
        have e1 := hs x ds[x] (List.getElem?_eq_getElem hx')
        simp only [sw_ownL, sw_ownPar, seqD_l, seqD_t, lstAt, lstOf_own, lstOf_lst, ew_run, ew_ok, ew_var, ew_c, ew_op, ew_un, ew_nil, ew_cons, ew_cl, ew_toT, ew_not, ew_and, ew_or, ew_notE, ew_andE, ew_orE, ew_if, ew_ch, ew_call, ew_isi, ew_noO, ew_soO, ew_sl, ew_ownIx, ew_ownLen, ew_seqI, ew_rngI, ew_enI, ew_yes, ew_lc, sw_nx, sw_bad, sw_seq, sw_if, sw_ret, sw_drop, sw_asg, sw_aug, sw_own, sw_app, sw_ext, sw_frz, sw_forS, startR1, startR2, startR3, List.replicate, List.length_cons, List.length_nil, List.getElem?_cons_zero, List.getElem?_cons_succ, List.set_cons_zero, List.set_cons_succ, o_addI, o_subI, o_ltI, o_leI, o_gtI, o_geI, o_addII, o_eqII, o_eqSS, o_neII, o_neSS, o_eqBB, o_neBB, o_neg, o_ixT, o_ixL, atI_0, atI_1, atI_2, atI_last, o_max, o_min, o_int, o_tuple, o_list, o_lenL, o_lenT, o_tup0, o_tup1, o_tup2, o_tup3, asB_bl, asI_int, asL_lst, items_l, items_t, o_inRule, o_in23, o_in33, o_inLeast, o_inMost, o_inAdd, o_inPart, o_inEven, o_enT, o_enL, ty_n, ty_b, ty_i, ty_s, ty_t, ty_l, g_n, g_b, g_i, g_s, g_t, g_l, put1, put2, put3, Option.some.injEq, SV.dat.injEq, SV.own.injEq, exists_eq_left', exists_eq_left, Option.bind_some, Bool.not_true, Bool.not_false, if_true, if_false, ite_true, ite_false, decide_true, decide_false, Bool.false_eq_true, reduceIte, true_and, and_true, ne_eq, not_false_eq_true, not_true_eq_false, e1, ih _ (hp _ (List.getElem_mem hx')) g]
      rw [show rngInts 0 ((ds.length : Int)).toNat = (List.range ((ds.length : Int)).toNat).map (fun i : Nat => D.int (0 + (i : Nat))) from rfl, this]
      simp
    refine ew_eq ?_
    unfold e__law_alike b__law_alike
    cases d with
    | non => 
      have : eqO .non .non = some (.bl true) := rfl
      have n1 : isNO .non .non = some (.bl true) := rfl
      simp only [sw_ownL, sw_ownPar, seqD_l, seqD_t, lstAt, lstOf_own, lstOf_lst, ew_run, ew_ok, ew_var, ew_c, ew_op, ew_un, ew_nil, ew_cons, ew_cl, ew_toT, ew_not, ew_and, ew_or, ew_notE, ew_andE, ew_orE, ew_if, ew_ch, ew_call, ew_isi, ew_noO, ew_soO, ew_sl, ew_ownIx, ew_ownLen, ew_seqI, ew_rngI, ew_enI, ew_yes, ew_lc, sw_nx, sw_bad, sw_seq, sw_if, sw_ret, sw_drop, sw_asg, sw_aug, sw_own, sw_app, sw_ext, sw_frz, sw_forS, startR1, startR2, startR3, List.replicate, List.length_cons, List.length_nil, List.getElem?_cons_zero, List.getElem?_cons_succ, List.set_cons_zero, List.set_cons_succ, o_addI, o_subI, o_ltI, o_leI, o_gtI, o_geI, o_addII, o_eqII, o_eqSS, o_neII, o_neSS, o_eqBB, o_neBB, o_neg, o_ixT, o_ixL, atI_0, atI_1, atI_2, atI_last, o_max, o_min, o_int, o_tuple, o_list, o_lenL, o_lenT, o_tup0, o_tup1, o_tup2, o_tup3, asB_bl, asI_int, asL_lst, items_l, items_t, o_inRule, o_in23, o_in33, o_inLeast, o_inMost, o_inAdd, o_inPart, o_inEven, o_enT, o_enL, ty_n, ty_b, ty_i, ty_s, ty_t, ty_l, g_n, g_b, g_i, g_s, g_t, g_l, put1, put2, put3, Option.some.injEq, SV.dat.injEq, SV.own.injEq, exists_eq_left', exists_eq_left, Option.bind_some, Bool.not_true, Bool.not_false, if_true, if_false, ite_true, ite_false, decide_true, decide_false, Bool.false_eq_true, reduceIte, true_and, and_true, ne_eq, not_false_eq_true, not_true_eq_false, t1, s1, n1, this, and_self]
    | bl b =>
      have n1 : isNO (.bl b) .non = some (.bl false) := rfl
      simp only [sw_ownL, sw_ownPar, seqD_l, seqD_t, lstAt, lstOf_own, lstOf_lst, ew_run, ew_ok, ew_var, ew_c, ew_op, ew_un, ew_nil, ew_cons, ew_cl, ew_toT, ew_not, ew_and, ew_or, ew_notE, ew_andE, ew_orE, ew_if, ew_ch, ew_call, ew_isi, ew_noO, ew_soO, ew_sl, ew_ownIx, ew_ownLen, ew_seqI, ew_rngI, ew_enI, ew_yes, ew_lc, sw_nx, sw_bad, sw_seq, sw_if, sw_ret, sw_drop, sw_asg, sw_aug, sw_own, sw_app, sw_ext, sw_frz, sw_forS, startR1, startR2, startR3, List.replicate, List.length_cons, List.length_nil, List.getElem?_cons_zero, List.getElem?_cons_succ, List.set_cons_zero, List.set_cons_succ, o_addI, o_subI, o_ltI, o_leI, o_gtI, o_geI, o_addII, o_eqII, o_eqSS, o_neII, o_neSS, o_eqBB, o_neBB, o_neg, o_ixT, o_ixL, atI_0, atI_1, atI_2, atI_last, o_max, o_min, o_int, o_tuple, o_list, o_lenL, o_lenT, o_tup0, o_tup1, o_tup2, o_tup3, asB_bl, asI_int, asL_lst, items_l, items_t, o_inRule, o_in23, o_in33, o_inLeast, o_inMost, o_inAdd, o_inPart, o_inEven, o_enT, o_enL, ty_n, ty_b, ty_i, ty_s, ty_t, ty_l, g_n, g_b, g_i, g_s, g_t, g_l, put1, put2, put3, Option.some.injEq, SV.dat.injEq, SV.own.injEq, exists_eq_left', exists_eq_left, Option.bind_some, Bool.not_true, Bool.not_false, if_true, if_false, ite_true, ite_false, decide_true, decide_false, Bool.false_eq_true, reduceIte, true_and, and_true, ne_eq, not_false_eq_true, not_true_eq_false, t2, s2, n1, i2, b2, and_self]
    | int i =>
      have n1 : isNO (.int i) .non = some (.bl false) := rfl
      simp only [sw_ownL, sw_ownPar, seqD_l, seqD_t, lstAt, lstOf_own, lstOf_lst, ew_run, ew_ok, ew_var, ew_c, ew_op, ew_un, ew_nil, ew_cons, ew_cl, ew_toT, ew_not, ew_and, ew_or, ew_notE, ew_andE, ew_orE, ew_if, ew_ch, ew_call, ew_isi, ew_noO, ew_soO, ew_sl, ew_ownIx, ew_ownLen, ew_seqI, ew_rngI, ew_enI, ew_yes, ew_lc, sw_nx, sw_bad, sw_seq, sw_if, sw_ret, sw_drop, sw_asg, sw_aug, sw_own, sw_app, sw_ext, sw_frz, sw_forS, startR1, startR2, startR3, List.replicate, List.length_cons, List.length_nil, List.getElem?_cons_zero, List.getElem?_cons_succ, List.set_cons_zero, List.set_cons_succ, o_addI, o_subI, o_ltI, o_leI, o_gtI, o_geI, o_addII, o_eqII, o_eqSS, o_neII, o_neSS, o_eqBB, o_neBB, o_neg, o_ixT, o_ixL, atI_0, atI_1, atI_2, atI_last, o_max, o_min, o_int, o_tuple, o_list, o_lenL, o_lenT, o_tup0, o_tup1, o_tup2, o_tup3, asB_bl, asI_int, asL_lst, items_l, items_t, o_inRule, o_in23, o_in33, o_inLeast, o_inMost, o_inAdd, o_inPart, o_inEven, o_enT, o_enL, ty_n, ty_b, ty_i, ty_s, ty_t, ty_l, g_n, g_b, g_i, g_s, g_t, g_l, put1, put2, put3, Option.some.injEq, SV.dat.injEq, SV.own.injEq, exists_eq_left', exists_eq_left, Option.bind_some, Bool.not_true, Bool.not_false, if_true, if_false, ite_true, ite_false, decide_true, decide_false, Bool.false_eq_true, reduceIte, true_and, and_true, ne_eq, not_false_eq_true, not_true_eq_false, t3, s3, n1, i3, b3, and_self]
    | str x =>
      have n1 : isNO (.str x) .non = some (.bl false) := rfl
      simp only [sw_ownL, sw_ownPar, seqD_l, seqD_t, lstAt, lstOf_own, lstOf_lst, ew_run, ew_ok, ew_var, ew_c, ew_op, ew_un, ew_nil, ew_cons, ew_cl, ew_toT, ew_not, ew_and, ew_or, ew_notE, ew_andE, ew_orE, ew_if, ew_ch, ew_call, ew_isi, ew_noO, ew_soO, ew_sl, ew_ownIx, ew_ownLen, ew_seqI, ew_rngI, ew_enI, ew_yes, ew_lc, sw_nx, sw_bad, sw_seq, sw_if, sw_ret, sw_drop, sw_asg, sw_aug, sw_own, sw_app, sw_ext, sw_frz, sw_forS, startR1, startR2, startR3, List.replicate, List.length_cons, List.length_nil, List.getElem?_cons_zero, List.getElem?_cons_succ, List.set_cons_zero, List.set_cons_succ, o_addI, o_subI, o_ltI, o_leI, o_gtI, o_geI, o_addII, o_eqII, o_eqSS, o_neII, o_neSS, o_eqBB, o_neBB, o_neg, o_ixT, o_ixL, atI_0, atI_1, atI_2, atI_last, o_max, o_min, o_int, o_tuple, o_list, o_lenL, o_lenT, o_tup0, o_tup1, o_tup2, o_tup3, asB_bl, asI_int, asL_lst, items_l, items_t, o_inRule, o_in23, o_in33, o_inLeast, o_inMost, o_inAdd, o_inPart, o_inEven, o_enT, o_enL, ty_n, ty_b, ty_i, ty_s, ty_t, ty_l, g_n, g_b, g_i, g_s, g_t, g_l, put1, put2, put3, Option.some.injEq, SV.dat.injEq, SV.own.injEq, exists_eq_left', exists_eq_left, Option.bind_some, Bool.not_true, Bool.not_false, if_true, if_false, ite_true, ite_false, decide_true, decide_false, Bool.false_eq_true, reduceIte, true_and, and_true, ne_eq, not_false_eq_true, not_true_eq_false, t4, s4, n1, and_self]
    | tup ds =>
      obtain ⟨hl, hp⟩ := h
      have q := seqs ds hl hp (.tup ds) fun j d e => by
        rw [o_ixT, show (0 + (j : Int)) = (j : Int) by omega, atI_nat]
        exact e
      have e0 : eqO (.lst []) (.lst []) = some (.bl true) := by kernel_rfl
      simp only [sw_ownL, sw_ownPar, seqD_l, seqD_t, lstAt, lstOf_own, lstOf_lst, ew_run, ew_ok, ew_var, ew_c, ew_op, ew_un, ew_nil, ew_cons, ew_cl, ew_toT, ew_not, ew_and, ew_or, ew_notE, ew_andE, ew_orE, ew_if, ew_ch, ew_call, ew_isi, ew_noO, ew_soO, ew_sl, ew_ownIx, ew_ownLen, ew_seqI, ew_rngI, ew_enI, ew_yes, ew_lc, sw_nx, sw_bad, sw_seq, sw_if, sw_ret, sw_drop, sw_asg, sw_aug, sw_own, sw_app, sw_ext, sw_frz, sw_forS, startR1, startR2, startR3, List.replicate, List.length_cons, List.length_nil, List.getElem?_cons_zero, List.getElem?_cons_succ, List.set_cons_zero, List.set_cons_succ, o_addI, o_subI, o_ltI, o_leI, o_gtI, o_geI, o_addII, o_eqII, o_eqSS, o_neII, o_neSS, o_eqBB, o_neBB, o_neg, o_ixT, o_ixL, atI_0, atI_1, atI_2, atI_last, o_max, o_min, o_int, o_tuple, o_list, o_lenL, o_lenT, o_tup0, o_tup1, o_tup2, o_tup3, asB_bl, asI_int, asL_lst, items_l, items_t, o_inRule, o_in23, o_in33, o_inLeast, o_inMost, o_inAdd, o_inPart, o_inEven, o_enT, o_enL, ty_n, ty_b, ty_i, ty_s, ty_t, ty_l, g_n, g_b, g_i, g_s, g_t, g_l, put1, put2, put3, Option.some.injEq, SV.dat.injEq, SV.own.injEq, exists_eq_left', exists_eq_left, Option.bind_some, Bool.not_true, Bool.not_false, if_true, if_false, ite_true, ite_false, decide_true, decide_false, Bool.false_eq_true, reduceIte, true_and, and_true, ne_eq, not_false_eq_true, not_true_eq_false, t5, o_rng1 (show 0 ≤ (ds.length : Int) by omega) hl, wipeR, q, o_lst (ds := []) (by decide), e0, and_self]
      exact Nat.zero_le _
    | lst ds =>
      obtain ⟨hl, hp⟩ := h
      have q := seqs ds hl hp (.lst ds) fun j d e => by
        rw [o_ixL, show (0 + (j : Int)) = (j : Int) by omega, atI_nat]
        exact e
      have e0 : eqO (.lst []) (.lst []) = some (.bl true) := by kernel_rfl
      simp only [sw_ownL, sw_ownPar, seqD_l, seqD_t, lstAt, lstOf_own, lstOf_lst, ew_run, ew_ok, ew_var, ew_c, ew_op, ew_un, ew_nil, ew_cons, ew_cl, ew_toT, ew_not, ew_and, ew_or, ew_notE, ew_andE, ew_orE, ew_if, ew_ch, ew_call, ew_isi, ew_noO, ew_soO, ew_sl, ew_ownIx, ew_ownLen, ew_seqI, ew_rngI, ew_enI, ew_yes, ew_lc, sw_nx, sw_bad, sw_seq, sw_if, sw_ret, sw_drop, sw_asg, sw_aug, sw_own, sw_app, sw_ext, sw_frz, sw_forS, startR1, startR2, startR3, List.replicate, List.length_cons, List.length_nil, List.getElem?_cons_zero, List.getElem?_cons_succ, List.set_cons_zero, List.set_cons_succ, o_addI, o_subI, o_ltI, o_leI, o_gtI, o_geI, o_addII, o_eqII, o_eqSS, o_neII, o_neSS, o_eqBB, o_neBB, o_neg, o_ixT, o_ixL, atI_0, atI_1, atI_2, atI_last, o_max, o_min, o_int, o_tuple, o_list, o_lenL, o_lenT, o_tup0, o_tup1, o_tup2, o_tup3, asB_bl, asI_int, asL_lst, items_l, items_t, o_inRule, o_in23, o_in33, o_inLeast, o_inMost, o_inAdd, o_inPart, o_inEven, o_enT, o_enL, ty_n, ty_b, ty_i, ty_s, ty_t, ty_l, g_n, g_b, g_i, g_s, g_t, g_l, put1, put2, put3, Option.some.injEq, SV.dat.injEq, SV.own.injEq, exists_eq_left', exists_eq_left, Option.bind_some, Bool.not_true, Bool.not_false, if_true, if_false, ite_true, ite_false, decide_true, decide_false, Bool.false_eq_true, reduceIte, true_and, and_true, ne_eq, not_false_eq_true, not_true_eq_false, t6, o_rng1 (show 0 ≤ (ds.length : Int) by omega) hl, wipeR, q, o_lst (ds := []) (by decide), e0, and_self]
      exact Nat.zero_le _
    | gen => exact h.elim
    | scr ns => exact h.elim
theorem q__law_alike {d : D} (h : Plain 12 d) {g : G} : d__law_alike [d, d] g = .ok (.bl true) g := e_alike 12 d h g
theorem plain_int {n : Nat} {i : Int} : Plain (n + 1) (.int i) := trivial
theorem plain_ints {n : Nat} {xs : List Int} (h : (xs.length : Int) < 2 ^ 62) : Plain (n + 2) (.lst (xs.map D.int)) := ⟨by simpa using h, fun d hd => by
  obtain ⟨x, _, rfl⟩ := List.mem_map.mp hd
  exact trivial⟩
theorem DrawnS.fine {s : Steps} (h : DrawnS s) : Fine s := fun x hx => (h x hx).2
theorem DrawnS.app {s t : Steps} (h : DrawnS s) (k : DrawnS t) : DrawnS (s ++ t) := fun x hx => by
  rcases List.mem_append.mp hx with q | q
  · exact h x q
  · exact k x q
theorem DrawnS.take {s : Steps} (h : DrawnS s) (n : Nat) : DrawnS (s.take n) := fun x hx => h x (List.mem_of_mem_take hx)
theorem DrawnS.drop {s : Steps} (h : DrawnS s) (n : Nat) : DrawnS (s.drop n) := fun x hx => h x (List.mem_of_mem_drop hx)
def optD : Option Int → D
  | some n => .int n
  | none => .non
/-- from some price on the final price is at least so much, if it is so at a free price or if there is a rise -/
theorem grows_from {s : Steps} (hs : Ok s) {high final : Int} (h0 : 0 ≤ high) (hf : isFree s high = true) (h : ¬ ((width s).2 = 0 ∧ paid s high < final)) : ∃ b : Int, ∀ y, b ≤ y → final ≤ paid s y := by
  by_cases hr : (width s).2 = 0
  · refine ⟨high, fun y hy => ?_⟩
    have : ¬ paid s high < final := fun q => h ⟨hr, q⟩
    have := paid_mono hs hy
    omega
  · obtain ⟨b, _, hb⟩ := paid_grows hs hr hf h0 final
    exact ⟨b, hb⟩
theorem FirstOf.unique {P : Int → Prop} {many : Nat} {l m : List Int} (a : TM.FirstOf P many l) (b : TM.FirstOf P many m) : l = m := by
  have big : ∀ (xs : List Int), ∃ n : Nat, ∀ x ∈ xs, x < n := by
    intro xs
    induction xs with
    | nil => exact ⟨0, fun x hx => by cases hx⟩
    | cons y ys ih =>
      obtain ⟨n, hn⟩ := ih
      refine ⟨n + y.toNat + 1, fun x hx => ?_⟩
      rcases List.mem_cons.mp hx with q | q
      · omega
      · have := hn x q; omega
  obtain ⟨n, hn⟩ := big (l ++ m)
  haveI : DecidablePred P := fun x => Classical.propDecidable _
  have h1 := a.below (allTo_range (P := P) n)
  have h2 := b.below (allTo_range (P := P) n)
  rw [List.filter_eq_self.mpr fun x hx => by simpa using hn x (List.mem_append_left _ hx)] at h1
  rw [List.filter_eq_self.mpr fun x hx => by simpa using hn x (List.mem_append_right _ hx)] at h2
  rw [h1, h2]
open Classical in
/-- one never costs more than the other -/
noncomputable def nmB (a b : Steps) : Bool := decide (NeverMore a b)
theorem nmB_iff {a b : Steps} : nmB a b = true ↔ NeverMore a b := by unfold nmB; simp
theorem nm_low {a b : Steps} (ha : Ok a) (hb : Ok b) {f L N : Int} (f0 : 0 ≤ f) (h1 : isFree a f = true) (h2 : isFree b f = true) (hL : 0 < L) (d1 : (width a).1 ∣ L) (d2 : (width b).1 ∣ L) (hN : f + L ≤ N) (h : risesMore b a) (k : ∀ u : Int, 0 ≤ u → u < N → paid a u ≤ paid b u) : NeverMore a b :=
  ⟨h, fun u u0 => by
    have := gap_low hb ha f0 h2 h1 hL d2 d1 h hN (m := 0) (fun u u0 u1 => by have := k u u0 u1; unfold gap; omega) u.toNat u (Nat.le_refl _) u0
    unfold gap at this
    omega⟩
theorem nm_inf {a b : Steps} (ha : Ok a) (hb : Ok b) (h : risesMore b a) : (0 ≤ infGap b a) ↔ NeverMore a b := by
  obtain ⟨⟨u, u0, hu⟩, k⟩ := infGap_inf hb ha h
  constructor
  · intro z
    exact ⟨h, fun p p0 => by have := k p p0; unfold gap at this; omega⟩
  · rintro ⟨_, z⟩
    have := z u u0
    unfold gap at hu
    omega
theorem q__law_whole {i lo hi : Int} {g : G} : d__law_whole [.int i, .int lo, .int hi] g = .ok (.bl (decide (lo ≤ i ∧ i ≤ hi))) g := by
  refine ew_eq ?_
  unfold d__law_whole b__law_whole
  simp only [sw_ownL, sw_ownPar, seqD_l, seqD_t, lstAt, lstOf_own, lstOf_lst, ew_run, ew_ok, ew_var, ew_c, ew_op, ew_un, ew_nil, ew_cons, ew_cl, ew_toT, ew_not, ew_and, ew_or, ew_notE, ew_andE, ew_orE, ew_if, ew_ch, ew_call, ew_isi, ew_noO, ew_soO, ew_sl, ew_ownIx, ew_ownLen, ew_seqI, ew_rngI, ew_enI, ew_yes, ew_lc, sw_nx, sw_bad, sw_seq, sw_if, sw_ret, sw_drop, sw_asg, sw_aug, sw_own, sw_app, sw_ext, sw_frz, sw_forS, startR1, startR2, startR3, List.replicate, List.length_cons, List.length_nil, List.getElem?_cons_zero, List.getElem?_cons_succ, List.set_cons_zero, List.set_cons_succ, o_addI, o_subI, o_ltI, o_leI, o_gtI, o_geI, o_addII, o_eqII, o_eqSS, o_neII, o_neSS, o_eqBB, o_neBB, o_neg, o_ixT, o_ixL, atI_0, atI_1, atI_2, atI_last, o_max, o_min, o_int, o_tuple, o_list, o_lenL, o_lenT, o_tup0, o_tup1, o_tup2, o_tup3, asB_bl, asI_int, asL_lst, items_l, items_t, o_inRule, o_in23, o_in33, o_inLeast, o_inMost, o_inAdd, o_inPart, o_inEven, o_enT, o_enL, ty_n, ty_b, ty_i, ty_s, ty_t, ty_l, g_n, g_b, g_i, g_s, g_t, g_l, put1, put2, put3, Option.some.injEq, SV.dat.injEq, SV.own.injEq, exists_eq_left', exists_eq_left, Option.bind_some, Bool.not_true, Bool.not_false, if_true, if_false, ite_true, ite_false, decide_true, decide_false, Bool.false_eq_true, reduceIte, true_and, and_true, ne_eq, not_false_eq_true, not_true_eq_false]
  have e1 : (["int"].any fun t => subTy "int" t) = true := by decide
  have e2 : (["bool"].any fun t => subTy "int" t) = false := by decide
  simp only [sw_ownL, sw_ownPar, seqD_l, seqD_t, lstAt, lstOf_own, lstOf_lst, ew_run, ew_ok, ew_var, ew_c, ew_op, ew_un, ew_nil, ew_cons, ew_cl, ew_toT, ew_not, ew_and, ew_or, ew_notE, ew_andE, ew_orE, ew_if, ew_ch, ew_call, ew_isi, ew_noO, ew_soO, ew_sl, ew_ownIx, ew_ownLen, ew_seqI, ew_rngI, ew_enI, ew_yes, ew_lc, sw_nx, sw_bad, sw_seq, sw_if, sw_ret, sw_drop, sw_asg, sw_aug, sw_own, sw_app, sw_ext, sw_frz, sw_forS, startR1, startR2, startR3, List.replicate, List.length_cons, List.length_nil, List.getElem?_cons_zero, List.getElem?_cons_succ, List.set_cons_zero, List.set_cons_succ, o_addI, o_subI, o_ltI, o_leI, o_gtI, o_geI, o_addII, o_eqII, o_eqSS, o_neII, o_neSS, o_eqBB, o_neBB, o_neg, o_ixT, o_ixL, atI_0, atI_1, atI_2, atI_last, o_max, o_min, o_int, o_tuple, o_list, o_lenL, o_lenT, o_tup0, o_tup1, o_tup2, o_tup3, asB_bl, asI_int, asL_lst, items_l, items_t, o_inRule, o_in23, o_in33, o_inLeast, o_inMost, o_inAdd, o_inPart, o_inEven, o_enT, o_enL, ty_n, ty_b, ty_i, ty_s, ty_t, ty_l, g_n, g_b, g_i, g_s, g_t, g_l, put1, put2, put3, Option.some.injEq, SV.dat.injEq, SV.own.injEq, exists_eq_left', exists_eq_left, Option.bind_some, Bool.not_true, Bool.not_false, if_true, if_false, ite_true, ite_false, decide_true, decide_false, Bool.false_eq_true, reduceIte, true_and, and_true, ne_eq, not_false_eq_true, not_true_eq_false, e1, e2]
  by_cases h : lo ≤ i
  · by_cases h2 : i ≤ hi <;> simp [sw_ownL, sw_ownPar, seqD_l, seqD_t, lstAt, lstOf_own, lstOf_lst, ew_run, ew_ok, ew_var, ew_c, ew_op, ew_un, ew_nil, ew_cons, ew_cl, ew_toT, ew_not, ew_and, ew_or, ew_notE, ew_andE, ew_orE, ew_if, ew_ch, ew_call, ew_isi, ew_noO, ew_soO, ew_sl, ew_ownIx, ew_ownLen, ew_seqI, ew_rngI, ew_enI, ew_yes, ew_lc, sw_nx, sw_bad, sw_seq, sw_if, sw_ret, sw_drop, sw_asg, sw_aug, sw_own, sw_app, sw_ext, sw_frz, sw_forS, startR1, startR2, startR3, List.replicate, List.length_cons, List.length_nil, List.getElem?_cons_zero, List.getElem?_cons_succ, List.set_cons_zero, List.set_cons_succ, o_addI, o_subI, o_ltI, o_leI, o_gtI, o_geI, o_addII, o_eqII, o_eqSS, o_neII, o_neSS, o_eqBB, o_neBB, o_neg, o_ixT, o_ixL, atI_0, atI_1, atI_2, atI_last, o_max, o_min, o_int, o_tuple, o_list, o_lenL, o_lenT, o_tup0, o_tup1, o_tup2, o_tup3, asB_bl, asI_int, asL_lst, items_l, items_t, o_inRule, o_in23, o_in33, o_inLeast, o_inMost, o_inAdd, o_inPart, o_inEven, o_enT, o_enL, ty_n, ty_b, ty_i, ty_s, ty_t, ty_l, g_n, g_b, g_i, g_s, g_t, g_l, put1, put2, put3, Option.some.injEq, SV.dat.injEq, SV.own.injEq, exists_eq_left', exists_eq_left, Option.bind_some, Bool.not_true, Bool.not_false, if_true, if_false, ite_true, ite_false, decide_true, decide_false, Bool.false_eq_true, reduceIte, true_and, and_true, ne_eq, not_false_eq_true, not_true_eq_false, h, h2]
  · simp [sw_ownL, sw_ownPar, seqD_l, seqD_t, lstAt, lstOf_own, lstOf_lst, ew_run, ew_ok, ew_var, ew_c, ew_op, ew_un, ew_nil, ew_cons, ew_cl, ew_toT, ew_not, ew_and, ew_or, ew_notE, ew_andE, ew_orE, ew_if, ew_ch, ew_call, ew_isi, ew_noO, ew_soO, ew_sl, ew_ownIx, ew_ownLen, ew_seqI, ew_rngI, ew_enI, ew_yes, ew_lc, sw_nx, sw_bad, sw_seq, sw_if, sw_ret, sw_drop, sw_asg, sw_aug, sw_own, sw_app, sw_ext, sw_frz, sw_forS, startR1, startR2, startR3, List.replicate, List.length_cons, List.length_nil, List.getElem?_cons_zero, List.getElem?_cons_succ, List.set_cons_zero, List.set_cons_succ, o_addI, o_subI, o_ltI, o_leI, o_gtI, o_geI, o_addII, o_eqII, o_eqSS, o_neII, o_neSS, o_eqBB, o_neBB, o_neg, o_ixT, o_ixL, atI_0, atI_1, atI_2, atI_last, o_max, o_min, o_int, o_tuple, o_list, o_lenL, o_lenT, o_tup0, o_tup1, o_tup2, o_tup3, asB_bl, asI_int, asL_lst, items_l, items_t, o_inRule, o_in23, o_in33, o_inLeast, o_inMost, o_inAdd, o_inPart, o_inEven, o_enT, o_enL, ty_n, ty_b, ty_i, ty_s, ty_t, ty_l, g_n, g_b, g_i, g_s, g_t, g_l, put1, put2, put3, Option.some.injEq, SV.dat.injEq, SV.own.injEq, exists_eq_left', exists_eq_left, Option.bind_some, Bool.not_true, Bool.not_false, if_true, if_false, ite_true, ite_false, decide_true, decide_false, Bool.false_eq_true, reduceIte, true_and, and_true, ne_eq, not_false_eq_true, not_true_eq_false, h]
theorem q__law_is_step {x : TM.Step} (hx : x.ok) {g : G} : d__law_is_step [dStep x] g = .ok (.bl true) g := by
  refine ew_eq ?_
  unfold d__law_is_step b__law_is_step
  have e1 : (["tuple"].any fun t => subTy "tuple" t) = true := by decide
  have e2 : (["str"].any fun t => subTy "str" t) = true := by decide
  have n2 : (((0 + 1 + 1 : Nat) : Int)) = 2 := rfl
  have n3 : (((0 + 1 + 1 + 1 : Nat) : Int)) = 3 := rfl
  have d23 : ((2 : Int) = 3) = False := by simp
  have en : eqO (dStep x) (.tup []) = some (.bl false) := by
    have k := okD_step x (n := 63)
    cases x <;> exact o_eqNil (by simpa [okD, dStep] using k)
  have l2 : lstO [.str (Str.ofString "part"), .str (Str.ofString "even")] = some (.lst [.str (Str.ofString "part"), .str (Str.ofString "even")]) := o_lst (by simp)
  have l3 : lstO [.str (Str.ofString "add"), .str (Str.ofString "least"), .str (Str.ofString "most")] = some (.lst [.str (Str.ofString "add"), .str (Str.ofString "least"), .str (Str.ofString "most")]) := o_lst (by simp)
  have l4 : lstO [.str (Str.ofString "down"), .str (Str.ofString "up"), .str (Str.ofString "near")] = some (.lst [.str (Str.ofString "down"), .str (Str.ofString "up"), .str (Str.ofString "near")]) := o_lst (by simp)
  have i1 : inO false (.str (Str.ofString "part")) (.lst [.str (Str.ofString "part"), .str (Str.ofString "even")]) = some (.bl true) := by kernel_rfl
  have i2 : inO false (.str (Str.ofString "even")) (.lst [.str (Str.ofString "part"), .str (Str.ofString "even")]) = some (.bl true) := by kernel_rfl
  have i3 : inO false (.str (Str.ofString "add")) (.lst [.str (Str.ofString "part"), .str (Str.ofString "even")]) = some (.bl false) := by kernel_rfl
  have i4 : inO false (.str (Str.ofString "least")) (.lst [.str (Str.ofString "part"), .str (Str.ofString "even")]) = some (.bl false) := by kernel_rfl
  have i5 : inO false (.str (Str.ofString "most")) (.lst [.str (Str.ofString "part"), .str (Str.ofString "even")]) = some (.bl false) := by kernel_rfl
  have j1 : inO true (.str (Str.ofString "add")) (.lst [.str (Str.ofString "add"), .str (Str.ofString "least"), .str (Str.ofString "most")]) = some (.bl false) := by kernel_rfl
  have j2 : inO true (.str (Str.ofString "least")) (.lst [.str (Str.ofString "add"), .str (Str.ofString "least"), .str (Str.ofString "most")]) = some (.bl false) := by kernel_rfl
  have j3 : inO true (.str (Str.ofString "most")) (.lst [.str (Str.ofString "add"), .str (Str.ofString "least"), .str (Str.ofString "most")]) = some (.bl false) := by kernel_rfl
  have jr : ∀ r : Rule, inO true (.str (sRule r)) (.lst [.str (Str.ofString "down"), .str (Str.ofString "up"), .str (Str.ofString "near")]) = some (.bl false) := fun r => by cases r <;> kernel_rfl
  cases x with
  | part p r =>
    obtain ⟨h1, h2⟩ := hx
    simp only [dStep] at en ⊢
    simp only [sw_ownL, sw_ownPar, seqD_l, seqD_t, lstAt, lstOf_own, lstOf_lst, ew_run, ew_ok, ew_var, ew_c, ew_op, ew_un, ew_nil, ew_cons, ew_cl, ew_toT, ew_not, ew_and, ew_or, ew_notE, ew_andE, ew_orE, ew_if, ew_ch, ew_call, ew_isi, ew_noO, ew_soO, ew_sl, ew_ownIx, ew_ownLen, ew_seqI, ew_rngI, ew_enI, ew_yes, ew_lc, sw_nx, sw_bad, sw_seq, sw_if, sw_ret, sw_drop, sw_asg, sw_aug, sw_own, sw_app, sw_ext, sw_frz, sw_forS, startR1, startR2, startR3, List.replicate, List.length_cons, List.length_nil, List.getElem?_cons_zero, List.getElem?_cons_succ, List.set_cons_zero, List.set_cons_succ, o_addI, o_subI, o_ltI, o_leI, o_gtI, o_geI, o_addII, o_eqII, o_eqSS, o_neII, o_neSS, o_eqBB, o_neBB, o_neg, o_ixT, o_ixL, atI_0, atI_1, atI_2, atI_last, o_max, o_min, o_int, o_tuple, o_list, o_lenL, o_lenT, o_tup0, o_tup1, o_tup2, o_tup3, asB_bl, asI_int, asL_lst, items_l, items_t, o_inRule, o_in23, o_in33, o_inLeast, o_inMost, o_inAdd, o_inPart, o_inEven, o_enT, o_enL, ty_n, ty_b, ty_i, ty_s, ty_t, ty_l, g_n, g_b, g_i, g_s, g_t, g_l, put1, put2, put3, Option.some.injEq, SV.dat.injEq, SV.own.injEq, exists_eq_left', exists_eq_left, Option.bind_some, Bool.not_true, Bool.not_false, if_true, if_false, ite_true, ite_false, decide_true, decide_false, Bool.false_eq_true, reduceIte, true_and, and_true, ne_eq, not_false_eq_true, not_true_eq_false, x_part_add, x_part_even, x_part_least, x_part_most, x_part_down, x_part_up, x_part_near, x_add_part, x_add_even, x_add_least, x_add_most, x_add_down, x_add_up, x_add_near, x_even_part, x_even_add, x_even_least, x_even_most, x_even_down, x_even_up, x_even_near, x_least_part, x_least_add, x_least_even, x_least_most, x_least_down, x_least_up, x_least_near, x_most_part, x_most_add, x_most_even, x_most_least, x_most_down, x_most_up, x_most_near, x_down_part, x_down_add, x_down_even, x_down_least, x_down_most, x_down_up, x_down_near, x_up_part, x_up_add, x_up_even, x_up_least, x_up_most, x_up_down, x_up_near, x_near_part, x_near_add, x_near_even, x_near_least, x_near_most, x_near_down, x_near_up, en, e1, e2, n2, n3, l2, l3, l4, i1, jr, q__law_whole, h1, h2, and_self]
  | even p r =>
    obtain ⟨h1, h2⟩ := hx
    simp only [dStep] at en ⊢
    simp only [sw_ownL, sw_ownPar, seqD_l, seqD_t, lstAt, lstOf_own, lstOf_lst, ew_run, ew_ok, ew_var, ew_c, ew_op, ew_un, ew_nil, ew_cons, ew_cl, ew_toT, ew_not, ew_and, ew_or, ew_notE, ew_andE, ew_orE, ew_if, ew_ch, ew_call, ew_isi, ew_noO, ew_soO, ew_sl, ew_ownIx, ew_ownLen, ew_seqI, ew_rngI, ew_enI, ew_yes, ew_lc, sw_nx, sw_bad, sw_seq, sw_if, sw_ret, sw_drop, sw_asg, sw_aug, sw_own, sw_app, sw_ext, sw_frz, sw_forS, startR1, startR2, startR3, List.replicate, List.length_cons, List.length_nil, List.getElem?_cons_zero, List.getElem?_cons_succ, List.set_cons_zero, List.set_cons_succ, o_addI, o_subI, o_ltI, o_leI, o_gtI, o_geI, o_addII, o_eqII, o_eqSS, o_neII, o_neSS, o_eqBB, o_neBB, o_neg, o_ixT, o_ixL, atI_0, atI_1, atI_2, atI_last, o_max, o_min, o_int, o_tuple, o_list, o_lenL, o_lenT, o_tup0, o_tup1, o_tup2, o_tup3, asB_bl, asI_int, asL_lst, items_l, items_t, o_inRule, o_in23, o_in33, o_inLeast, o_inMost, o_inAdd, o_inPart, o_inEven, o_enT, o_enL, ty_n, ty_b, ty_i, ty_s, ty_t, ty_l, g_n, g_b, g_i, g_s, g_t, g_l, put1, put2, put3, Option.some.injEq, SV.dat.injEq, SV.own.injEq, exists_eq_left', exists_eq_left, Option.bind_some, Bool.not_true, Bool.not_false, if_true, if_false, ite_true, ite_false, decide_true, decide_false, Bool.false_eq_true, reduceIte, true_and, and_true, ne_eq, not_false_eq_true, not_true_eq_false, x_part_add, x_part_even, x_part_least, x_part_most, x_part_down, x_part_up, x_part_near, x_add_part, x_add_even, x_add_least, x_add_most, x_add_down, x_add_up, x_add_near, x_even_part, x_even_add, x_even_least, x_even_most, x_even_down, x_even_up, x_even_near, x_least_part, x_least_add, x_least_even, x_least_most, x_least_down, x_least_up, x_least_near, x_most_part, x_most_add, x_most_even, x_most_least, x_most_down, x_most_up, x_most_near, x_down_part, x_down_add, x_down_even, x_down_least, x_down_most, x_down_up, x_down_near, x_up_part, x_up_add, x_up_even, x_up_least, x_up_most, x_up_down, x_up_near, x_near_part, x_near_add, x_near_even, x_near_least, x_near_most, x_near_down, x_near_up, en, e1, e2, n2, n3, l2, l3, l4, i2, jr, q__law_whole, h1, h2, and_self]
  | add c =>
    obtain ⟨h1, h2⟩ := hx
    simp only [dStep] at en ⊢
    simp only [sw_ownL, sw_ownPar, seqD_l, seqD_t, lstAt, lstOf_own, lstOf_lst, ew_run, ew_ok, ew_var, ew_c, ew_op, ew_un, ew_nil, ew_cons, ew_cl, ew_toT, ew_not, ew_and, ew_or, ew_notE, ew_andE, ew_orE, ew_if, ew_ch, ew_call, ew_isi, ew_noO, ew_soO, ew_sl, ew_ownIx, ew_ownLen, ew_seqI, ew_rngI, ew_enI, ew_yes, ew_lc, sw_nx, sw_bad, sw_seq, sw_if, sw_ret, sw_drop, sw_asg, sw_aug, sw_own, sw_app, sw_ext, sw_frz, sw_forS, startR1, startR2, startR3, List.replicate, List.length_cons, List.length_nil, List.getElem?_cons_zero, List.getElem?_cons_succ, List.set_cons_zero, List.set_cons_succ, o_addI, o_subI, o_ltI, o_leI, o_gtI, o_geI, o_addII, o_eqII, o_eqSS, o_neII, o_neSS, o_eqBB, o_neBB, o_neg, o_ixT, o_ixL, atI_0, atI_1, atI_2, atI_last, o_max, o_min, o_int, o_tuple, o_list, o_lenL, o_lenT, o_tup0, o_tup1, o_tup2, o_tup3, asB_bl, asI_int, asL_lst, items_l, items_t, o_inRule, o_in23, o_in33, o_inLeast, o_inMost, o_inAdd, o_inPart, o_inEven, o_enT, o_enL, ty_n, ty_b, ty_i, ty_s, ty_t, ty_l, g_n, g_b, g_i, g_s, g_t, g_l, put1, put2, put3, Option.some.injEq, SV.dat.injEq, SV.own.injEq, exists_eq_left', exists_eq_left, Option.bind_some, Bool.not_true, Bool.not_false, if_true, if_false, ite_true, ite_false, decide_true, decide_false, Bool.false_eq_true, reduceIte, true_and, and_true, ne_eq, not_false_eq_true, not_true_eq_false, x_part_add, x_part_even, x_part_least, x_part_most, x_part_down, x_part_up, x_part_near, x_add_part, x_add_even, x_add_least, x_add_most, x_add_down, x_add_up, x_add_near, x_even_part, x_even_add, x_even_least, x_even_most, x_even_down, x_even_up, x_even_near, x_least_part, x_least_add, x_least_even, x_least_most, x_least_down, x_least_up, x_least_near, x_most_part, x_most_add, x_most_even, x_most_least, x_most_down, x_most_up, x_most_near, x_down_part, x_down_add, x_down_even, x_down_least, x_down_most, x_down_up, x_down_near, x_up_part, x_up_add, x_up_even, x_up_least, x_up_most, x_up_down, x_up_near, x_near_part, x_near_add, x_near_even, x_near_least, x_near_most, x_near_down, x_near_up, en, e1, e2, n2, n3, l2, l3, l4, i3, j1, d23, q__law_whole, h1, h2, and_self]
  | least c =>
    obtain ⟨h1, h2⟩ := hx
    simp only [dStep] at en ⊢
    simp only [sw_ownL, sw_ownPar, seqD_l, seqD_t, lstAt, lstOf_own, lstOf_lst, ew_run, ew_ok, ew_var, ew_c, ew_op, ew_un, ew_nil, ew_cons, ew_cl, ew_toT, ew_not, ew_and, ew_or, ew_notE, ew_andE, ew_orE, ew_if, ew_ch, ew_call, ew_isi, ew_noO, ew_soO, ew_sl, ew_ownIx, ew_ownLen, ew_seqI, ew_rngI, ew_enI, ew_yes, ew_lc, sw_nx, sw_bad, sw_seq, sw_if, sw_ret, sw_drop, sw_asg, sw_aug, sw_own, sw_app, sw_ext, sw_frz, sw_forS, startR1, startR2, startR3, List.replicate, List.length_cons, List.length_nil, List.getElem?_cons_zero, List.getElem?_cons_succ, List.set_cons_zero, List.set_cons_succ, o_addI, o_subI, o_ltI, o_leI, o_gtI, o_geI, o_addII, o_eqII, o_eqSS, o_neII, o_neSS, o_eqBB, o_neBB, o_neg, o_ixT, o_ixL, atI_0, atI_1, atI_2, atI_last, o_max, o_min, o_int, o_tuple, o_list, o_lenL, o_lenT, o_tup0, o_tup1, o_tup2, o_tup3, asB_bl, asI_int, asL_lst, items_l, items_t, o_inRule, o_in23, o_in33, o_inLeast, o_inMost, o_inAdd, o_inPart, o_inEven, o_enT, o_enL, ty_n, ty_b, ty_i, ty_s, ty_t, ty_l, g_n, g_b, g_i, g_s, g_t, g_l, put1, put2, put3, Option.some.injEq, SV.dat.injEq, SV.own.injEq, exists_eq_left', exists_eq_left, Option.bind_some, Bool.not_true, Bool.not_false, if_true, if_false, ite_true, ite_false, decide_true, decide_false, Bool.false_eq_true, reduceIte, true_and, and_true, ne_eq, not_false_eq_true, not_true_eq_false, x_part_add, x_part_even, x_part_least, x_part_most, x_part_down, x_part_up, x_part_near, x_add_part, x_add_even, x_add_least, x_add_most, x_add_down, x_add_up, x_add_near, x_even_part, x_even_add, x_even_least, x_even_most, x_even_down, x_even_up, x_even_near, x_least_part, x_least_add, x_least_even, x_least_most, x_least_down, x_least_up, x_least_near, x_most_part, x_most_add, x_most_even, x_most_least, x_most_down, x_most_up, x_most_near, x_down_part, x_down_add, x_down_even, x_down_least, x_down_most, x_down_up, x_down_near, x_up_part, x_up_add, x_up_even, x_up_least, x_up_most, x_up_down, x_up_near, x_near_part, x_near_add, x_near_even, x_near_least, x_near_most, x_near_down, x_near_up, en, e1, e2, n2, n3, l2, l3, l4, i4, j2, d23, q__law_whole, h1, h2, and_self]
  | most c =>
    obtain ⟨h1, h2⟩ := hx
    simp only [dStep] at en ⊢
    simp only [sw_ownL, sw_ownPar, seqD_l, seqD_t, lstAt, lstOf_own, lstOf_lst, ew_run, ew_ok, ew_var, ew_c, ew_op, ew_un, ew_nil, ew_cons, ew_cl, ew_toT, ew_not, ew_and, ew_or, ew_notE, ew_andE, ew_orE, ew_if, ew_ch, ew_call, ew_isi, ew_noO, ew_soO, ew_sl, ew_ownIx, ew_ownLen, ew_seqI, ew_rngI, ew_enI, ew_yes, ew_lc, sw_nx, sw_bad, sw_seq, sw_if, sw_ret, sw_drop, sw_asg, sw_aug, sw_own, sw_app, sw_ext, sw_frz, sw_forS, startR1, startR2, startR3, List.replicate, List.length_cons, List.length_nil, List.getElem?_cons_zero, List.getElem?_cons_succ, List.set_cons_zero, List.set_cons_succ, o_addI, o_subI, o_ltI, o_leI, o_gtI, o_geI, o_addII, o_eqII, o_eqSS, o_neII, o_neSS, o_eqBB, o_neBB, o_neg, o_ixT, o_ixL, atI_0, atI_1, atI_2, atI_last, o_max, o_min, o_int, o_tuple, o_list, o_lenL, o_lenT, o_tup0, o_tup1, o_tup2, o_tup3, asB_bl, asI_int, asL_lst, items_l, items_t, o_inRule, o_in23, o_in33, o_inLeast, o_inMost, o_inAdd, o_inPart, o_inEven, o_enT, o_enL, ty_n, ty_b, ty_i, ty_s, ty_t, ty_l, g_n, g_b, g_i, g_s, g_t, g_l, put1, put2, put3, Option.some.injEq, SV.dat.injEq, SV.own.injEq, exists_eq_left', exists_eq_left, Option.bind_some, Bool.not_true, Bool.not_false, if_true, if_false, ite_true, ite_false, decide_true, decide_false, Bool.false_eq_true, reduceIte, true_and, and_true, ne_eq, not_false_eq_true, not_true_eq_false, x_part_add, x_part_even, x_part_least, x_part_most, x_part_down, x_part_up, x_part_near, x_add_part, x_add_even, x_add_least, x_add_most, x_add_down, x_add_up, x_add_near, x_even_part, x_even_add, x_even_least, x_even_most, x_even_down, x_even_up, x_even_near, x_least_part, x_least_add, x_least_even, x_least_most, x_least_down, x_least_up, x_least_near, x_most_part, x_most_add, x_most_even, x_most_least, x_most_down, x_most_up, x_most_near, x_down_part, x_down_add, x_down_even, x_down_least, x_down_most, x_down_up, x_down_near, x_up_part, x_up_add, x_up_even, x_up_least, x_up_most, x_up_down, x_up_near, x_near_part, x_near_add, x_near_even, x_near_least, x_near_most, x_near_down, x_near_up, en, e1, e2, n2, n3, l2, l3, l4, i5, j3, d23, q__law_whole, h1, h2, and_self]
/-- what may stand in the place of a step -/
noncomputable def isB (x : D) : Bool := match d_is_step [x] none with
  | .ok (.bl b) _ => b
  | _ => false
structure Elem (x : D) : Prop where
  a : ∀ g, d_is_step [x] g = .ok (.bl (isB x)) g
  b : ∀ g, d__law_is_step [x] g = .ok (.bl (isB x)) g
  c : isB x = true → ∃ s : TM.Step, s.ok ∧ x = dStep s
theorem elem_step {s : TM.Step} (h : s.ok) : Elem (dStep s) := by
  have e : isB (dStep s) = true := by unfold isB; rw [q_is_step h]
  exact ⟨fun g => by rw [e]; exact q_is_step h, fun g => by rw [e]; exact q__law_is_step h, fun _ => ⟨s, h, rfl⟩⟩
theorem elem_bad {x : D} (h1 : ∀ g, d_is_step [x] g = .ok (.bl false) g) (h2 : ∀ g, d__law_is_step [x] g = .ok (.bl false) g) : Elem x := by
  have e : isB x = false := by unfold isB; rw [h1]
  exact ⟨fun g => by rw [e]; exact h1 g, fun g => by rw [e]; exact h2 g, fun q => by rw [e] at q; cases q⟩
theorem elems_steps : ∀ {xs : List D}, (∀ x ∈ xs, Elem x) → (∀ x ∈ xs, isB x = true) → ∃ s : Steps, Ok s ∧ xs = s.map dStep
  | [], _, _ => ⟨[], (fun x hx => by cases hx), rfl⟩
  | x :: xs, he, hb => by
    obtain ⟨s, h1, h2⟩ := elems_steps (fun y hy => he y (List.mem_cons_of_mem _ hy)) (fun y hy => hb y (List.mem_cons_of_mem _ hy))
    obtain ⟨a, h3, h4⟩ := (he x List.mem_cons_self).c (hb x List.mem_cons_self)
    refine ⟨a :: s, fun y hy => ?_, by rw [h2, h4]; rfl⟩
    rcases List.mem_cons.mp hy with q | q
    · rw [q]; exact h3
    · exact h1 y q
theorem q_tried_ok {d : D} {p : Int} {r : D} {g : G} (h : d_pay [d, .int p] g = .ok r g) : d__law_tried [d, .int p] g = .ok r g := by
  refine ew_eq ?_
  unfold d__law_tried b__law_tried
  simp only [sw_ownL, sw_ownPar, seqD_l, seqD_t, lstAt, lstOf_own, lstOf_lst, ew_run, ew_ok, ew_var, ew_c, ew_op, ew_un, ew_nil, ew_cons, ew_cl, ew_toT, ew_not, ew_and, ew_or, ew_notE, ew_andE, ew_orE, ew_if, ew_ch, ew_call, ew_isi, ew_noO, ew_soO, ew_sl, ew_ownIx, ew_ownLen, ew_seqI, ew_rngI, ew_enI, ew_yes, ew_lc, sw_nx, sw_bad, sw_seq, sw_if, sw_ret, sw_drop, sw_asg, sw_aug, sw_own, sw_app, sw_ext, sw_frz, sw_forS, startR1, startR2, startR3, List.replicate, List.length_cons, List.length_nil, List.getElem?_cons_zero, List.getElem?_cons_succ, List.set_cons_zero, List.set_cons_succ, o_addI, o_subI, o_ltI, o_leI, o_gtI, o_geI, o_addII, o_eqII, o_eqSS, o_neII, o_neSS, o_eqBB, o_neBB, o_neg, o_ixT, o_ixL, atI_0, atI_1, atI_2, atI_last, o_max, o_min, o_int, o_tuple, o_list, o_lenL, o_lenT, o_tup0, o_tup1, o_tup2, o_tup3, asB_bl, asI_int, asL_lst, items_l, items_t, o_inRule, o_in23, o_in33, o_inLeast, o_inMost, o_inAdd, o_inPart, o_inEven, o_enT, o_enL, ty_n, ty_b, ty_i, ty_s, ty_t, ty_l, g_n, g_b, g_i, g_s, g_t, g_l, put1, put2, put3, Option.some.injEq, SV.dat.injEq, SV.own.injEq, exists_eq_left', exists_eq_left, Option.bind_some, Bool.not_true, Bool.not_false, if_true, if_false, ite_true, ite_false, decide_true, decide_false, Bool.false_eq_true, reduceIte, true_and, and_true, ne_eq, not_false_eq_true, not_true_eq_false, sw_try, sw_raise, sx_raise, ex_ok, ex_bad, ex_err, ex_var, ex_c, ex_op, ex_un, ex_nil, ex_cons, ex_cl, ex_toT, ex_not, ex_and, ex_or, ex_notE, ex_andE, ex_orE, ex_if, ex_ch, ex_call, ex_run, ex_isi, ex_noO, ex_soO, ex_sl, ex_ownIx, ex_ownLen, ex_seqI, ex_rngI, ex_enI, ex_yes, ex_lc, sx_nx, sx_bad, sx_seq, sx_if, sx_ret, sx_drop, sx_asg, sx_aug, sx_own, sx_app, sx_ext, sx_frz, sx_forS, ew_err, ew_bad, true_or, or_true, false_or, or_false, and_false, false_and, exists_false, exists_const, exists_eq', exists_eq, ew_no, h, and_self]
theorem q_tried_x {d : D} {p : Int} {i : D} {g : G} (h : d_check_steps [d] g = .err (badX i) g) : d__law_tried [d, .int p] g = .ok (.lst [i]) g := by
  refine ew_eq ?_
  unfold d__law_tried b__law_tried
  have hk : hK (badX i) (.ls [.f ("index" : Str)]) = some (.lst [i]) := by kernel_rfl
  have e1 : (badX i).cls = ("BadSteps" : Str) := rfl
  have e2 : (badX i).fs.isEmpty = false := rfl
  have hp : d_pay [d, .int p] g = .err (badX i) g := by
    refine ex_eq ?_
    unfold d_pay b_pay
    simp only [sw_ownL, sw_ownPar, seqD_l, seqD_t, lstAt, lstOf_own, lstOf_lst, ew_run, ew_ok, ew_var, ew_c, ew_op, ew_un, ew_nil, ew_cons, ew_cl, ew_toT, ew_not, ew_and, ew_or, ew_notE, ew_andE, ew_orE, ew_if, ew_ch, ew_call, ew_isi, ew_noO, ew_soO, ew_sl, ew_ownIx, ew_ownLen, ew_seqI, ew_rngI, ew_enI, ew_yes, ew_lc, sw_nx, sw_bad, sw_seq, sw_if, sw_ret, sw_drop, sw_asg, sw_aug, sw_own, sw_app, sw_ext, sw_frz, sw_forS, startR1, startR2, startR3, List.replicate, List.length_cons, List.length_nil, List.getElem?_cons_zero, List.getElem?_cons_succ, List.set_cons_zero, List.set_cons_succ, o_addI, o_subI, o_ltI, o_leI, o_gtI, o_geI, o_addII, o_eqII, o_eqSS, o_neII, o_neSS, o_eqBB, o_neBB, o_neg, o_ixT, o_ixL, atI_0, atI_1, atI_2, atI_last, o_max, o_min, o_int, o_tuple, o_list, o_lenL, o_lenT, o_tup0, o_tup1, o_tup2, o_tup3, asB_bl, asI_int, asL_lst, items_l, items_t, o_inRule, o_in23, o_in33, o_inLeast, o_inMost, o_inAdd, o_inPart, o_inEven, o_enT, o_enL, ty_n, ty_b, ty_i, ty_s, ty_t, ty_l, g_n, g_b, g_i, g_s, g_t, g_l, put1, put2, put3, Option.some.injEq, SV.dat.injEq, SV.own.injEq, exists_eq_left', exists_eq_left, Option.bind_some, Bool.not_true, Bool.not_false, if_true, if_false, ite_true, ite_false, decide_true, decide_false, Bool.false_eq_true, reduceIte, true_and, and_true, ne_eq, not_false_eq_true, not_true_eq_false, sw_try, sw_raise, sx_raise, ex_ok, ex_bad, ex_err, ex_var, ex_c, ex_op, ex_un, ex_nil, ex_cons, ex_cl, ex_toT, ex_not, ex_and, ex_or, ex_notE, ex_andE, ex_orE, ex_if, ex_ch, ex_call, ex_run, ex_isi, ex_noO, ex_soO, ex_sl, ex_ownIx, ex_ownLen, ex_seqI, ex_rngI, ex_enI, ex_yes, ex_lc, sx_nx, sx_bad, sx_seq, sx_if, sx_ret, sx_drop, sx_asg, sx_aug, sx_own, sx_app, sx_ext, sx_frz, sx_forS, ew_err, ew_bad, true_or, or_true, false_or, or_false, and_false, false_and, exists_false, exists_const, exists_eq', exists_eq, ew_no, h, and_self]
  simp only [sw_ownL, sw_ownPar, seqD_l, seqD_t, lstAt, lstOf_own, lstOf_lst, ew_run, ew_ok, ew_var, ew_c, ew_op, ew_un, ew_nil, ew_cons, ew_cl, ew_toT, ew_not, ew_and, ew_or, ew_notE, ew_andE, ew_orE, ew_if, ew_ch, ew_call, ew_isi, ew_noO, ew_soO, ew_sl, ew_ownIx, ew_ownLen, ew_seqI, ew_rngI, ew_enI, ew_yes, ew_lc, sw_nx, sw_bad, sw_seq, sw_if, sw_ret, sw_drop, sw_asg, sw_aug, sw_own, sw_app, sw_ext, sw_frz, sw_forS, startR1, startR2, startR3, List.replicate, List.length_cons, List.length_nil, List.getElem?_cons_zero, List.getElem?_cons_succ, List.set_cons_zero, List.set_cons_succ, o_addI, o_subI, o_ltI, o_leI, o_gtI, o_geI, o_addII, o_eqII, o_eqSS, o_neII, o_neSS, o_eqBB, o_neBB, o_neg, o_ixT, o_ixL, atI_0, atI_1, atI_2, atI_last, o_max, o_min, o_int, o_tuple, o_list, o_lenL, o_lenT, o_tup0, o_tup1, o_tup2, o_tup3, asB_bl, asI_int, asL_lst, items_l, items_t, o_inRule, o_in23, o_in33, o_inLeast, o_inMost, o_inAdd, o_inPart, o_inEven, o_enT, o_enL, ty_n, ty_b, ty_i, ty_s, ty_t, ty_l, g_n, g_b, g_i, g_s, g_t, g_l, put1, put2, put3, Option.some.injEq, SV.dat.injEq, SV.own.injEq, exists_eq_left', exists_eq_left, Option.bind_some, Bool.not_true, Bool.not_false, if_true, if_false, ite_true, ite_false, decide_true, decide_false, Bool.false_eq_true, reduceIte, true_and, and_true, ne_eq, not_false_eq_true, not_true_eq_false, sw_try, sw_raise, sx_raise, ex_ok, ex_bad, ex_err, ex_var, ex_c, ex_op, ex_un, ex_nil, ex_cons, ex_cl, ex_toT, ex_not, ex_and, ex_or, ex_notE, ex_andE, ex_orE, ex_if, ex_ch, ex_call, ex_run, ex_isi, ex_noO, ex_soO, ex_sl, ex_ownIx, ex_ownLen, ex_seqI, ex_rngI, ex_enI, ex_yes, ex_lc, sx_nx, sx_bad, sx_seq, sx_if, sx_ret, sx_drop, sx_asg, sx_aug, sx_own, sx_app, sx_ext, sx_frz, sx_forS, ew_err, ew_bad, true_or, or_true, false_or, or_false, and_false, false_and, exists_false, exists_const, exists_eq', exists_eq, ew_no, hp, hk, e1, e2, and_self, List.length]
  decide
def odds01 : List D := [.tup [.str (Str.ofString "part"), .int 201, .str (Str.ofString "up")], .tup [.str (Str.ofString "part"), .int (-1), .str (Str.ofString "up")], .tup [.str (Str.ofString "part"), .int 50], .tup [.str (Str.ofString "part"), .int 50, .str (Str.ofString "Up")], .tup [.str (Str.ofString "part"), .int 50, .non],
  .tup [.str (Str.ofString "part"), .bl true, .str (Str.ofString "up")], .tup [.str (Str.ofString "add"), .int 201], .tup [.str (Str.ofString "add"), .int (-201)], .tup [.str (Str.ofString "add"), .int 5, .str (Str.ofString "up")], .tup [.str (Str.ofString "add")], .tup [.str (Str.ofString "add"), .str (Str.ofString "5")],
  .tup [.str (Str.ofString "even"), .int 1, .str (Str.ofString "up")], .tup [.str (Str.ofString "even"), .int 101, .str (Str.ofString "up")], .tup [.str (Str.ofString "least"), .int (-1)], .tup [.str (Str.ofString "least"), .int 1001], .tup [.str (Str.ofString "most"), .int 1001],
  .tup [.str (Str.ofString "most"), .non], .tup [.str (Str.ofString "most"), .bl false], .lst [.str (Str.ofString "add"), .int 5], .non, .tup [], .int 5, .tup [.str (Str.ofString "Add"), .int 5], .tup [.int 5, .str (Str.ofString "add")], .tup [.tup [.str (Str.ofString "add")], .int 5],
  .str (Str.ofString "add 5"), .tup [.str (Str.ofString "even"), .int 100, .str (Str.ofString "near")], .tup [.str (Str.ofString "part"), .int 200, .str (Str.ofString "down")], .tup [.str (Str.ofString "most"), .int 1000]]
theorem odds_elem : ∀ x ∈ odds01, Elem x := by
  unfold odds01
  refine List.forall_mem_cons.mpr ⟨elem_bad (fun g => by kernel_rfl) (fun g => by kernel_rfl), ?_⟩
  refine List.forall_mem_cons.mpr ⟨elem_bad (fun g => by kernel_rfl) (fun g => by kernel_rfl), ?_⟩
  refine List.forall_mem_cons.mpr ⟨elem_bad (fun g => by kernel_rfl) (fun g => by kernel_rfl), ?_⟩
  refine List.forall_mem_cons.mpr ⟨elem_bad (fun g => by kernel_rfl) (fun g => by kernel_rfl), ?_⟩
  refine List.forall_mem_cons.mpr ⟨elem_bad (fun g => by kernel_rfl) (fun g => by kernel_rfl), ?_⟩
  refine List.forall_mem_cons.mpr ⟨elem_bad (fun g => by kernel_rfl) (fun g => by kernel_rfl), ?_⟩
  refine List.forall_mem_cons.mpr ⟨elem_bad (fun g => by kernel_rfl) (fun g => by kernel_rfl), ?_⟩
  refine List.forall_mem_cons.mpr ⟨elem_bad (fun g => by kernel_rfl) (fun g => by kernel_rfl), ?_⟩
  refine List.forall_mem_cons.mpr ⟨elem_bad (fun g => by kernel_rfl) (fun g => by kernel_rfl), ?_⟩
  refine List.forall_mem_cons.mpr ⟨elem_bad (fun g => by kernel_rfl) (fun g => by kernel_rfl), ?_⟩
  refine List.forall_mem_cons.mpr ⟨elem_bad (fun g => by kernel_rfl) (fun g => by kernel_rfl), ?_⟩
  refine List.forall_mem_cons.mpr ⟨elem_bad (fun g => by kernel_rfl) (fun g => by kernel_rfl), ?_⟩
  refine List.forall_mem_cons.mpr ⟨elem_bad (fun g => by kernel_rfl) (fun g => by kernel_rfl), ?_⟩
  refine List.forall_mem_cons.mpr ⟨elem_bad (fun g => by kernel_rfl) (fun g => by kernel_rfl), ?_⟩
  refine List.forall_mem_cons.mpr ⟨elem_bad (fun g => by kernel_rfl) (fun g => by kernel_rfl), ?_⟩
  refine List.forall_mem_cons.mpr ⟨elem_bad (fun g => by kernel_rfl) (fun g => by kernel_rfl), ?_⟩
  refine List.forall_mem_cons.mpr ⟨elem_bad (fun g => by kernel_rfl) (fun g => by kernel_rfl), ?_⟩
  refine List.forall_mem_cons.mpr ⟨elem_bad (fun g => by kernel_rfl) (fun g => by kernel_rfl), ?_⟩
  refine List.forall_mem_cons.mpr ⟨elem_bad (fun g => by kernel_rfl) (fun g => by kernel_rfl), ?_⟩
  refine List.forall_mem_cons.mpr ⟨elem_bad (fun g => by kernel_rfl) (fun g => by kernel_rfl), ?_⟩
  refine List.forall_mem_cons.mpr ⟨elem_bad (fun g => by kernel_rfl) (fun g => by kernel_rfl), ?_⟩
  refine List.forall_mem_cons.mpr ⟨elem_bad (fun g => by kernel_rfl) (fun g => by kernel_rfl), ?_⟩
  refine List.forall_mem_cons.mpr ⟨elem_bad (fun g => by kernel_rfl) (fun g => by kernel_rfl), ?_⟩
  refine List.forall_mem_cons.mpr ⟨elem_bad (fun g => by kernel_rfl) (fun g => by kernel_rfl), ?_⟩
  refine List.forall_mem_cons.mpr ⟨elem_bad (fun g => by kernel_rfl) (fun g => by kernel_rfl), ?_⟩
  refine List.forall_mem_cons.mpr ⟨elem_bad (fun g => by kernel_rfl) (fun g => by kernel_rfl), ?_⟩
  refine List.forall_mem_cons.mpr ⟨elem_step (s := .even 100 .near) ⟨by decide, by decide⟩, ?_⟩
  refine List.forall_mem_cons.mpr ⟨elem_step (s := .part 200 .down) ⟨by decide, by decide⟩, ?_⟩
  refine List.forall_mem_cons.mpr ⟨elem_step (s := .most 1000) ⟨by decide, by decide⟩, ?_⟩
  intro x hx
  cases hx
theorem find_bad {xs : List D} (h : ¬ ∀ x ∈ xs, isB x = true) : ∃ (i : Nat) (x : D), xs[i]? = some x ∧ isB x = false ∧ ∀ (j : Nat) (y : D), j < i → xs[j]? = some y → isB y = true := by
  induction xs with
  | nil => exact (h fun x hx => by cases hx).elim
  | cons a xs ih =>
    cases e : isB a with
    | false => exact ⟨0, a, rfl, e, fun j y hj => by omega⟩
    | true =>
      have : ¬ ∀ x ∈ xs, isB x = true := fun q => h fun x hx => by
        rcases List.mem_cons.mp hx with z | z
        · rw [z]; exact e
        · exact q x z
      obtain ⟨i, x, h1, h2, h3⟩ := ih this
      refine ⟨i + 1, x, by simpa using h1, h2, fun j y hj hy => ?_⟩
      cases j with
      | zero => simp at hy; rw [← hy]; exact e
      | succ j => exact h3 j y (by omega) (by simpa using hy)
theorem filt_first {n i : Nat} {p : Nat → Bool} (hi : i < n) (hp : p i = true) (hj : ∀ j, j < i → p j = false) : ((List.range n).filter p).take 1 = [i] ∧ (List.range n).filter p ≠ [] := by
  have e : List.range n = List.range i ++ i :: (List.range' (i + 1) (n - i - 1)) := by
    have h1 : List.range n = List.range i ++ List.range' i (n - i) := by
      have := List.range'_append_1 (s := 0) (m := i) (n := n - i)
      rw [List.range_eq_range', List.range_eq_range', show n = i + (n - i) by omega]
      rw [← this]
      simp
    rw [h1]
    congr 1
    rw [show n - i = (n - i - 1) + 1 by omega, List.range'_succ]
    simp
  have h0 : (List.range i).filter p = [] := by
    rw [List.filter_eq_nil_iff]
    intro a ha
    rw [hj a (List.mem_range.mp ha)]
    decide
  rw [e, List.filter_append, h0, List.nil_append, List.filter_cons_of_pos hp]
  simp
def Made (xs : List D) (x : D) : Prop := x = .tup xs ∨ (isG x = false ∧ isG x = false ∧ ((["tuple"] : List String).any fun t => subTy (tyN x) t) = false) ∨ ∃ ys, x = .tup ys ∧ 6 < ys.length
theorem law01_true : ∀ ns : List Int, ns.length ≤ 63 → ∃ g, d_law01 [.scr ns] none = .ok (.bl true) g := by
  intro ns hns
  suffices h : EW (d_law01 [.scr ns] none) (fun d _ => d = .bl true) by
    obtain ⟨d, g, e, rfl⟩ := ew_ex h
    exact ⟨g, e⟩
  unfold d_law01 b_law01
  have a1 : ∀ a b : List D, a.length + b.length ≤ 100 → addO (.lst a) (.lst b) = some (.lst (a ++ b)) := fun a b h => by
    have : a.length + b.length ≤ sizeLine := Nat.le_trans h (by decide)
    simp [addO, alt2, addI, addS, addL, iiO0, this]
  simp only [sw_ownL, sw_ownPar, seqD_l, seqD_t, lstAt, lstOf_own, lstOf_lst, ew_run, ew_ok, ew_var, ew_c, ew_op, ew_un, ew_nil, ew_cons, ew_cl, ew_toT, ew_not, ew_and, ew_or, ew_notE, ew_andE, ew_orE, ew_if, ew_ch, ew_call, ew_isi, ew_noO, ew_soO, ew_sl, ew_ownIx, ew_ownLen, ew_seqI, ew_rngI, ew_enI, ew_yes, ew_lc, sw_nx, sw_bad, sw_seq, sw_if, sw_ret, sw_drop, sw_asg, sw_aug, sw_own, sw_app, sw_ext, sw_frz, sw_forS, startR1, startR2, startR3, List.replicate, List.length_cons, List.length_nil, List.getElem?_cons_zero, List.getElem?_cons_succ, List.set_cons_zero, List.set_cons_succ, o_addI, o_subI, o_ltI, o_leI, o_gtI, o_geI, o_addII, o_eqII, o_eqSS, o_neII, o_neSS, o_eqBB, o_neBB, o_neg, o_ixT, o_ixL, atI_0, atI_1, atI_2, atI_last, o_max, o_min, o_int, o_tuple, o_list, o_lenL, o_lenT, o_tup0, o_tup1, o_tup2, o_tup3, asB_bl, asI_int, asL_lst, items_l, items_t, o_inRule, o_in23, o_in33, o_inLeast, o_inMost, o_inAdd, o_inPart, o_inEven, o_enT, o_enL, ty_n, ty_b, ty_i, ty_s, ty_t, ty_l, g_n, g_b, g_i, g_s, g_t, g_l, put1, put2, put3, Option.some.injEq, SV.dat.injEq, SV.own.injEq, exists_eq_left', exists_eq_left, Option.bind_some, Bool.not_true, Bool.not_false, if_true, if_false, ite_true, ite_false, decide_true, decide_false, Bool.false_eq_true, reduceIte, true_and, and_true, ne_eq, not_false_eq_true, not_true_eq_false, o_lst0, o_lst1, o_lst2, o_lst3, o_lst4, o_lst5, o_lst6, o_lst7, o_lst8, o_lst9, o_lst10, o_lst11, o_lst12, o_lst13, o_lst14, o_tup4, o_tup5, o_tup6, o_tup7, o_tup8, mix_ok]
  refine ⟨_, a1 _ _ (by simp), _, a1 _ _ (by simp), _, a1 _ _ (by simp), .lst odds01, a1 _ _ (by simp), ?_⟩
  have hlo : odds01.length = 29 := rfl
  simp only [sw_ownL, sw_ownPar, seqD_l, seqD_t, lstAt, lstOf_own, lstOf_lst, ew_run, ew_ok, ew_var, ew_c, ew_op, ew_un, ew_nil, ew_cons, ew_cl, ew_toT, ew_not, ew_and, ew_or, ew_notE, ew_andE, ew_orE, ew_if, ew_ch, ew_call, ew_isi, ew_noO, ew_soO, ew_sl, ew_ownIx, ew_ownLen, ew_seqI, ew_rngI, ew_enI, ew_yes, ew_lc, sw_nx, sw_bad, sw_seq, sw_if, sw_ret, sw_drop, sw_asg, sw_aug, sw_own, sw_app, sw_ext, sw_frz, sw_forS, startR1, startR2, startR3, List.replicate, List.length_cons, List.length_nil, List.getElem?_cons_zero, List.getElem?_cons_succ, List.set_cons_zero, List.set_cons_succ, o_addI, o_subI, o_ltI, o_leI, o_gtI, o_geI, o_addII, o_eqII, o_eqSS, o_neII, o_neSS, o_eqBB, o_neBB, o_neg, o_ixT, o_ixL, atI_0, atI_1, atI_2, atI_last, o_max, o_min, o_int, o_tuple, o_list, o_lenL, o_lenT, o_tup0, o_tup1, o_tup2, o_tup3, asB_bl, asI_int, asL_lst, items_l, items_t, o_inRule, o_in23, o_in33, o_inLeast, o_inMost, o_inAdd, o_inPart, o_inEven, o_enT, o_enL, ty_n, ty_b, ty_i, ty_s, ty_t, ty_l, g_n, g_b, g_i, g_s, g_t, g_l, put1, put2, put3, Option.some.injEq, SV.dat.injEq, SV.own.injEq, exists_eq_left', exists_eq_left, Option.bind_some, Bool.not_true, Bool.not_false, if_true, if_false, ite_true, ite_false, decide_true, decide_false, Bool.false_eq_true, reduceIte, true_and, and_true, ne_eq, not_false_eq_true, not_true_eq_false, o_lst0, o_lst1, o_lst2, o_lst3, o_lst4, o_lst5, o_lst6, o_lst7, o_lst8, o_lst9, o_lst10, o_lst11, o_lst12, o_lst13, o_lst14, o_tup4, o_tup5, o_tup6, o_tup7, o_tup8, o_rng1 (j := 8) (by decide) (by decide)]
  refine sw_rng (fun _ ρ g => ∃ γ a3 a4 a5 a6 a7 a8 a9, g = some γ ∧ GOk γ ∧ ρ = [some (.dat (.scr ns)), some (.dat .gen), some (.dat (.lst odds01)), a3, a4, a5, a6, a7, a8, a9, none]) ?_ ?_ ⟨_, none, none, none, none, none, none, none, rfl, ⟨hns, Int.le_refl 0⟩, rfl⟩
  · rintro i ρ g hi ⟨γ, a3, a4, a5, a6, a7, a8, a9, rfl, hγ, rfl⟩
    refine ⟨_, put1, ?_⟩
    simp only [sw_ownL, sw_ownPar, seqD_l, seqD_t, lstAt, lstOf_own, lstOf_lst, ew_run, ew_ok, ew_var, ew_c, ew_op, ew_un, ew_nil, ew_cons, ew_cl, ew_toT, ew_not, ew_and, ew_or, ew_notE, ew_andE, ew_orE, ew_if, ew_ch, ew_call, ew_isi, ew_noO, ew_soO, ew_sl, ew_ownIx, ew_ownLen, ew_seqI, ew_rngI, ew_enI, ew_yes, ew_lc, sw_nx, sw_bad, sw_seq, sw_if, sw_ret, sw_drop, sw_asg, sw_aug, sw_own, sw_app, sw_ext, sw_frz, sw_forS, startR1, startR2, startR3, List.replicate, List.length_cons, List.length_nil, List.getElem?_cons_zero, List.getElem?_cons_succ, List.set_cons_zero, List.set_cons_succ, o_addI, o_subI, o_ltI, o_leI, o_gtI, o_geI, o_addII, o_eqII, o_eqSS, o_neII, o_neSS, o_eqBB, o_neBB, o_neg, o_ixT, o_ixL, atI_0, atI_1, atI_2, atI_last, o_max, o_min, o_int, o_tuple, o_list, o_lenL, o_lenT, o_tup0, o_tup1, o_tup2, o_tup3, asB_bl, asI_int, asL_lst, items_l, items_t, o_inRule, o_in23, o_in33, o_inLeast, o_inMost, o_inAdd, o_inPart, o_inEven, o_enT, o_enL, ty_n, ty_b, ty_i, ty_s, ty_t, ty_l, g_n, g_b, g_i, g_s, g_t, g_l, put1, put2, put3, Option.some.injEq, SV.dat.injEq, SV.own.injEq, exists_eq_left', exists_eq_left, Option.bind_some, Bool.not_true, Bool.not_false, if_true, if_false, ite_true, ite_false, decide_true, decide_false, Bool.false_eq_true, reduceIte, true_and, and_true, ne_eq, not_false_eq_true, not_true_eq_false]
    refine ew_steps hγ (by decide) (by decide) fun s γ1 g1 hds hl => ?_
    simp only [sw_ownL, sw_ownPar, seqD_l, seqD_t, lstAt, lstOf_own, lstOf_lst, ew_run, ew_ok, ew_var, ew_c, ew_op, ew_un, ew_nil, ew_cons, ew_cl, ew_toT, ew_not, ew_and, ew_or, ew_notE, ew_andE, ew_orE, ew_if, ew_ch, ew_call, ew_isi, ew_noO, ew_soO, ew_sl, ew_ownIx, ew_ownLen, ew_seqI, ew_rngI, ew_enI, ew_yes, ew_lc, sw_nx, sw_bad, sw_seq, sw_if, sw_ret, sw_drop, sw_asg, sw_aug, sw_own, sw_app, sw_ext, sw_frz, sw_forS, startR1, startR2, startR3, List.replicate, List.length_cons, List.length_nil, List.getElem?_cons_zero, List.getElem?_cons_succ, List.set_cons_zero, List.set_cons_succ, o_addI, o_subI, o_ltI, o_leI, o_gtI, o_geI, o_addII, o_eqII, o_eqSS, o_neII, o_neSS, o_eqBB, o_neBB, o_neg, o_ixT, o_ixL, atI_0, atI_1, atI_2, atI_last, o_max, o_min, o_int, o_tuple, o_list, o_lenL, o_lenT, o_tup0, o_tup1, o_tup2, o_tup3, asB_bl, asI_int, asL_lst, items_l, items_t, o_inRule, o_in23, o_in33, o_inLeast, o_inMost, o_inAdd, o_inPart, o_inEven, o_enT, o_enL, ty_n, ty_b, ty_i, ty_s, ty_t, ty_l, g_n, g_b, g_i, g_s, g_t, g_l, put1, put2, put3, Option.some.injEq, SV.dat.injEq, SV.own.injEq, exists_eq_left', exists_eq_left, Option.bind_some, Bool.not_true, Bool.not_false, if_true, if_false, ite_true, ite_false, decide_true, decide_false, Bool.false_eq_true, reduceIte, true_and, and_true, ne_eq, not_false_eq_true, not_true_eq_false, o_lst0, o_lst1, o_lst2, o_lst3, o_lst4, o_lst5, o_lst6, o_lst7, o_lst8, o_lst9, o_lst10, o_lst11, o_lst12, o_lst13, o_lst14, o_tup4, o_tup5, o_tup6, o_tup7, o_tup8]
    refine ew_pick g1 (by decide) (by decide) fun n x γ2 g2 hx => ?_
    obtain ⟨cap, hcap, rfl⟩ := mem_ints (l := [0, 0, 1, 1, 2]) (n := n) (d := x) hx
    have hc : 0 ≤ cap ∧ cap ≤ 2 := by
      simp at hcap
      omega
    simp only [sw_ownL, sw_ownPar, seqD_l, seqD_t, lstAt, lstOf_own, lstOf_lst, ew_run, ew_ok, ew_var, ew_c, ew_op, ew_un, ew_nil, ew_cons, ew_cl, ew_toT, ew_not, ew_and, ew_or, ew_notE, ew_andE, ew_orE, ew_if, ew_ch, ew_call, ew_isi, ew_noO, ew_soO, ew_sl, ew_ownIx, ew_ownLen, ew_seqI, ew_rngI, ew_enI, ew_yes, ew_lc, sw_nx, sw_bad, sw_seq, sw_if, sw_ret, sw_drop, sw_asg, sw_aug, sw_own, sw_app, sw_ext, sw_frz, sw_forS, startR1, startR2, startR3, List.replicate, List.length_cons, List.length_nil, List.getElem?_cons_zero, List.getElem?_cons_succ, List.set_cons_zero, List.set_cons_succ, o_addI, o_subI, o_ltI, o_leI, o_gtI, o_geI, o_addII, o_eqII, o_eqSS, o_neII, o_neSS, o_eqBB, o_neBB, o_neg, o_ixT, o_ixL, atI_0, atI_1, atI_2, atI_last, o_max, o_min, o_int, o_tuple, o_list, o_lenL, o_lenT, o_tup0, o_tup1, o_tup2, o_tup3, asB_bl, asI_int, asL_lst, items_l, items_t, o_inRule, o_in23, o_in33, o_inLeast, o_inMost, o_inAdd, o_inPart, o_inEven, o_enT, o_enL, ty_n, ty_b, ty_i, ty_s, ty_t, ty_l, g_n, g_b, g_i, g_s, g_t, g_l, put1, put2, put3, Option.some.injEq, SV.dat.injEq, SV.own.injEq, exists_eq_left', exists_eq_left, Option.bind_some, Bool.not_true, Bool.not_false, if_true, if_false, ite_true, ite_false, decide_true, decide_false, Bool.false_eq_true, reduceIte, true_and, and_true, ne_eq, not_false_eq_true, not_true_eq_false, o_rng1 (j := cap) hc.1 (by omega)]
    refine sw_rng (fun k ρ g => ∃ γ xs a5 a6, g = some γ ∧ GOk γ ∧ (∀ x ∈ xs, Elem x) ∧ xs.length ≤ 6 + k ∧ ρ = [some (.dat (.scr ns)), some (.dat .gen), some (.dat (.lst odds01)), some (.dat (.int (0 + (i : Nat)))), some (.dat (.tup xs)), a5, a6, a7, a8, a9, none]) ?_ ?_ ⟨γ2, s.map dStep, a5, a6, rfl, g2, (fun x hx => ?_), (by rw [List.length_map]; omega), rfl⟩
    · rintro k ρ g hk ⟨γ3, xs, b5, b6, rfl, g3, he, hlx, rfl⟩
      refine ⟨_, put1, ?_⟩
      simp only [sw_ownL, sw_ownPar, seqD_l, seqD_t, lstAt, lstOf_own, lstOf_lst, ew_run, ew_ok, ew_var, ew_c, ew_op, ew_un, ew_nil, ew_cons, ew_cl, ew_toT, ew_not, ew_and, ew_or, ew_notE, ew_andE, ew_orE, ew_if, ew_ch, ew_call, ew_isi, ew_noO, ew_soO, ew_sl, ew_ownIx, ew_ownLen, ew_seqI, ew_rngI, ew_enI, ew_yes, ew_lc, sw_nx, sw_bad, sw_seq, sw_if, sw_ret, sw_drop, sw_asg, sw_aug, sw_own, sw_app, sw_ext, sw_frz, sw_forS, startR1, startR2, startR3, List.replicate, List.length_cons, List.length_nil, List.getElem?_cons_zero, List.getElem?_cons_succ, List.set_cons_zero, List.set_cons_succ, o_addI, o_subI, o_ltI, o_leI, o_gtI, o_geI, o_addII, o_eqII, o_eqSS, o_neII, o_neSS, o_eqBB, o_neBB, o_neg, o_ixT, o_ixL, atI_0, atI_1, atI_2, atI_last, o_max, o_min, o_int, o_tuple, o_list, o_lenL, o_lenT, o_tup0, o_tup1, o_tup2, o_tup3, asB_bl, asI_int, asL_lst, items_l, items_t, o_inRule, o_in23, o_in33, o_inLeast, o_inMost, o_inAdd, o_inPart, o_inEven, o_enT, o_enL, ty_n, ty_b, ty_i, ty_s, ty_t, ty_l, g_n, g_b, g_i, g_s, g_t, g_l, put1, put2, put3, Option.some.injEq, SV.dat.injEq, SV.own.injEq, exists_eq_left', exists_eq_left, Option.bind_some, Bool.not_true, Bool.not_false, if_true, if_false, ite_true, ite_false, decide_true, decide_false, Bool.false_eq_true, reduceIte, true_and, and_true, ne_eq, not_false_eq_true, not_true_eq_false]
      refine ew_next g3 (by omega) (by omega) fun m γ4 g4 m0 m1 => ?_
      obtain ⟨q, rfl⟩ : ∃ q : Nat, m = q := ⟨m.toNat, by omega⟩
      simp only [sw_ownL, sw_ownPar, seqD_l, seqD_t, lstAt, lstOf_own, lstOf_lst, ew_run, ew_ok, ew_var, ew_c, ew_op, ew_un, ew_nil, ew_cons, ew_cl, ew_toT, ew_not, ew_and, ew_or, ew_notE, ew_andE, ew_orE, ew_if, ew_ch, ew_call, ew_isi, ew_noO, ew_soO, ew_sl, ew_ownIx, ew_ownLen, ew_seqI, ew_rngI, ew_enI, ew_yes, ew_lc, sw_nx, sw_bad, sw_seq, sw_if, sw_ret, sw_drop, sw_asg, sw_aug, sw_own, sw_app, sw_ext, sw_frz, sw_forS, startR1, startR2, startR3, List.replicate, List.length_cons, List.length_nil, List.getElem?_cons_zero, List.getElem?_cons_succ, List.set_cons_zero, List.set_cons_succ, o_addI, o_subI, o_ltI, o_leI, o_gtI, o_geI, o_addII, o_eqII, o_eqSS, o_neII, o_neSS, o_eqBB, o_neBB, o_neg, o_ixT, o_ixL, atI_0, atI_1, atI_2, atI_last, o_max, o_min, o_int, o_tuple, o_list, o_lenL, o_lenT, o_tup0, o_tup1, o_tup2, o_tup3, asB_bl, asI_int, asL_lst, items_l, items_t, o_inRule, o_in23, o_in33, o_inLeast, o_inMost, o_inAdd, o_inPart, o_inEven, o_enT, o_enL, ty_n, ty_b, ty_i, ty_s, ty_t, ty_l, g_n, g_b, g_i, g_s, g_t, g_l, put1, put2, put3, Option.some.injEq, SV.dat.injEq, SV.own.injEq, exists_eq_left', exists_eq_left, Option.bind_some, Bool.not_true, Bool.not_false, if_true, if_false, ite_true, ite_false, decide_true, decide_false, Bool.false_eq_true, reduceIte, true_and, and_true, ne_eq, not_false_eq_true, not_true_eq_false, o_takeT, show ((q : Nat) : Int) + 1 = ((q + 1 : Nat) : Int) by omega, o_dropT]
      refine ew_pick g4 (by decide) (by decide) fun n x γ5 g5 hx => ?_
      have hxe := odds_elem x (List.mem_of_getElem? hx)
      simp only [sw_ownL, sw_ownPar, seqD_l, seqD_t, lstAt, lstOf_own, lstOf_lst, ew_run, ew_ok, ew_var, ew_c, ew_op, ew_un, ew_nil, ew_cons, ew_cl, ew_toT, ew_not, ew_and, ew_or, ew_notE, ew_andE, ew_orE, ew_if, ew_ch, ew_call, ew_isi, ew_noO, ew_soO, ew_sl, ew_ownIx, ew_ownLen, ew_seqI, ew_rngI, ew_enI, ew_yes, ew_lc, sw_nx, sw_bad, sw_seq, sw_if, sw_ret, sw_drop, sw_asg, sw_aug, sw_own, sw_app, sw_ext, sw_frz, sw_forS, startR1, startR2, startR3, List.replicate, List.length_cons, List.length_nil, List.getElem?_cons_zero, List.getElem?_cons_succ, List.set_cons_zero, List.set_cons_succ, o_addI, o_subI, o_ltI, o_leI, o_gtI, o_geI, o_addII, o_eqII, o_eqSS, o_neII, o_neSS, o_eqBB, o_neBB, o_neg, o_ixT, o_ixL, atI_0, atI_1, atI_2, atI_last, o_max, o_min, o_int, o_tuple, o_list, o_lenL, o_lenT, o_tup0, o_tup1, o_tup2, o_tup3, asB_bl, asI_int, asL_lst, items_l, items_t, o_inRule, o_in23, o_in33, o_inLeast, o_inMost, o_inAdd, o_inPart, o_inEven, o_enT, o_enL, ty_n, ty_b, ty_i, ty_s, ty_t, ty_l, g_n, g_b, g_i, g_s, g_t, g_l, put1, put2, put3, Option.some.injEq, SV.dat.injEq, SV.own.injEq, exists_eq_left', exists_eq_left, Option.bind_some, Bool.not_true, Bool.not_false, if_true, if_false, ite_true, ite_false, decide_true, decide_false, Bool.false_eq_true, reduceIte, true_and, and_true, ne_eq, not_false_eq_true, not_true_eq_false]
      have hlen : (xs.take q).length + [x].length ≤ 1000 := by simp; omega
      have hlen2 : (xs.take q ++ [x]).length + (xs.drop (q + 1)).length ≤ 1000 := by simp; omega
      refine ⟨_, o_catT hlen, _, o_catT hlen2, γ5, _, _, _, rfl, g5, ?_, ?_, rfl⟩
      · intro y hy
        rcases List.mem_append.mp hy with z | z
        · rcases List.mem_append.mp z with z | z
          · exact he y (List.mem_of_mem_take z)
          · rw [List.mem_singleton.mp z]; exact hxe
        · exact he y (List.mem_of_mem_drop z)
      · simp
        omega
    · rintro ρ g ⟨γ3, xs, b5, b6, rfl, g3, he, hlx, rfl⟩
      have om : mulO (.lst [.tup xs]) (.int 9) = some (.lst [.tup xs, .tup xs, .tup xs, .tup xs, .tup xs, .tup xs, .tup xs, .tup xs, .tup xs]) := by kernel_rfl
      have o7 : mulO (.tup [.tup [.str (Str.ofString "add"), .int 1]]) (.int 7) = some (.tup [.tup [.str (Str.ofString "add"), .int 1], .tup [.str (Str.ofString "add"), .int 1], .tup [.str (Str.ofString "add"), .int 1], .tup [.str (Str.ofString "add"), .int 1], .tup [.str (Str.ofString "add"), .int 1], .tup [.str (Str.ofString "add"), .int 1], .tup [.str (Str.ofString "add"), .int 1]]) := by kernel_rfl
      have oL : listO [.tup xs] = some (.lst xs) := rfl
      have oA : addO (.lst [.tup xs, .tup xs, .tup xs, .tup xs, .tup xs, .tup xs, .tup xs, .tup xs, .tup xs]) (.lst [.lst xs, .non, .tup [.tup [.str (Str.ofString "add"), .int 1], .tup [.str (Str.ofString "add"), .int 1], .tup [.str (Str.ofString "add"), .int 1], .tup [.str (Str.ofString "add"), .int 1], .tup [.str (Str.ofString "add"), .int 1], .tup [.str (Str.ofString "add"), .int 1], .tup [.str (Str.ofString "add"), .int 1]], .int 0]) = some (.lst [.tup xs, .tup xs, .tup xs, .tup xs, .tup xs, .tup xs, .tup xs, .tup xs, .tup xs, .lst xs, .non, .tup [.tup [.str (Str.ofString "add"), .int 1], .tup [.str (Str.ofString "add"), .int 1], .tup [.str (Str.ofString "add"), .int 1], .tup [.str (Str.ofString "add"), .int 1], .tup [.str (Str.ofString "add"), .int 1], .tup [.str (Str.ofString "add"), .int 1], .tup [.str (Str.ofString "add"), .int 1]], .int 0]) := a1 _ _ (by simp)
      simp only [sw_ownL, sw_ownPar, seqD_l, seqD_t, lstAt, lstOf_own, lstOf_lst, ew_run, ew_ok, ew_var, ew_c, ew_op, ew_un, ew_nil, ew_cons, ew_cl, ew_toT, ew_not, ew_and, ew_or, ew_notE, ew_andE, ew_orE, ew_if, ew_ch, ew_call, ew_isi, ew_noO, ew_soO, ew_sl, ew_ownIx, ew_ownLen, ew_seqI, ew_rngI, ew_enI, ew_yes, ew_lc, sw_nx, sw_bad, sw_seq, sw_if, sw_ret, sw_drop, sw_asg, sw_aug, sw_own, sw_app, sw_ext, sw_frz, sw_forS, startR1, startR2, startR3, List.replicate, List.length_cons, List.length_nil, List.getElem?_cons_zero, List.getElem?_cons_succ, List.set_cons_zero, List.set_cons_succ, o_addI, o_subI, o_ltI, o_leI, o_gtI, o_geI, o_addII, o_eqII, o_eqSS, o_neII, o_neSS, o_eqBB, o_neBB, o_neg, o_ixT, o_ixL, atI_0, atI_1, atI_2, atI_last, o_max, o_min, o_int, o_tuple, o_list, o_lenL, o_lenT, o_tup0, o_tup1, o_tup2, o_tup3, asB_bl, asI_int, asL_lst, items_l, items_t, o_inRule, o_in23, o_in33, o_inLeast, o_inMost, o_inAdd, o_inPart, o_inEven, o_enT, o_enL, ty_n, ty_b, ty_i, ty_s, ty_t, ty_l, g_n, g_b, g_i, g_s, g_t, g_l, put1, put2, put3, Option.some.injEq, SV.dat.injEq, SV.own.injEq, exists_eq_left', exists_eq_left, Option.bind_some, Bool.not_true, Bool.not_false, if_true, if_false, ite_true, ite_false, decide_true, decide_false, Bool.false_eq_true, reduceIte, true_and, and_true, ne_eq, not_false_eq_true, not_true_eq_false, o_lst0, o_lst1, o_lst2, o_lst3, o_lst4, o_lst5, o_lst6, o_lst7, o_lst8, o_lst9, o_lst10, o_lst11, o_lst12, o_lst13, o_lst14, o_tup4, o_tup5, o_tup6, o_tup7, o_tup8, om, o7, oL, oA]
      refine ew_pick g3 (by simp) (by simp) fun n x γ4 g4 hx => ?_
      have hm : Made xs x := by
        match n, hx with
        | 0, hx => cases hx; exact .inl rfl
        | 1, hx => cases hx; exact .inl rfl
        | 2, hx => cases hx; exact .inl rfl
        | 3, hx => cases hx; exact .inl rfl
        | 4, hx => cases hx; exact .inl rfl
        | 5, hx => cases hx; exact .inl rfl
        | 6, hx => cases hx; exact .inl rfl
        | 7, hx => cases hx; exact .inl rfl
        | 8, hx => cases hx; exact .inl rfl
        | 9, hx => cases hx; exact .inr (.inl ⟨rfl, rfl, by rw [ty_l]; decide⟩)
        | 10, hx => cases hx; exact .inr (.inl ⟨rfl, rfl, by decide⟩)
        | 11, hx => cases hx; exact .inr (.inr ⟨_, rfl, by decide⟩)
        | 12, hx => cases hx; exact .inr (.inl ⟨rfl, rfl, by decide⟩)
      try simp only [sw_ownL, sw_ownPar, seqD_l, seqD_t, lstAt, lstOf_own, lstOf_lst, ew_run, ew_ok, ew_var, ew_c, ew_op, ew_un, ew_nil, ew_cons, ew_cl, ew_toT, ew_not, ew_and, ew_or, ew_notE, ew_andE, ew_orE, ew_if, ew_ch, ew_call, ew_isi, ew_noO, ew_soO, ew_sl, ew_ownIx, ew_ownLen, ew_seqI, ew_rngI, ew_enI, ew_yes, ew_lc, sw_nx, sw_bad, sw_seq, sw_if, sw_ret, sw_drop, sw_asg, sw_aug, sw_own, sw_app, sw_ext, sw_frz, sw_forS, startR1, startR2, startR3, List.replicate, List.length_cons, List.length_nil, List.getElem?_cons_zero, List.getElem?_cons_succ, List.set_cons_zero, List.set_cons_succ, o_addI, o_subI, o_ltI, o_leI, o_gtI, o_geI, o_addII, o_eqII, o_eqSS, o_neII, o_neSS, o_eqBB, o_neBB, o_neg, o_ixT, o_ixL, atI_0, atI_1, atI_2, atI_last, o_max, o_min, o_int, o_tuple, o_list, o_lenL, o_lenT, o_tup0, o_tup1, o_tup2, o_tup3, asB_bl, asI_int, asL_lst, items_l, items_t, o_inRule, o_in23, o_in33, o_inLeast, o_inMost, o_inAdd, o_inPart, o_inEven, o_enT, o_enL, ty_n, ty_b, ty_i, ty_s, ty_t, ty_l, g_n, g_b, g_i, g_s, g_t, g_l, put1, put2, put3, Option.some.injEq, SV.dat.injEq, SV.own.injEq, exists_eq_left', exists_eq_left, Option.bind_some, Bool.not_true, Bool.not_false, if_true, if_false, ite_true, ite_false, decide_true, decide_false, Bool.false_eq_true, reduceIte, true_and, and_true, ne_eq, not_false_eq_true, not_true_eq_false]
      refine ew_next g4 (by decide) (by decide) fun p γ5 g5 p0 p1 => ?_
      try simp only [sw_ownL, sw_ownPar, seqD_l, seqD_t, lstAt, lstOf_own, lstOf_lst, ew_run, ew_ok, ew_var, ew_c, ew_op, ew_un, ew_nil, ew_cons, ew_cl, ew_toT, ew_not, ew_and, ew_or, ew_notE, ew_andE, ew_orE, ew_if, ew_ch, ew_call, ew_isi, ew_noO, ew_soO, ew_sl, ew_ownIx, ew_ownLen, ew_seqI, ew_rngI, ew_enI, ew_yes, ew_lc, sw_nx, sw_bad, sw_seq, sw_if, sw_ret, sw_drop, sw_asg, sw_aug, sw_own, sw_app, sw_ext, sw_frz, sw_forS, startR1, startR2, startR3, List.replicate, List.length_cons, List.length_nil, List.getElem?_cons_zero, List.getElem?_cons_succ, List.set_cons_zero, List.set_cons_succ, o_addI, o_subI, o_ltI, o_leI, o_gtI, o_geI, o_addII, o_eqII, o_eqSS, o_neII, o_neSS, o_eqBB, o_neBB, o_neg, o_ixT, o_ixL, atI_0, atI_1, atI_2, atI_last, o_max, o_min, o_int, o_tuple, o_list, o_lenL, o_lenT, o_tup0, o_tup1, o_tup2, o_tup3, asB_bl, asI_int, asL_lst, items_l, items_t, o_inRule, o_in23, o_in33, o_inLeast, o_inMost, o_inAdd, o_inPart, o_inEven, o_enT, o_enL, ty_n, ty_b, ty_i, ty_s, ty_t, ty_l, g_n, g_b, g_i, g_s, g_t, g_l, put1, put2, put3, Option.some.injEq, SV.dat.injEq, SV.own.injEq, exists_eq_left', exists_eq_left, Option.bind_some, Bool.not_true, Bool.not_false, if_true, if_false, ite_true, ite_false, decide_true, decide_false, Bool.false_eq_true, reduceIte, true_and, and_true, ne_eq, not_false_eq_true, not_true_eq_false]
      have q1 : (["tuple"].any fun t => subTy "tuple" t) = true := by decide
      have nn : isNO .non .non = some (.bl true) := rfl
      have nl : ∀ l : List D, notNO (.lst l) .non = some (.bl true) := fun l => rfl
      have pl1 : ∀ i : D, i = .non ∨ (∃ k : Int, i = .int k) → ∀ g, d__law_alike [.lst [i], .lst [i]] g = .ok (.bl true) g := fun i hi g => by
        refine q__law_alike ?_
        rcases hi with rfl | ⟨k, rfl⟩ <;> simp [Plain]
      -- refused as a whole
      have whole : isG x = false → ((["tuple"].any fun t => subTy (tyN x) t) = false ∨ (∃ ys, x = .tup ys ∧ 6 < ys.length)) → d_check_steps [x] (some γ5) = .err (badX .non) (some γ5) := fun hg h => by
        rcases h with h | ⟨ys, rfl, h⟩
        · exact q_check_not hg h
        · exact q_check_long h
      rcases hm with rfl | ⟨hg, hlen, ht⟩ | ⟨ys, rfl, hy⟩
      · by_cases h6 : 6 < xs.length
        · have h6' : (6 : Int) < (xs.length : Int) := by omega
          simp only [sw_ownL, sw_ownPar, seqD_l, seqD_t, lstAt, lstOf_own, lstOf_lst, ew_run, ew_ok, ew_var, ew_c, ew_op, ew_un, ew_nil, ew_cons, ew_cl, ew_toT, ew_not, ew_and, ew_or, ew_notE, ew_andE, ew_orE, ew_if, ew_ch, ew_call, ew_isi, ew_noO, ew_soO, ew_sl, ew_ownIx, ew_ownLen, ew_seqI, ew_rngI, ew_enI, ew_yes, ew_lc, sw_nx, sw_bad, sw_seq, sw_if, sw_ret, sw_drop, sw_asg, sw_aug, sw_own, sw_app, sw_ext, sw_frz, sw_forS, startR1, startR2, startR3, List.replicate, List.length_cons, List.length_nil, List.getElem?_cons_zero, List.getElem?_cons_succ, List.set_cons_zero, List.set_cons_succ, o_addI, o_subI, o_ltI, o_leI, o_gtI, o_geI, o_addII, o_eqII, o_eqSS, o_neII, o_neSS, o_eqBB, o_neBB, o_neg, o_ixT, o_ixL, atI_0, atI_1, atI_2, atI_last, o_max, o_min, o_int, o_tuple, o_list, o_lenL, o_lenT, o_tup0, o_tup1, o_tup2, o_tup3, asB_bl, asI_int, asL_lst, items_l, items_t, o_inRule, o_in23, o_in33, o_inLeast, o_inMost, o_inAdd, o_inPart, o_inEven, o_enT, o_enL, ty_n, ty_b, ty_i, ty_s, ty_t, ty_l, g_n, g_b, g_i, g_s, g_t, g_l, put1, put2, put3, Option.some.injEq, SV.dat.injEq, SV.own.injEq, exists_eq_left', exists_eq_left, Option.bind_some, Bool.not_true, Bool.not_false, if_true, if_false, ite_true, ite_false, decide_true, decide_false, Bool.false_eq_true, reduceIte, true_and, and_true, ne_eq, not_false_eq_true, not_true_eq_false, o_lst0, o_lst1, o_lst2, o_lst3, o_lst4, o_lst5, o_lst6, o_lst7, o_lst8, o_lst9, o_lst10, o_lst11, o_lst12, o_lst13, o_lst14, o_tup4, o_tup5, o_tup6, o_tup7, o_tup8, q1, h6', nl, q_tried_x (q_check_long h6), pl1 .non (.inl rfl)]
          exact ⟨γ5, _, _, _, _, _, _, _, rfl, g5, rfl⟩
        · have h6' : ¬ (6 : Int) < (xs.length : Int) := by omega
          simp only [sw_ownL, sw_ownPar, seqD_l, seqD_t, lstAt, lstOf_own, lstOf_lst, ew_run, ew_ok, ew_var, ew_c, ew_op, ew_un, ew_nil, ew_cons, ew_cl, ew_toT, ew_not, ew_and, ew_or, ew_notE, ew_andE, ew_orE, ew_if, ew_ch, ew_call, ew_isi, ew_noO, ew_soO, ew_sl, ew_ownIx, ew_ownLen, ew_seqI, ew_rngI, ew_enI, ew_yes, ew_lc, sw_nx, sw_bad, sw_seq, sw_if, sw_ret, sw_drop, sw_asg, sw_aug, sw_own, sw_app, sw_ext, sw_frz, sw_forS, startR1, startR2, startR3, List.replicate, List.length_cons, List.length_nil, List.getElem?_cons_zero, List.getElem?_cons_succ, List.set_cons_zero, List.set_cons_succ, o_addI, o_subI, o_ltI, o_leI, o_gtI, o_geI, o_addII, o_eqII, o_eqSS, o_neII, o_neSS, o_eqBB, o_neBB, o_neg, o_ixT, o_ixL, atI_0, atI_1, atI_2, atI_last, o_max, o_min, o_int, o_tuple, o_list, o_lenL, o_lenT, o_tup0, o_tup1, o_tup2, o_tup3, asB_bl, asI_int, asL_lst, items_l, items_t, o_inRule, o_in23, o_in33, o_inLeast, o_inMost, o_inAdd, o_inPart, o_inEven, o_enT, o_enL, ty_n, ty_b, ty_i, ty_s, ty_t, ty_l, g_n, g_b, g_i, g_s, g_t, g_l, put1, put2, put3, Option.some.injEq, SV.dat.injEq, SV.own.injEq, exists_eq_left', exists_eq_left, Option.bind_some, Bool.not_true, Bool.not_false, if_true, if_false, ite_true, ite_false, decide_true, decide_false, Bool.false_eq_true, reduceIte, true_and, and_true, ne_eq, not_false_eq_true, not_true_eq_false, o_lst0, o_lst1, o_lst2, o_lst3, o_lst4, o_lst5, o_lst6, o_lst7, o_lst8, o_lst9, o_lst10, o_lst11, o_lst12, o_lst13, o_lst14, o_tup4, o_tup5, o_tup6, o_tup7, o_tup8, q1, h6', o_rng1 (j := (xs.length : Int)) (by omega) (by omega), wipeR]
          rw [rng_map, lcL_pure (fun i : Nat => D.int (0 + (i : Nat))) (fun i => !isB (xs.getD i .non)) (fun i : Nat => D.int ((i : Nat) : Int)) (List.range (xs.length : Int).toNat) (fun k hk => ⟨_, put1, by
            have hk' : k < xs.length := by have := List.mem_range.mp hk; omega
            have e1 : atI xs (0 + ((k : Nat) : Int)) = some (xs.getD k .non) := by
              rw [Int.zero_add, atI_nat, List.getD_eq_getElem?_getD, List.getElem?_eq_getElem hk']
              rfl
            have e2 : xs.getD k .non ∈ xs := by
              rw [List.getD_eq_getElem?_getD, List.getElem?_eq_getElem hk']
              exact List.getElem_mem hk'
            refine ⟨ew_eq ?_, fun _ => ew_eq ?_⟩
            · simp only [sw_ownL, sw_ownPar, seqD_l, seqD_t, lstAt, lstOf_own, lstOf_lst, ew_run, ew_ok, ew_var, ew_c, ew_op, ew_un, ew_nil, ew_cons, ew_cl, ew_toT, ew_not, ew_and, ew_or, ew_notE, ew_andE, ew_orE, ew_if, ew_ch, ew_call, ew_isi, ew_noO, ew_soO, ew_sl, ew_ownIx, ew_ownLen, ew_seqI, ew_rngI, ew_enI, ew_yes, ew_lc, sw_nx, sw_bad, sw_seq, sw_if, sw_ret, sw_drop, sw_asg, sw_aug, sw_own, sw_app, sw_ext, sw_frz, sw_forS, startR1, startR2, startR3, List.replicate, List.length_cons, List.length_nil, List.getElem?_cons_zero, List.getElem?_cons_succ, List.set_cons_zero, List.set_cons_succ, o_addI, o_subI, o_ltI, o_leI, o_gtI, o_geI, o_addII, o_eqII, o_eqSS, o_neII, o_neSS, o_eqBB, o_neBB, o_neg, o_ixT, o_ixL, atI_0, atI_1, atI_2, atI_last, o_max, o_min, o_int, o_tuple, o_list, o_lenL, o_lenT, o_tup0, o_tup1, o_tup2, o_tup3, asB_bl, asI_int, asL_lst, items_l, items_t, o_inRule, o_in23, o_in33, o_inLeast, o_inMost, o_inAdd, o_inPart, o_inEven, o_enT, o_enL, ty_n, ty_b, ty_i, ty_s, ty_t, ty_l, g_n, g_b, g_i, g_s, g_t, g_l, put1, put2, put3, Option.some.injEq, SV.dat.injEq, SV.own.injEq, exists_eq_left', exists_eq_left, Option.bind_some, Bool.not_true, Bool.not_false, if_true, if_false, ite_true, ite_false, decide_true, decide_false, Bool.false_eq_true, reduceIte, true_and, and_true, ne_eq, not_false_eq_true, not_true_eq_false, e1, (he _ e2).b, and_self]
            · simp only [sw_ownL, sw_ownPar, seqD_l, seqD_t, lstAt, lstOf_own, lstOf_lst, ew_run, ew_ok, ew_var, ew_c, ew_op, ew_un, ew_nil, ew_cons, ew_cl, ew_toT, ew_not, ew_and, ew_or, ew_notE, ew_andE, ew_orE, ew_if, ew_ch, ew_call, ew_isi, ew_noO, ew_soO, ew_sl, ew_ownIx, ew_ownLen, ew_seqI, ew_rngI, ew_enI, ew_yes, ew_lc, sw_nx, sw_bad, sw_seq, sw_if, sw_ret, sw_drop, sw_asg, sw_aug, sw_own, sw_app, sw_ext, sw_frz, sw_forS, startR1, startR2, startR3, List.replicate, List.length_cons, List.length_nil, List.getElem?_cons_zero, List.getElem?_cons_succ, List.set_cons_zero, List.set_cons_succ, o_addI, o_subI, o_ltI, o_leI, o_gtI, o_geI, o_addII, o_eqII, o_eqSS, o_neII, o_neSS, o_eqBB, o_neBB, o_neg, o_ixT, o_ixL, atI_0, atI_1, atI_2, atI_last, o_max, o_min, o_int, o_tuple, o_list, o_lenL, o_lenT, o_tup0, o_tup1, o_tup2, o_tup3, asB_bl, asI_int, asL_lst, items_l, items_t, o_inRule, o_in23, o_in33, o_inLeast, o_inMost, o_inAdd, o_inPart, o_inEven, o_enT, o_enL, ty_n, ty_b, ty_i, ty_s, ty_t, ty_l, g_n, g_b, g_i, g_s, g_t, g_l, put1, put2, put3, Option.some.injEq, SV.dat.injEq, SV.own.injEq, exists_eq_left', exists_eq_left, Option.bind_some, Bool.not_true, Bool.not_false, if_true, if_false, ite_true, ite_false, decide_true, decide_false, Bool.false_eq_true, reduceIte, true_and, and_true, ne_eq, not_false_eq_true, not_true_eq_false, Int.zero_add, and_self]⟩)]
          simp only [sw_ownL, sw_ownPar, seqD_l, seqD_t, lstAt, lstOf_own, lstOf_lst, ew_run, ew_ok, ew_var, ew_c, ew_op, ew_un, ew_nil, ew_cons, ew_cl, ew_toT, ew_not, ew_and, ew_or, ew_notE, ew_andE, ew_orE, ew_if, ew_ch, ew_call, ew_isi, ew_noO, ew_soO, ew_sl, ew_ownIx, ew_ownLen, ew_seqI, ew_rngI, ew_enI, ew_yes, ew_lc, sw_nx, sw_bad, sw_seq, sw_if, sw_ret, sw_drop, sw_asg, sw_aug, sw_own, sw_app, sw_ext, sw_frz, sw_forS, startR1, startR2, startR3, List.replicate, List.length_cons, List.length_nil, List.getElem?_cons_zero, List.getElem?_cons_succ, List.set_cons_zero, List.set_cons_succ, o_addI, o_subI, o_ltI, o_leI, o_gtI, o_geI, o_addII, o_eqII, o_eqSS, o_neII, o_neSS, o_eqBB, o_neBB, o_neg, o_ixT, o_ixL, atI_0, atI_1, atI_2, atI_last, o_max, o_min, o_int, o_tuple, o_list, o_lenL, o_lenT, o_tup0, o_tup1, o_tup2, o_tup3, asB_bl, asI_int, asL_lst, items_l, items_t, o_inRule, o_in23, o_in33, o_inLeast, o_inMost, o_inAdd, o_inPart, o_inEven, o_enT, o_enL, ty_n, ty_b, ty_i, ty_s, ty_t, ty_l, g_n, g_b, g_i, g_s, g_t, g_l, put1, put2, put3, Option.some.injEq, SV.dat.injEq, SV.own.injEq, exists_eq_left', exists_eq_left, Option.bind_some, Bool.not_true, Bool.not_false, if_true, if_false, ite_true, ite_false, decide_true, decide_false, Bool.false_eq_true, reduceIte, true_and, and_true, ne_eq, not_false_eq_true, not_true_eq_false, o_lst0, o_lst1, o_lst2, o_lst3, o_lst4, o_lst5, o_lst6, o_lst7, o_lst8, o_lst9, o_lst10, o_lst11, o_lst12, o_lst13, o_lst14, o_tup4, o_tup5, o_tup6, o_tup7, o_tup8, List.length_map]
          refine ⟨Nat.le_trans (List.length_filter_le _ _) (by rw [List.length_range]; exact Nat.le_trans (show (xs.length : Int).toNat ≤ 6 by omega) (by decide)), ?_⟩
          have eI : ∀ l : List Nat, l.map (fun i : Nat => D.int ((i : Nat) : Int)) = (l.map fun i : Nat => ((i : Nat) : Int)).map D.int := fun l => by rw [List.map_map]; rfl
          rw [show (xs.length : Int).toNat = xs.length by omega]
          by_cases hall : ∀ x ∈ xs, isB x = true
          · have e0 : (List.range xs.length).filter (fun i => !isB (xs.getD i .non)) = [] := by
              rw [List.filter_eq_nil_iff]
              intro a ha
              have ha' : a < xs.length := List.mem_range.mp ha
              have : xs.getD a .non ∈ xs := by
                rw [List.getD_eq_getElem?_getD, List.getElem?_eq_getElem ha']
                exact List.getElem_mem ha'
              show ¬ (!isB (xs.getD a .non)) = true
              rw [hall _ this]
              decide
            obtain ⟨s', hs', rfl⟩ := elems_steps he hall
            have n0 : neO (.lst []) (.lst []) = some (.bl false) := by kernel_rfl
            have hp30 : p ≤ 10 ^ 30 := by
              have : (3000 : Int) ≤ 10 ^ 30 := by decide
              omega
            rw [e0]
            simp only [sw_ownL, sw_ownPar, seqD_l, seqD_t, lstAt, lstOf_own, lstOf_lst, ew_run, ew_ok, ew_var, ew_c, ew_op, ew_un, ew_nil, ew_cons, ew_cl, ew_toT, ew_not, ew_and, ew_or, ew_notE, ew_andE, ew_orE, ew_if, ew_ch, ew_call, ew_isi, ew_noO, ew_soO, ew_sl, ew_ownIx, ew_ownLen, ew_seqI, ew_rngI, ew_enI, ew_yes, ew_lc, sw_nx, sw_bad, sw_seq, sw_if, sw_ret, sw_drop, sw_asg, sw_aug, sw_own, sw_app, sw_ext, sw_frz, sw_forS, startR1, startR2, startR3, List.replicate, List.length_cons, List.length_nil, List.getElem?_cons_zero, List.getElem?_cons_succ, List.set_cons_zero, List.set_cons_succ, o_addI, o_subI, o_ltI, o_leI, o_gtI, o_geI, o_addII, o_eqII, o_eqSS, o_neII, o_neSS, o_eqBB, o_neBB, o_neg, o_ixT, o_ixL, atI_0, atI_1, atI_2, atI_last, o_max, o_min, o_int, o_tuple, o_list, o_lenL, o_lenT, o_tup0, o_tup1, o_tup2, o_tup3, asB_bl, asI_int, asL_lst, items_l, items_t, o_inRule, o_in23, o_in33, o_inLeast, o_inMost, o_inAdd, o_inPart, o_inEven, o_enT, o_enL, ty_n, ty_b, ty_i, ty_s, ty_t, ty_l, g_n, g_b, g_i, g_s, g_t, g_l, put1, put2, put3, Option.some.injEq, SV.dat.injEq, SV.own.injEq, exists_eq_left', exists_eq_left, Option.bind_some, Bool.not_true, Bool.not_false, if_true, if_false, ite_true, ite_false, decide_true, decide_false, Bool.false_eq_true, reduceIte, true_and, and_true, ne_eq, not_false_eq_true, not_true_eq_false, o_lst0, o_lst1, o_lst2, o_lst3, o_lst4, o_lst5, o_lst6, o_lst7, o_lst8, o_lst9, o_lst10, o_lst11, o_lst12, o_lst13, o_lst14, o_tup4, o_tup5, o_tup6, o_tup7, o_tup8, List.map_nil, n0, o_noNn, q_tried_ok (q_pay hs' (by rw [List.length_map] at h6; omega) p0 hp30), q__law_paid hs', q__law_alike (d := .int (paid s' p)) plain_int]
            exact ⟨γ5, _, _, _, _, _, _, _, rfl, g5, rfl⟩
          · obtain ⟨i0, x0, f1, f2, f3⟩ := find_bad hall
            have hi0 := (List.getElem?_eq_some_iff.mp f1).1
            obtain ⟨g1', g2'⟩ := filt_first (n := xs.length) (i := i0) (p := fun i => !isB (xs.getD i .non)) hi0 (by
              show (!isB (xs.getD i0 .non)) = true
              rw [List.getD_eq_getElem?_getD, f1]
              simp [f2]) (fun j hj => by
              have hj' : j < xs.length := by omega
              show (!isB (xs.getD j .non)) = false
              rw [List.getD_eq_getElem?_getD, List.getElem?_eq_getElem hj']
              simp [f3 j _ hj (List.getElem?_eq_getElem hj')])
            have n1 : neO (.lst ((((List.range xs.length).filter (fun i => !isB (xs.getD i .non))).map fun i : Nat => ((i : Nat) : Int)).map D.int)) (.lst []) = some (.bl true) := by
              rw [o_neNilI]
              cases q : (List.range xs.length).filter (fun i => !isB (xs.getD i .non)) with
              | nil => exact (g2' q).elim
              | cons a b => rfl
            have tk : slO (.lst ((((List.range xs.length).filter (fun i => !isB (xs.getD i .non))).map fun i : Nat => ((i : Nat) : Int)).map D.int)) none (some 1) = some (.lst [.int (i0 : Nat)]) := by
              rw [show (1 : Int) = ((1 : Nat) : Int) from rfl, o_takeL, ← List.map_take, ← List.map_take, g1']
              rfl
            rw [eI]
            simp only [sw_ownL, sw_ownPar, seqD_l, seqD_t, lstAt, lstOf_own, lstOf_lst, ew_run, ew_ok, ew_var, ew_c, ew_op, ew_un, ew_nil, ew_cons, ew_cl, ew_toT, ew_not, ew_and, ew_or, ew_notE, ew_andE, ew_orE, ew_if, ew_ch, ew_call, ew_isi, ew_noO, ew_soO, ew_sl, ew_ownIx, ew_ownLen, ew_seqI, ew_rngI, ew_enI, ew_yes, ew_lc, sw_nx, sw_bad, sw_seq, sw_if, sw_ret, sw_drop, sw_asg, sw_aug, sw_own, sw_app, sw_ext, sw_frz, sw_forS, startR1, startR2, startR3, List.replicate, List.length_cons, List.length_nil, List.getElem?_cons_zero, List.getElem?_cons_succ, List.set_cons_zero, List.set_cons_succ, o_addI, o_subI, o_ltI, o_leI, o_gtI, o_geI, o_addII, o_eqII, o_eqSS, o_neII, o_neSS, o_eqBB, o_neBB, o_neg, o_ixT, o_ixL, atI_0, atI_1, atI_2, atI_last, o_max, o_min, o_int, o_tuple, o_list, o_lenL, o_lenT, o_tup0, o_tup1, o_tup2, o_tup3, asB_bl, asI_int, asL_lst, items_l, items_t, o_inRule, o_in23, o_in33, o_inLeast, o_inMost, o_inAdd, o_inPart, o_inEven, o_enT, o_enL, ty_n, ty_b, ty_i, ty_s, ty_t, ty_l, g_n, g_b, g_i, g_s, g_t, g_l, put1, put2, put3, Option.some.injEq, SV.dat.injEq, SV.own.injEq, exists_eq_left', exists_eq_left, Option.bind_some, Bool.not_true, Bool.not_false, if_true, if_false, ite_true, ite_false, decide_true, decide_false, Bool.false_eq_true, reduceIte, true_and, and_true, ne_eq, not_false_eq_true, not_true_eq_false, o_lst0, o_lst1, o_lst2, o_lst3, o_lst4, o_lst5, o_lst6, o_lst7, o_lst8, o_lst9, o_lst10, o_lst11, o_lst12, o_lst13, o_lst14, o_tup4, o_tup5, o_tup6, o_tup7, o_tup8, n1, tk, nl, q_tried_x (q_check_at (isB := isB) (by omega) (fun x hx => (he x hx).a) f1 f2 f3), pl1 (.int (i0 : Nat)) (.inr ⟨_, rfl⟩)]
            exact ⟨γ5, _, _, _, _, _, _, _, rfl, g5, rfl⟩
      · simp only [sw_ownL, sw_ownPar, seqD_l, seqD_t, lstAt, lstOf_own, lstOf_lst, ew_run, ew_ok, ew_var, ew_c, ew_op, ew_un, ew_nil, ew_cons, ew_cl, ew_toT, ew_not, ew_and, ew_or, ew_notE, ew_andE, ew_orE, ew_if, ew_ch, ew_call, ew_isi, ew_noO, ew_soO, ew_sl, ew_ownIx, ew_ownLen, ew_seqI, ew_rngI, ew_enI, ew_yes, ew_lc, sw_nx, sw_bad, sw_seq, sw_if, sw_ret, sw_drop, sw_asg, sw_aug, sw_own, sw_app, sw_ext, sw_frz, sw_forS, startR1, startR2, startR3, List.replicate, List.length_cons, List.length_nil, List.getElem?_cons_zero, List.getElem?_cons_succ, List.set_cons_zero, List.set_cons_succ, o_addI, o_subI, o_ltI, o_leI, o_gtI, o_geI, o_addII, o_eqII, o_eqSS, o_neII, o_neSS, o_eqBB, o_neBB, o_neg, o_ixT, o_ixL, atI_0, atI_1, atI_2, atI_last, o_max, o_min, o_int, o_tuple, o_list, o_lenL, o_lenT, o_tup0, o_tup1, o_tup2, o_tup3, asB_bl, asI_int, asL_lst, items_l, items_t, o_inRule, o_in23, o_in33, o_inLeast, o_inMost, o_inAdd, o_inPart, o_inEven, o_enT, o_enL, ty_n, ty_b, ty_i, ty_s, ty_t, ty_l, g_n, g_b, g_i, g_s, g_t, g_l, put1, put2, put3, Option.some.injEq, SV.dat.injEq, SV.own.injEq, exists_eq_left', exists_eq_left, Option.bind_some, Bool.not_true, Bool.not_false, if_true, if_false, ite_true, ite_false, decide_true, decide_false, Bool.false_eq_true, reduceIte, true_and, and_true, ne_eq, not_false_eq_true, not_true_eq_false, o_lst0, o_lst1, o_lst2, o_lst3, o_lst4, o_lst5, o_lst6, o_lst7, o_lst8, o_lst9, o_lst10, o_lst11, o_lst12, o_lst13, o_lst14, o_tup4, o_tup5, o_tup6, o_tup7, o_tup8, hg, ht, nl, q_tried_x (q_check_not hg ht), pl1 .non (.inl rfl)]
        exact ⟨γ5, _, _, _, _, _, _, _, rfl, g5, rfl⟩
      · have h6' : (6 : Int) < (ys.length : Int) := by omega
        simp only [sw_ownL, sw_ownPar, seqD_l, seqD_t, lstAt, lstOf_own, lstOf_lst, ew_run, ew_ok, ew_var, ew_c, ew_op, ew_un, ew_nil, ew_cons, ew_cl, ew_toT, ew_not, ew_and, ew_or, ew_notE, ew_andE, ew_orE, ew_if, ew_ch, ew_call, ew_isi, ew_noO, ew_soO, ew_sl, ew_ownIx, ew_ownLen, ew_seqI, ew_rngI, ew_enI, ew_yes, ew_lc, sw_nx, sw_bad, sw_seq, sw_if, sw_ret, sw_drop, sw_asg, sw_aug, sw_own, sw_app, sw_ext, sw_frz, sw_forS, startR1, startR2, startR3, List.replicate, List.length_cons, List.length_nil, List.getElem?_cons_zero, List.getElem?_cons_succ, List.set_cons_zero, List.set_cons_succ, o_addI, o_subI, o_ltI, o_leI, o_gtI, o_geI, o_addII, o_eqII, o_eqSS, o_neII, o_neSS, o_eqBB, o_neBB, o_neg, o_ixT, o_ixL, atI_0, atI_1, atI_2, atI_last, o_max, o_min, o_int, o_tuple, o_list, o_lenL, o_lenT, o_tup0, o_tup1, o_tup2, o_tup3, asB_bl, asI_int, asL_lst, items_l, items_t, o_inRule, o_in23, o_in33, o_inLeast, o_inMost, o_inAdd, o_inPart, o_inEven, o_enT, o_enL, ty_n, ty_b, ty_i, ty_s, ty_t, ty_l, g_n, g_b, g_i, g_s, g_t, g_l, put1, put2, put3, Option.some.injEq, SV.dat.injEq, SV.own.injEq, exists_eq_left', exists_eq_left, Option.bind_some, Bool.not_true, Bool.not_false, if_true, if_false, ite_true, ite_false, decide_true, decide_false, Bool.false_eq_true, reduceIte, true_and, and_true, ne_eq, not_false_eq_true, not_true_eq_false, o_lst0, o_lst1, o_lst2, o_lst3, o_lst4, o_lst5, o_lst6, o_lst7, o_lst8, o_lst9, o_lst10, o_lst11, o_lst12, o_lst13, o_lst14, o_tup4, o_tup5, o_tup6, o_tup7, o_tup8, q1, h6', nl, q_tried_x (q_check_long hy), pl1 .non (.inl rfl)]
        exact ⟨γ5, _, _, _, _, _, _, _, rfl, g5, rfl⟩
    · obtain ⟨y, hy, rfl⟩ := List.mem_map.mp hx
      exact elem_step (hds.ok y hy)
  · rintro ρ g ⟨γ, a3, a4, a5, a6, a7, a8, a9, rfl, hγ, rfl⟩
    simp only [sw_ownL, sw_ownPar, seqD_l, seqD_t, lstAt, lstOf_own, lstOf_lst, ew_run, ew_ok, ew_var, ew_c, ew_op, ew_un, ew_nil, ew_cons, ew_cl, ew_toT, ew_not, ew_and, ew_or, ew_notE, ew_andE, ew_orE, ew_if, ew_ch, ew_call, ew_isi, ew_noO, ew_soO, ew_sl, ew_ownIx, ew_ownLen, ew_seqI, ew_rngI, ew_enI, ew_yes, ew_lc, sw_nx, sw_bad, sw_seq, sw_if, sw_ret, sw_drop, sw_asg, sw_aug, sw_own, sw_app, sw_ext, sw_frz, sw_forS, startR1, startR2, startR3, List.replicate, List.length_cons, List.length_nil, List.getElem?_cons_zero, List.getElem?_cons_succ, List.set_cons_zero, List.set_cons_succ, o_addI, o_subI, o_ltI, o_leI, o_gtI, o_geI, o_addII, o_eqII, o_eqSS, o_neII, o_neSS, o_eqBB, o_neBB, o_neg, o_ixT, o_ixL, atI_0, atI_1, atI_2, atI_last, o_max, o_min, o_int, o_tuple, o_list, o_lenL, o_lenT, o_tup0, o_tup1, o_tup2, o_tup3, asB_bl, asI_int, asL_lst, items_l, items_t, o_inRule, o_in23, o_in33, o_inLeast, o_inMost, o_inAdd, o_inPart, o_inEven, o_enT, o_enL, ty_n, ty_b, ty_i, ty_s, ty_t, ty_l, g_n, g_b, g_i, g_s, g_t, g_l, put1, put2, put3, Option.some.injEq, SV.dat.injEq, SV.own.injEq, exists_eq_left', exists_eq_left, Option.bind_some, Bool.not_true, Bool.not_false, if_true, if_false, ite_true, ite_false, decide_true, decide_false, Bool.false_eq_true, reduceIte, true_and, and_true, ne_eq, not_false_eq_true, not_true_eq_false]
end L
end TS
namespace TS
namespace L
open PySem L2
def top (i : Nat) : Stmt := PySem.Challenge.pw_tillsteps_k01_steps_refused.main.body.getD i (.Pass ⟨0, 0, 0, 0⟩)
structure Txt (K : PySem.W.Frag) (mg : Str → Option Value) : Prop where
  m_bool : mg "bool" = none
  m_enumerate : mg "enumerate" = none
  m_int : mg "int" = none
  m_isinstance : mg "isinstance" = none
  m_len : mg "len" = none
  m_list : mg "list" = none
  m_max : mg "max" = none
  m_min : mg "min" = none
  m_range : mg "range" = none
  m_str : mg "str" = none
  m_tuple : mg "tuple" = none
  g_ADD : GlobK K mg "ADD" (.str ("add" : Str))
  g_DOWN : GlobK K mg "DOWN" (.str ("down" : Str))
  g_EVEN : GlobK K mg "EVEN" (.str ("even" : Str))
  g_LEAST : GlobK K mg "LEAST" (.str ("least" : Str))
  g_MOST : GlobK K mg "MOST" (.str ("most" : Str))
  g_MOST_ADD : GlobK K mg "MOST_ADD" (.int 200)
  g_MOST_BOUND : GlobK K mg "MOST_BOUND" (.int 1000)
  g_MOST_EVEN : GlobK K mg "MOST_EVEN" (.int 100)
  g_MOST_PART : GlobK K mg "MOST_PART" (.int 200)
  g_MOST_PRICE : GlobK K mg "MOST_PRICE" (.int 1000000000000000000000000000000)
  g_MOST_STEPS : GlobK K mg "MOST_STEPS" (.int 6)
  g_PART : GlobK K mg "PART" (.str ("part" : Str))
  g_RULES : GlobK K mg "RULES" (.tup [(.str ("down" : Str)), (.str ("up" : Str)), (.str ("near" : Str))])
  g_UP : GlobK K mg "UP" (.str ("up" : Str))
  g_WHOLE : GlobK K mg "WHOLE" (.int 100)
structure Exs (Z : Wd) : Prop where
  on : True
  ex_BadSteps : ExK Z ("BadSteps" : Str) ("index" : Str)
  xc_BadSteps : XcAt Z ("BadSteps" : Str) ("TillError" : Str) [("index" : Str)]
abbrev s__law_round : Stmt := top 37
def N__law_round : List Str := [("_law_over" : Str), ("_law_under" : Str), ("_law_rule" : Str), ("_law_whole_here" : Str), ("_law_rest" : Str)]
theorem sc__law_round : FnScope N__law_round [("_law_over" : Str), ("_law_under" : Str), ("_law_rule" : Str)] (defScope s__law_round) := ⟨rfl, rfl, rfl, by decide +kernel, rfl, by decide +kernel, by decide +kernel⟩
theorem has__law_round {Z : Wd} (T : Txt Z.K Z.mg) (U : Exs Z) (F : FunAt Z ("_law_round" : Str) s__law_round [("_law_over" : Str), ("_law_under" : Str), ("_law_rule" : Str)]) : Z.has 1 ("_law_round" : Str) [("_law_over" : Str), ("_law_under" : Str), ("_law_rule" : Str)] d__law_round :=
  has_ofN (fb := b__law_round) F sc__law_round rfl (fun X B W c hp =>
    (pds_cons (c.parS 3 4 (by kernel_rfl) (pda_cons (e_fdiv (c.v 0 (by kernel_rfl)) (c.v 1 (by kernel_rfl))) (pda_cons (e_mod (c.int T.m_int (by kernel_rfl) (pda_cons (c.v 0 (by kernel_rfl)) pda_nil)) (c.v 1 (by kernel_rfl))) pda_nil)) (by kernel_rfl))
    (pds_cons (pds_if (c.teq (c.v 2 (by kernel_rfl)) pd_str) (pds_one (pds_ret (e_add (c.v 3 (by kernel_rfl)) (pd_if (t_ge (e_mul pd_int (c.v 4 (by kernel_rfl))) (c.v 1 (by kernel_rfl))) pd_int pd_int)))) pds_nil)
    (pds_one (pds_ret (e_add (c.v 3 (by kernel_rfl)) (pd_if (pdt_w (pdw_and (t_gt (c.v 4 (by kernel_rfl)) pd_int) (pdw_and1 (c.teq (c.v 2 (by kernel_rfl)) pd_str)))) pd_int pd_int)))))))
abbrev s__law_paid : Stmt := top 38
def N__law_paid : List Str := [("_law_steps_here" : Str), ("_law_price" : Str), ("_law_step_here" : Str)]
theorem sc__law_paid : FnScope N__law_paid [("_law_steps_here" : Str), ("_law_price" : Str)] (defScope s__law_paid) := ⟨rfl, rfl, rfl, by decide +kernel, rfl, by decide +kernel, by decide +kernel⟩
theorem has__law_paid {Z : Wd} (T : Txt Z.K Z.mg) (U : Exs Z) (F : FunAt Z ("_law_paid" : Str) s__law_paid [("_law_steps_here" : Str), ("_law_price" : Str)]) (h__law_round : Z.has 1 ("_law_round" : Str) [("_law_over" : Str), ("_law_under" : Str), ("_law_rule" : Str)] d__law_round) : Z.has 2 ("_law_paid" : Str) [("_law_steps_here" : Str), ("_law_price" : Str)] d__law_paid :=
  has_ofN (fb := b__law_paid) F sc__law_paid rfl (fun X B W c hp =>
    (pds_cons (pds_for hp c.calm (pdi_seq (c.v 0 (by kernel_rfl))) (c.g1 2 (by kernel_rfl)) (pds_one (pds_if (c.teq (e_ix (c.v 2 (by kernel_rfl)) pd_int) pd_str) (pds_one (c.asg 1 (by kernel_rfl) (c.call h__law_round (by kernel_rfl) (by kernel_rfl) (pda_cons (e_mul (c.v 1 (by kernel_rfl)) (e_ix (c.v 2 (by kernel_rfl)) pd_int)) (pda_cons pd_int (pda_cons (e_ix (c.v 2 (by kernel_rfl)) pd_int) pda_nil)))))) (pds_one (pds_if (c.teq (e_ix (c.v 2 (by kernel_rfl)) pd_int) pd_str) (pds_one (c.asg 1 (by kernel_rfl) (e_mul (e_ix (c.v 2 (by kernel_rfl)) pd_int) (c.call h__law_round (by kernel_rfl) (by kernel_rfl) (pda_cons (c.v 1 (by kernel_rfl)) (pda_cons (e_ix (c.v 2 (by kernel_rfl)) pd_int) (pda_cons (e_ix (c.v 2 (by kernel_rfl)) pd_int) pda_nil))))))) (pds_one (pds_if (c.teq (e_ix (c.v 2 (by kernel_rfl)) pd_int) pd_str) (pds_one (c.asg 1 (by kernel_rfl) (pd_if (t_gt (e_add (c.v 1 (by kernel_rfl)) (e_ix (c.v 2 (by kernel_rfl)) pd_int)) pd_int) (e_add (c.v 1 (by kernel_rfl)) (e_ix (c.v 2 (by kernel_rfl)) pd_int)) pd_int))) (pds_one (pds_if (c.teq (c.eq (e_ix (c.v 2 (by kernel_rfl)) pd_int) pd_str) (e_lt (c.v 1 (by kernel_rfl)) (e_ix (c.v 2 (by kernel_rfl)) pd_int))) (pds_one (c.asg 1 (by kernel_rfl) (e_ix (c.v 2 (by kernel_rfl)) pd_int))) pds_nil)))))))))
    (pds_one (pds_ret (c.v 1 (by kernel_rfl))))))
abbrev s_rounded : Stmt := top 26
def N_rounded : List Str := [("over" : Str), ("under" : Str), ("rule" : Str)]
theorem sc_rounded : FnScope N_rounded [("over" : Str), ("under" : Str), ("rule" : Str)] (defScope s_rounded) := ⟨rfl, rfl, rfl, by decide +kernel, rfl, by decide +kernel, by decide +kernel⟩
theorem has_rounded {Z : Wd} (T : Txt Z.K Z.mg) (U : Exs Z) (F : FunAt Z ("rounded" : Str) s_rounded [("over" : Str), ("under" : Str), ("rule" : Str)]) : Z.has 1 ("rounded" : Str) [("over" : Str), ("under" : Str), ("rule" : Str)] d_rounded :=
  has_ofN (fb := b_rounded) F sc_rounded rfl (fun X B W c hp =>
    (pds_cons (pds_if (c.teq (c.v 2 (by kernel_rfl)) (c.gd T.g_DOWN (by kernel_rfl))) (pds_one (pds_ret (e_fdiv (c.v 0 (by kernel_rfl)) (c.v 1 (by kernel_rfl))))) pds_nil)
    (pds_cons (pds_if (c.teq (c.v 2 (by kernel_rfl)) (c.gd T.g_UP (by kernel_rfl))) (pds_one (pds_ret (e_fdiv (e_sub (e_add (c.v 0 (by kernel_rfl)) (c.v 1 (by kernel_rfl))) pd_int) (c.v 1 (by kernel_rfl))))) pds_nil)
    (pds_one (pds_ret (e_fdiv (e_add (e_mul pd_int (c.v 0 (by kernel_rfl))) (c.v 1 (by kernel_rfl))) (e_mul pd_int (c.v 1 (by kernel_rfl)))))))))
abbrev s_behind : Stmt := top 27
def N_behind : List Str := [("step" : Str), ("price" : Str), ("kind" : Str)]
theorem sc_behind : FnScope N_behind [("step" : Str), ("price" : Str)] (defScope s_behind) := ⟨rfl, rfl, rfl, by decide +kernel, rfl, by decide +kernel, by decide +kernel⟩
theorem has_behind {Z : Wd} (T : Txt Z.K Z.mg) (U : Exs Z) (F : FunAt Z ("behind" : Str) s_behind [("step" : Str), ("price" : Str)]) (h_rounded : Z.has 1 ("rounded" : Str) [("over" : Str), ("under" : Str), ("rule" : Str)] d_rounded) : Z.has 2 ("behind" : Str) [("step" : Str), ("price" : Str)] d_behind :=
  has_ofN (fb := b_behind) F sc_behind rfl (fun X B W c hp =>
    (pds_cons (c.asg 2 (by kernel_rfl) (e_ix (c.v 0 (by kernel_rfl)) pd_int))
    (pds_cons (pds_if (c.teq (c.v 2 (by kernel_rfl)) (c.gd T.g_PART (by kernel_rfl))) (pds_one (pds_ret (c.call h_rounded (by kernel_rfl) (by kernel_rfl) (pda_cons (e_mul (c.v 1 (by kernel_rfl)) (e_ix (c.v 0 (by kernel_rfl)) pd_int)) (pda_cons (c.gd T.g_WHOLE (by kernel_rfl)) (pda_cons (e_ix (c.v 0 (by kernel_rfl)) pd_int) pda_nil)))))) pds_nil)
    (pds_cons (pds_if (c.teq (c.v 2 (by kernel_rfl)) (c.gd T.g_EVEN (by kernel_rfl))) (pds_one (pds_ret (e_mul (c.call h_rounded (by kernel_rfl) (by kernel_rfl) (pda_cons (c.v 1 (by kernel_rfl)) (pda_cons (e_ix (c.v 0 (by kernel_rfl)) pd_int) (pda_cons (e_ix (c.v 0 (by kernel_rfl)) pd_int) pda_nil)))) (e_ix (c.v 0 (by kernel_rfl)) pd_int)))) pds_nil)
    (pds_cons (pds_if (c.teq (c.v 2 (by kernel_rfl)) (c.gd T.g_ADD (by kernel_rfl))) (pds_one (pds_ret (c.max2 T.m_max (by kernel_rfl) (pda_cons pd_int (pda_cons (e_add (c.v 1 (by kernel_rfl)) (e_ix (c.v 0 (by kernel_rfl)) pd_int)) pda_nil))))) pds_nil)
    (pds_one (pds_ret (pd_if (c.teq (c.v 2 (by kernel_rfl)) (c.gd T.g_LEAST (by kernel_rfl))) (c.max2 T.m_max (by kernel_rfl) (pda_cons (c.v 1 (by kernel_rfl)) (pda_cons (e_ix (c.v 0 (by kernel_rfl)) pd_int) pda_nil))) (c.min2 T.m_min (by kernel_rfl) (pda_cons (c.v 1 (by kernel_rfl)) (pda_cons (e_ix (c.v 0 (by kernel_rfl)) pd_int) pda_nil)))))))))))
abbrev s_paid : Stmt := top 28
def N_paid : List Str := [("steps" : Str), ("price" : Str), ("step" : Str)]
theorem sc_paid : FnScope N_paid [("steps" : Str), ("price" : Str)] (defScope s_paid) := ⟨rfl, rfl, rfl, by decide +kernel, rfl, by decide +kernel, by decide +kernel⟩
theorem has_paid {Z : Wd} (T : Txt Z.K Z.mg) (U : Exs Z) (F : FunAt Z ("paid" : Str) s_paid [("steps" : Str), ("price" : Str)]) (h_behind : Z.has 2 ("behind" : Str) [("step" : Str), ("price" : Str)] d_behind) : Z.has 3 ("paid" : Str) [("steps" : Str), ("price" : Str)] d_paid :=
  has_ofN (fb := b_paid) F sc_paid rfl (fun X B W c hp =>
    (pds_cons (pds_for hp c.calm (pdi_seq (c.v 0 (by kernel_rfl))) (c.g1 2 (by kernel_rfl)) (pds_one (c.asg 1 (by kernel_rfl) (c.call h_behind (by kernel_rfl) (by kernel_rfl) (pda_cons (c.v 2 (by kernel_rfl)) (pda_cons (c.v 1 (by kernel_rfl)) pda_nil))))))
    (pds_one (pds_ret (c.v 1 (by kernel_rfl))))))
abbrev s_is_integer : Stmt := top 21
def N_is_integer : List Str := [("thing" : Str), ("low" : Str), ("high" : Str)]
theorem sc_is_integer : FnScope N_is_integer [("thing" : Str), ("low" : Str), ("high" : Str)] (defScope s_is_integer) := ⟨rfl, rfl, rfl, by decide +kernel, rfl, by decide +kernel, by decide +kernel⟩
theorem has_is_integer {Z : Wd} (T : Txt Z.K Z.mg) (U : Exs Z) (F : FunAt Z ("is_integer" : Str) s_is_integer [("thing" : Str), ("low" : Str), ("high" : Str)]) : Z.has 1 ("is_integer" : Str) [("thing" : Str), ("low" : Str), ("high" : Str)] d_is_integer :=
  has_ofN (fb := b_is_integer) F sc_is_integer rfl (fun X B W c hp =>
    (pds_one (pds_ret (pd_and (c.isi T.m_isinstance (by kernel_rfl) T.m_int (by kernel_rfl) PyProof.Rows.boot_int (by kernel_rfl) (c.v 0 (by kernel_rfl))) (pd_and (pd_not (c.isi T.m_isinstance (by kernel_rfl) T.m_bool (by kernel_rfl) PyProof.Rows.boot_bool (by kernel_rfl) (c.v 0 (by kernel_rfl)))) (pd_one (pd_chain op_le op_le od_le od_le (c.v 1 (by kernel_rfl)) (c.v 0 (by kernel_rfl)) (c.v 2 (by kernel_rfl)))))))))
abbrev s_check_price : Stmt := top 25
def N_check_price : List Str := [("thing" : Str)]
theorem sc_check_price : FnScope N_check_price [("thing" : Str)] (defScope s_check_price) := ⟨rfl, rfl, rfl, by decide +kernel, rfl, by decide +kernel, by decide +kernel⟩
theorem has_check_price {Z : Wd} (T : Txt Z.K Z.mg) (U : Exs Z) (F : FunAt Z ("check_price" : Str) s_check_price [("thing" : Str)]) (h_is_integer : Z.has 1 ("is_integer" : Str) [("thing" : Str), ("low" : Str), ("high" : Str)] d_is_integer) : Z.has 2 ("check_price" : Str) [("thing" : Str)] d_check_price :=
  has_ofN (fb := b_check_price) F sc_check_price rfl (fun X B W c hp =>
    (pds_one (pds_if (pdt_not (pdt_val (c.call h_is_integer (by kernel_rfl) (by kernel_rfl) (pda_cons (c.v 0 (by kernel_rfl)) (pda_cons pd_int (pda_cons (c.gd T.g_MOST_PRICE (by kernel_rfl)) pda_nil)))))) (pds_one pds_never) pds_nil)))
abbrev s_is_rule : Stmt := top 22
def N_is_rule : List Str := [("thing" : Str)]
theorem sc_is_rule : FnScope N_is_rule [("thing" : Str)] (defScope s_is_rule) := ⟨rfl, rfl, rfl, by decide +kernel, rfl, by decide +kernel, by decide +kernel⟩
theorem has_is_rule {Z : Wd} (T : Txt Z.K Z.mg) (U : Exs Z) (F : FunAt Z ("is_rule" : Str) s_is_rule [("thing" : Str)]) : Z.has 1 ("is_rule" : Str) [("thing" : Str)] d_is_rule :=
  has_ofN (fb := b_is_rule) F sc_is_rule rfl (fun X B W c hp =>
    (pds_one (pds_ret (pd_and (c.isi T.m_isinstance (by kernel_rfl) T.m_str (by kernel_rfl) PyProof.Rows.boot_str (by kernel_rfl) (c.v 0 (by kernel_rfl))) (pd_one (e_in (c.v 0 (by kernel_rfl)) (c.gd T.g_RULES (by kernel_rfl))))))))
abbrev s_is_step : Stmt := top 23
def N_is_step : List Str := [("thing" : Str)]
theorem sc_is_step : FnScope N_is_step [("thing" : Str)] (defScope s_is_step) := ⟨rfl, rfl, rfl, by decide +kernel, rfl, by decide +kernel, by decide +kernel⟩
theorem has_is_step {Z : Wd} (T : Txt Z.K Z.mg) (U : Exs Z) (F : FunAt Z ("is_step" : Str) s_is_step [("thing" : Str)]) (h_is_integer : Z.has 1 ("is_integer" : Str) [("thing" : Str), ("low" : Str), ("high" : Str)] d_is_integer) (h_is_rule : Z.has 1 ("is_rule" : Str) [("thing" : Str)] d_is_rule) : Z.has 2 ("is_step" : Str) [("thing" : Str)] d_is_step :=
  has_ofN (fb := b_is_step) F sc_is_step rfl (fun X B W c hp =>
    (pds_cons (pds_if (pdt_w (pdw_or (pdt_not (pdt_val (c.isi T.m_isinstance (by kernel_rfl) T.m_tuple (by kernel_rfl) PyProof.Rows.boot_tuple (by kernel_rfl) (c.v 0 (by kernel_rfl))))) (pdw_or (t_nin (c.len T.m_len (by kernel_rfl) (pda_cons (c.v 0 (by kernel_rfl)) pda_nil)) (pd_tup (pda_cons pd_int (pda_cons pd_int pda_nil)))) (pdw_or1 (pdt_not (pdt_val (c.isi T.m_isinstance (by kernel_rfl) T.m_str (by kernel_rfl) PyProof.Rows.boot_str (by kernel_rfl) (e_ix (c.v 0 (by kernel_rfl)) pd_int)))))))) (pds_one (pds_ret pd_bl)) pds_nil)
    (pds_cons (pds_if (c.teq (c.len T.m_len (by kernel_rfl) (pda_cons (c.v 0 (by kernel_rfl)) pda_nil)) pd_int) (pds_cons (pds_if (c.teq (e_ix (c.v 0 (by kernel_rfl)) pd_int) (c.gd T.g_PART (by kernel_rfl))) (pds_one (pds_ret (pd_and (c.call h_is_integer (by kernel_rfl) (by kernel_rfl) (pda_cons (e_ix (c.v 0 (by kernel_rfl)) pd_int) (pda_cons pd_int (pda_cons (c.gd T.g_MOST_PART (by kernel_rfl)) pda_nil)))) (pd_one (c.call h_is_rule (by kernel_rfl) (by kernel_rfl) (pda_cons (e_ix (c.v 0 (by kernel_rfl)) pd_int) pda_nil)))))) pds_nil)
    (pds_one (pds_ret (pd_and (c.eq (e_ix (c.v 0 (by kernel_rfl)) pd_int) (c.gd T.g_EVEN (by kernel_rfl))) (pd_and (c.call h_is_integer (by kernel_rfl) (by kernel_rfl) (pda_cons (e_ix (c.v 0 (by kernel_rfl)) pd_int) (pda_cons pd_int (pda_cons (c.gd T.g_MOST_EVEN (by kernel_rfl)) pda_nil)))) (pd_one (c.call h_is_rule (by kernel_rfl) (by kernel_rfl) (pda_cons (e_ix (c.v 0 (by kernel_rfl)) pd_int) pda_nil)))))))) pds_nil)
    (pds_cons (pds_if (c.teq (e_ix (c.v 0 (by kernel_rfl)) pd_int) (c.gd T.g_ADD (by kernel_rfl))) (pds_one (pds_ret (c.call h_is_integer (by kernel_rfl) (by kernel_rfl) (pda_cons (e_ix (c.v 0 (by kernel_rfl)) pd_int) (pda_cons (e_neg (c.gd T.g_MOST_ADD (by kernel_rfl))) (pda_cons (c.gd T.g_MOST_ADD (by kernel_rfl)) pda_nil)))))) pds_nil)
    (pds_one (pds_ret (pd_and (e_in (e_ix (c.v 0 (by kernel_rfl)) pd_int) (pd_tup (pda_cons (c.gd T.g_LEAST (by kernel_rfl)) (pda_cons (c.gd T.g_MOST (by kernel_rfl)) pda_nil)))) (pd_one (c.call h_is_integer (by kernel_rfl) (by kernel_rfl) (pda_cons (e_ix (c.v 0 (by kernel_rfl)) pd_int) (pda_cons pd_int (pda_cons (c.gd T.g_MOST_BOUND (by kernel_rfl)) pda_nil))))))))))))
abbrev s_check_steps : Stmt := top 24
def N_check_steps : List Str := [("thing" : Str), ("index" : Str), ("step" : Str)]
theorem sc_check_steps : FnScope N_check_steps [("thing" : Str)] (defScope s_check_steps) := ⟨rfl, rfl, rfl, by decide +kernel, rfl, by decide +kernel, by decide +kernel⟩
theorem has_check_steps {Z : Wd} (T : Txt Z.K Z.mg) (U : Exs Z) (F : FunAt Z ("check_steps" : Str) s_check_steps [("thing" : Str)]) (h_is_step : Z.has 2 ("is_step" : Str) [("thing" : Str)] d_is_step) : Z.has 3 ("check_steps" : Str) [("thing" : Str)] d_check_steps :=
  has_ofN (fb := b_check_steps) F sc_check_steps rfl (fun X B W c hp =>
    (pds_cons (pds_if (pdt_w (pdw_or (pdt_not (pdt_val (c.isi T.m_isinstance (by kernel_rfl) T.m_tuple (by kernel_rfl) PyProof.Rows.boot_tuple (by kernel_rfl) (c.v 0 (by kernel_rfl))))) (pdw_or1 (t_gt (c.len T.m_len (by kernel_rfl) (pda_cons (c.v 0 (by kernel_rfl)) pda_nil)) (c.gd T.g_MOST_STEPS (by kernel_rfl)))))) (pds_one (c.raise U.ex_BadSteps (by kernel_rfl) (by kernel_rfl) (pda_cons pd_non pda_nil))) pds_nil)
    (pds_one (pds_for hp c.calm (pdi_enum (c.gl (by kernel_rfl)).1 (c.nb T.m_enumerate) (pda_cons (c.v 0 (by kernel_rfl)) pda_nil)) (c.gm (c.gc 1 (by kernel_rfl) (c.gc 2 (by kernel_rfl) pgs_nil))) (pds_one (pds_if (pdt_not (pdt_val (c.call h_is_step (by kernel_rfl) (by kernel_rfl) (pda_cons (c.v 2 (by kernel_rfl)) pda_nil)))) (pds_one (c.raise U.ex_BadSteps (by kernel_rfl) (by kernel_rfl) (pda_cons (c.v 1 (by kernel_rfl)) pda_nil))) pds_nil))))))
abbrev s_pay : Stmt := top 29
def N_pay : List Str := [("steps" : Str), ("price" : Str)]
theorem sc_pay : FnScope N_pay [("steps" : Str), ("price" : Str)] (defScope s_pay) := ⟨rfl, rfl, rfl, by decide +kernel, rfl, by decide +kernel, by decide +kernel⟩
theorem has_pay {Z : Wd} (T : Txt Z.K Z.mg) (U : Exs Z) (F : FunAt Z ("pay" : Str) s_pay [("steps" : Str), ("price" : Str)]) (h_paid : Z.has 3 ("paid" : Str) [("steps" : Str), ("price" : Str)] d_paid) (h_check_price : Z.has 2 ("check_price" : Str) [("thing" : Str)] d_check_price) (h_check_steps : Z.has 3 ("check_steps" : Str) [("thing" : Str)] d_check_steps) : Z.has 4 ("pay" : Str) [("steps" : Str), ("price" : Str)] d_pay :=
  has_ofN (fb := b_pay) F sc_pay rfl (fun X B W c hp =>
    (pds_cons (pds_expr (c.call h_check_steps (by kernel_rfl) (by kernel_rfl) (pda_cons (c.v 0 (by kernel_rfl)) pda_nil)))
    (pds_cons (pds_expr (c.call h_check_price (by kernel_rfl) (by kernel_rfl) (pda_cons (c.v 1 (by kernel_rfl)) pda_nil)))
    (pds_one (pds_ret (c.call h_paid (by kernel_rfl) (by kernel_rfl) (pda_cons (c.v 0 (by kernel_rfl)) (pda_cons (c.v 1 (by kernel_rfl)) pda_nil))))))))
abbrev s__law_tried : Stmt := top 41
def N__law_tried : List Str := [("_law_steps_here" : Str), ("_law_price" : Str), ("_law_found" : Str), ("error" : Str)]
theorem sc__law_tried : FnScope N__law_tried [("_law_steps_here" : Str), ("_law_price" : Str)] (defScope s__law_tried) := ⟨rfl, rfl, rfl, by decide +kernel, rfl, by decide +kernel, by decide +kernel⟩
theorem has__law_tried {Z : Wd} (T : Txt Z.K Z.mg) (U : Exs Z) (F : FunAt Z ("_law_tried" : Str) s__law_tried [("_law_steps_here" : Str), ("_law_price" : Str)]) (h_pay : Z.has 4 ("pay" : Str) [("steps" : Str), ("price" : Str)] d_pay) : Z.has 5 ("_law_tried" : Str) [("_law_steps_here" : Str), ("_law_price" : Str)] d__law_tried :=
  has_ofT (fb := b__law_tried) F sc__law_tried rfl (fun X B W c hp hs hf =>
    (pds_cons (c.asg 2 (by kernel_rfl) pd_non)
    (pds_cons (c.try1 hs hf 3 2 (.ls [(.f ("index" : Str))]) (by decide) U.xc_BadSteps (by kernel_rfl) (by kernel_rfl) (by kernel_rfl) (fun X W c hp => (pds_one (c.asg 2 (by kernel_rfl) (c.call h_pay (by kernel_rfl) (by kernel_rfl) (pda_cons (c.v 0 (by kernel_rfl)) (pda_cons (c.v 1 (by kernel_rfl)) pda_nil)))))) (fun a oe pn C T' dx fsV ms E hk fl hz hf hv => pe_ls (fun vs hvs => match vs, hvs with | [_], ⟨h0, _⟩ => hp_if (hp_is E hk hz hf (hv _) (c.gl (by kernel_rfl)).1 (c.nb T.m_isinstance) (c.gl (by kernel_rfl)).1 ms) (hp_lst (hpa_cons (hp_fld E (fl ("index" : Str) (by decide)) hz hf (hv _) h0) hpa_nil) (by simp)) (hp_lst (P := fun _ _ => True) hpa_nil (by simp)))))
    (pds_one (pds_ret (c.v 2 (by kernel_rfl)))))))
abbrev s__law_alike : Stmt := top 33
def N__law_alike : List Str := [("_law_found" : Str), ("_law_due" : Str), ("_law_k" : Str)]
theorem sc__law_alike : FnScope N__law_alike [("_law_found" : Str), ("_law_due" : Str)] (defScope s__law_alike) := ⟨rfl, rfl, rfl, by decide +kernel, rfl, by decide +kernel, by decide +kernel⟩
theorem has__law_alike {Z : Wd} (T : Txt Z.K Z.mg) (U : Exs Z) (F : FunAt Z ("_law_alike" : Str) s__law_alike [("_law_found" : Str), ("_law_due" : Str)]) : Z.has 12 ("_law_alike" : Str) [("_law_found" : Str), ("_law_due" : Str)] d__law_alike := by
  have key : ∀ n, Z.has n ("_law_alike" : Str) [("_law_found" : Str), ("_law_due" : Str)] (e__law_alike n) := by
    intro n
    induction n with
    | zero => exact has_bad F
    | succ n self => exact has_ofN (fb := b__law_alike (e__law_alike n)) F sc__law_alike rfl (fun X B W c hp =>
      (pds_cons (pds_if (pdt_val (c.isi2 T.m_isinstance (by kernel_rfl) T.m_tuple (by kernel_rfl) PyProof.Rows.boot_tuple (by kernel_rfl) T.m_list (by kernel_rfl) PyProof.Rows.boot_list (by kernel_rfl) (c.v 1 (by kernel_rfl)))) (pds_cons (pds_if (pdt_w (pdw_or (pdt_not (pdt_val (c.isi2 T.m_isinstance (by kernel_rfl) T.m_tuple (by kernel_rfl) PyProof.Rows.boot_tuple (by kernel_rfl) T.m_list (by kernel_rfl) PyProof.Rows.boot_list (by kernel_rfl) (c.v 0 (by kernel_rfl))))) (pdw_or1 (c.tne (c.isi T.m_isinstance (by kernel_rfl) T.m_list (by kernel_rfl) PyProof.Rows.boot_list (by kernel_rfl) (c.v 0 (by kernel_rfl))) (c.isi T.m_isinstance (by kernel_rfl) T.m_list (by kernel_rfl) PyProof.Rows.boot_list (by kernel_rfl) (c.v 1 (by kernel_rfl))))))) (pds_one (pds_ret pd_bl)) pds_nil)
    (pds_cons (pds_if (c.tne (c.len T.m_len (by kernel_rfl) (pda_cons (c.v 0 (by kernel_rfl)) pda_nil)) (c.len T.m_len (by kernel_rfl) (pda_cons (c.v 1 (by kernel_rfl)) pda_nil))) (pds_one (pds_ret pd_bl)) pds_nil)
    (pds_one (pds_ret (c.eq (c.lc [(("_law_k" : Str), 2)] (by kernel_rfl) (pdi_rng1 (c.gl (by kernel_rfl)).1 (c.nb T.m_range) (pda_cons (c.len T.m_len (by kernel_rfl) (pda_cons (c.v 1 (by kernel_rfl)) pda_nil)) pda_nil) (hl := fun _ _ _ _ h => len1 h)) (fun X B c => ⟨(c.g1 2 (by kernel_rfl)), (pdts_one (pdt_not (pdt_val (c.call self (by simp) (by kernel_rfl) (pda_cons (e_ix (c.v 0 (by kernel_rfl)) (c.v 2 (by kernel_rfl))) (pda_cons (e_ix (c.v 1 (by kernel_rfl)) (c.v 2 (by kernel_rfl))) pda_nil)))))), (c.v 2 (by kernel_rfl))⟩) (by kernel_rfl)) (pd_lst pda_nil)))))) pds_nil)
    (pds_cons (pds_if (pdt_w (pdw_or (t_isN (c.v 1 (by kernel_rfl)) pd_non) (pdw_or1 (pdt_val (c.isi T.m_isinstance (by kernel_rfl) T.m_str (by kernel_rfl) PyProof.Rows.boot_str (by kernel_rfl) (c.v 1 (by kernel_rfl))))))) (pds_one (pds_ret (pd_and (c.eq (c.v 0 (by kernel_rfl)) (c.v 1 (by kernel_rfl))) (pd_one (c.eq (c.isi T.m_isinstance (by kernel_rfl) T.m_str (by kernel_rfl) PyProof.Rows.boot_str (by kernel_rfl) (c.v 0 (by kernel_rfl))) (c.isi T.m_isinstance (by kernel_rfl) T.m_str (by kernel_rfl) PyProof.Rows.boot_str (by kernel_rfl) (c.v 1 (by kernel_rfl)))))))) pds_nil)
    (pds_one (pds_ret (pd_and (c.isi T.m_isinstance (by kernel_rfl) T.m_int (by kernel_rfl) PyProof.Rows.boot_int (by kernel_rfl) (c.v 0 (by kernel_rfl))) (pd_and (c.eq (c.isi T.m_isinstance (by kernel_rfl) T.m_bool (by kernel_rfl) PyProof.Rows.boot_bool (by kernel_rfl) (c.v 0 (by kernel_rfl))) (c.isi T.m_isinstance (by kernel_rfl) T.m_bool (by kernel_rfl) PyProof.Rows.boot_bool (by kernel_rfl) (c.v 1 (by kernel_rfl)))) (pd_one (c.eq (c.v 0 (by kernel_rfl)) (c.v 1 (by kernel_rfl)))))))))))
  exact key 12
abbrev s__law_whole : Stmt := top 39
def N__law_whole : List Str := [("_law_thing" : Str), ("_law_low" : Str), ("_law_high" : Str)]
theorem sc__law_whole : FnScope N__law_whole [("_law_thing" : Str), ("_law_low" : Str), ("_law_high" : Str)] (defScope s__law_whole) := ⟨rfl, rfl, rfl, by decide +kernel, rfl, by decide +kernel, by decide +kernel⟩
theorem has__law_whole {Z : Wd} (T : Txt Z.K Z.mg) (U : Exs Z) (F : FunAt Z ("_law_whole" : Str) s__law_whole [("_law_thing" : Str), ("_law_low" : Str), ("_law_high" : Str)]) : Z.has 1 ("_law_whole" : Str) [("_law_thing" : Str), ("_law_low" : Str), ("_law_high" : Str)] d__law_whole :=
  has_ofN (fb := b__law_whole) F sc__law_whole rfl (fun X B W c hp =>
    (pds_one (pds_ret (pd_and (c.isi T.m_isinstance (by kernel_rfl) T.m_int (by kernel_rfl) PyProof.Rows.boot_int (by kernel_rfl) (c.v 0 (by kernel_rfl))) (pd_and (pd_not (c.isi T.m_isinstance (by kernel_rfl) T.m_bool (by kernel_rfl) PyProof.Rows.boot_bool (by kernel_rfl) (c.v 0 (by kernel_rfl)))) (pd_one (pd_chain op_le op_le od_le od_le (c.v 1 (by kernel_rfl)) (c.v 0 (by kernel_rfl)) (c.v 2 (by kernel_rfl)))))))))
abbrev s__law_is_step : Stmt := top 40
def N__law_is_step : List Str := [("_law_thing" : Str), ("_law_low" : Str), ("_law_high" : Str)]
theorem sc__law_is_step : FnScope N__law_is_step [("_law_thing" : Str)] (defScope s__law_is_step) := ⟨rfl, rfl, rfl, by decide +kernel, rfl, by decide +kernel, by decide +kernel⟩
theorem has__law_is_step {Z : Wd} (T : Txt Z.K Z.mg) (U : Exs Z) (F : FunAt Z ("_law_is_step" : Str) s__law_is_step [("_law_thing" : Str)]) (h__law_whole : Z.has 1 ("_law_whole" : Str) [("_law_thing" : Str), ("_law_low" : Str), ("_law_high" : Str)] d__law_whole) : Z.has 2 ("_law_is_step" : Str) [("_law_thing" : Str)] d__law_is_step :=
  has_ofN (fb := b__law_is_step) F sc__law_is_step rfl (fun X B W c hp =>
    (pds_cons (pds_if (pdt_w (pdw_or (pdt_not (pdt_val (c.isi T.m_isinstance (by kernel_rfl) T.m_tuple (by kernel_rfl) PyProof.Rows.boot_tuple (by kernel_rfl) (c.v 0 (by kernel_rfl))))) (pdw_or (c.teq (c.v 0 (by kernel_rfl)) (pd_tup pda_nil)) (pdw_or1 (pdt_not (pdt_val (c.isi T.m_isinstance (by kernel_rfl) T.m_str (by kernel_rfl) PyProof.Rows.boot_str (by kernel_rfl) (e_ix (c.v 0 (by kernel_rfl)) pd_int)))))))) (pds_one (pds_ret pd_bl)) pds_nil)
    (pds_cons (pds_if (t_in (e_ix (c.v 0 (by kernel_rfl)) pd_int) (pd_lst (pda_cons pd_str (pda_cons pd_str pda_nil)))) (pds_cons (c.asgT (pd_if (c.teq (e_ix (c.v 0 (by kernel_rfl)) pd_int) pd_str) (pd_tup (pda_cons pd_int (pda_cons pd_int pda_nil))) (pd_tup (pda_cons pd_int (pda_cons pd_int pda_nil)))) (c.gm (c.gc 1 (by kernel_rfl) (c.gc 2 (by kernel_rfl) pgs_nil))) (by kernel_rfl))
    (pds_cons (pds_if (pdt_w (pdw_or (c.tne (c.len T.m_len (by kernel_rfl) (pda_cons (c.v 0 (by kernel_rfl)) pda_nil)) pd_int) (pdw_or (pdt_not (pdt_val (c.isi T.m_isinstance (by kernel_rfl) T.m_str (by kernel_rfl) PyProof.Rows.boot_str (by kernel_rfl) (e_ix (c.v 0 (by kernel_rfl)) pd_int)))) (pdw_or1 (t_nin (e_ix (c.v 0 (by kernel_rfl)) pd_int) (pd_lst (pda_cons pd_str (pda_cons pd_str (pda_cons pd_str pda_nil))))))))) (pds_one (pds_ret pd_bl)) pds_nil)
    (pds_one (pds_ret (c.call h__law_whole (by kernel_rfl) (by kernel_rfl) (pda_cons (e_ix (c.v 0 (by kernel_rfl)) pd_int) (pda_cons (c.v 1 (by kernel_rfl)) (pda_cons (c.v 2 (by kernel_rfl)) pda_nil)))))))) pds_nil)
    (pds_cons (pds_if (pdt_w (pdw_or (t_nin (e_ix (c.v 0 (by kernel_rfl)) pd_int) (pd_lst (pda_cons pd_str (pda_cons pd_str (pda_cons pd_str pda_nil))))) (pdw_or1 (c.tne (c.len T.m_len (by kernel_rfl) (pda_cons (c.v 0 (by kernel_rfl)) pda_nil)) pd_int)))) (pds_one (pds_ret pd_bl)) pds_nil)
    (pds_one (pds_ret (c.call h__law_whole (by kernel_rfl) (by kernel_rfl) (pda_cons (e_ix (c.v 0 (by kernel_rfl)) pd_int) (pda_cons (pd_if (c.teq (e_ix (c.v 0 (by kernel_rfl)) pd_int) pd_str) (e_neg pd_int) pd_int) (pda_cons (pd_if (c.teq (e_ix (c.v 0 (by kernel_rfl)) pd_int) pd_str) pd_int pd_int) pda_nil))))))))))
abbrev s__law_next : Stmt := top 32
abbrev s__law_pick : Stmt := top 34
def N__law_pick : List Str := [("_law_h" : Str), ("_law_things" : Str)]
theorem sc__law_pick : FnScope N__law_pick [("_law_h" : Str), ("_law_things" : Str)] (defScope s__law_pick) := ⟨rfl, rfl, rfl, by decide +kernel, rfl, by decide +kernel, by decide +kernel⟩
theorem has__law_pick {Z : Wd} (T : Txt Z.K Z.mg) (U : Exs Z) (F : FunAt Z ("_law_pick" : Str) s__law_pick [("_law_h" : Str), ("_law_things" : Str)]) (h__law_next : Z.has 1 ("_law_next" : Str) [("_law_h" : Str), ("_law_cap" : Str)] d__law_next) : Z.has 2 ("_law_pick" : Str) [("_law_h" : Str), ("_law_things" : Str)] d__law_pick :=
  has_ofN (fb := b__law_pick) F sc__law_pick rfl (fun X B W c hp =>
    (pds_one (pds_ret (e_ix (c.v 1 (by kernel_rfl)) (c.call h__law_next (by kernel_rfl) (by kernel_rfl) (pda_cons (c.v 0 (by kernel_rfl)) (pda_cons (c.len T.m_len (by kernel_rfl) (pda_cons (c.v 1 (by kernel_rfl)) pda_nil)) pda_nil)))))))
abbrev s__law_step : Stmt := top 35
def N__law_step : List Str := [("_law_h" : Str), ("_law_kind" : Str), ("_law_rule" : Str)]
theorem sc__law_step : FnScope N__law_step [("_law_h" : Str)] (defScope s__law_step) := ⟨rfl, rfl, rfl, by decide +kernel, rfl, by decide +kernel, by decide +kernel⟩
theorem has__law_step {Z : Wd} (T : Txt Z.K Z.mg) (U : Exs Z) (F : FunAt Z ("_law_step" : Str) s__law_step [("_law_h" : Str)]) (h__law_pick : Z.has 2 ("_law_pick" : Str) [("_law_h" : Str), ("_law_things" : Str)] d__law_pick) (h__law_next : Z.has 1 ("_law_next" : Str) [("_law_h" : Str), ("_law_cap" : Str)] d__law_next) : Z.has 3 ("_law_step" : Str) [("_law_h" : Str)] d__law_step :=
  has_ofN (fb := b__law_step) F sc__law_step rfl (fun X B W c hp =>
    (pds_cons (c.parS 1 2 (by kernel_rfl) (pda_cons (c.call h__law_next (by kernel_rfl) (by kernel_rfl) (pda_cons (c.v 0 (by kernel_rfl)) (pda_cons pd_int pda_nil))) (pda_cons (c.call h__law_pick (by kernel_rfl) (by kernel_rfl) (pda_cons (c.v 0 (by kernel_rfl)) (pda_cons (pd_lst (pda_cons pd_str (pda_cons pd_str (pda_cons pd_str pda_nil)))) pda_nil))) pda_nil)) (by kernel_rfl))
    (pds_cons (pds_if (t_lt (c.v 1 (by kernel_rfl)) pd_int) (pds_one (pds_ret (pd_tup (pda_cons pd_str (pda_cons (c.call h__law_pick (by kernel_rfl) (by kernel_rfl) (pda_cons (c.v 0 (by kernel_rfl)) (pda_cons (pd_lst (pda_cons pd_int (pda_cons pd_int (pda_cons pd_int (pda_cons pd_int (pda_cons pd_int (pda_cons pd_int (pda_cons pd_int (pda_cons pd_int (pda_cons pd_int (pda_cons pd_int (pda_cons pd_int (pda_cons pd_int (pda_cons pd_int (pda_cons pd_int pda_nil))))))))))))))) pda_nil))) (pda_cons (c.v 2 (by kernel_rfl)) pda_nil)))))) pds_nil)
    (pds_cons (pds_if (t_lt (c.v 1 (by kernel_rfl)) pd_int) (pds_one (pds_ret (pd_tup (pda_cons pd_str (pda_cons (e_sub (c.call h__law_next (by kernel_rfl) (by kernel_rfl) (pda_cons (c.v 0 (by kernel_rfl)) (pda_cons (c.call h__law_pick (by kernel_rfl) (by kernel_rfl) (pda_cons (c.v 0 (by kernel_rfl)) (pda_cons (pd_lst (pda_cons pd_int (pda_cons pd_int (pda_cons pd_int pda_nil)))) pda_nil))) pda_nil))) (c.call h__law_pick (by kernel_rfl) (by kernel_rfl) (pda_cons (c.v 0 (by kernel_rfl)) (pda_cons (pd_lst (pda_cons pd_int (pda_cons pd_int (pda_cons pd_int (pda_cons pd_int pda_nil))))) pda_nil)))) pda_nil))))) pds_nil)
    (pds_cons (pds_if (c.teq (c.v 1 (by kernel_rfl)) pd_int) (pds_one (pds_ret (pd_tup (pda_cons pd_str (pda_cons (c.call h__law_pick (by kernel_rfl) (by kernel_rfl) (pda_cons (c.v 0 (by kernel_rfl)) (pda_cons (pd_lst (pda_cons pd_int (pda_cons pd_int (pda_cons pd_int (pda_cons pd_int (pda_cons pd_int (pda_cons pd_int (pda_cons pd_int pda_nil)))))))) pda_nil))) (pda_cons (c.v 2 (by kernel_rfl)) pda_nil)))))) pds_nil)
    (pds_one (pds_ret (pd_tup (pda_cons (c.call h__law_pick (by kernel_rfl) (by kernel_rfl) (pda_cons (c.v 0 (by kernel_rfl)) (pda_cons (pd_lst (pda_cons pd_str (pda_cons pd_str (pda_cons pd_str pda_nil)))) pda_nil))) (pda_cons (c.call h__law_next (by kernel_rfl) (by kernel_rfl) (pda_cons (c.v 0 (by kernel_rfl)) (pda_cons (c.call h__law_pick (by kernel_rfl) (by kernel_rfl) (pda_cons (c.v 0 (by kernel_rfl)) (pda_cons (pd_lst (pda_cons pd_int (pda_cons pd_int (pda_cons pd_int pda_nil)))) pda_nil))) pda_nil))) pda_nil))))))))))
abbrev s__law_steps : Stmt := top 36
def N__law_steps : List Str := [("_law_h" : Str), ("_law_most" : Str), ("_law_found" : Str), ("_law_k" : Str), ("_law_step_here" : Str)]
theorem sc__law_steps : FnScope N__law_steps [("_law_h" : Str), ("_law_most" : Str)] (defScope s__law_steps) := ⟨rfl, rfl, rfl, by decide +kernel, rfl, by decide +kernel, by decide +kernel⟩
theorem has__law_steps {Z : Wd} (T : Txt Z.K Z.mg) (U : Exs Z) (F : FunAt Z ("_law_steps" : Str) s__law_steps [("_law_h" : Str), ("_law_most" : Str)]) (h__law_next : Z.has 1 ("_law_next" : Str) [("_law_h" : Str), ("_law_cap" : Str)] d__law_next) (h__law_step : Z.has 3 ("_law_step" : Str) [("_law_h" : Str)] d__law_step) : Z.has 4 ("_law_steps" : Str) [("_law_h" : Str), ("_law_most" : Str)] d__law_steps :=
  has_ofN (fb := b__law_steps) F sc__law_steps rfl (fun X B W c hp =>
    (pds_cons (c.setLc 2 [(("_law_k" : Str), 3)] (by kernel_rfl) (by kernel_rfl) (pdi_rng1 (c.gl (by kernel_rfl)).1 (c.nb T.m_range) (pda_cons (c.call h__law_next (by kernel_rfl) (by kernel_rfl) (pda_cons (c.v 0 (by kernel_rfl)) (pda_cons (e_add (c.v 1 (by kernel_rfl)) pd_int) pda_nil))) pda_nil) (hl := fun _ _ _ _ h => len1 h)) (fun X B c => ⟨(c.g1 3 (by kernel_rfl)), pdts_nil, (c.call h__law_step (by kernel_rfl) (by kernel_rfl) (pda_cons (c.v 0 (by kernel_rfl)) pda_nil))⟩) (by kernel_rfl))
    (pds_one (pds_ret (c.tuple T.m_tuple (by kernel_rfl) (pda_cons (c.lc [(("_law_step_here" : Str), 4)] (by kernel_rfl) (pdi_seq (c.v 2 (by kernel_rfl))) (fun X B c => ⟨(c.g1 4 (by kernel_rfl)), pdts_nil, (pd_if (c.teq (e_ix (c.v 4 (by kernel_rfl)) pd_int) pd_str) (pd_tup (pda_cons pd_str (pda_cons (c.max2 T.m_max (by kernel_rfl) (pda_cons (e_neg pd_int) (pda_cons (c.min2 T.m_min (by kernel_rfl) (pda_cons pd_int (pda_cons (e_ix (c.v 4 (by kernel_rfl)) pd_int) pda_nil))) pda_nil))) pda_nil))) (c.v 4 (by kernel_rfl)))⟩) (by kernel_rfl)) pda_nil))))))
abbrev s__law_mix : Stmt := top 31
abbrev s_law : Stmt := top 42
def N_law : List Str := [("_law_script" : Str), ("_law_h" : Str), ("_law_odd" : Str), ("_law_turn" : Str), ("_law_steps_here" : Str), ("_law_change" : Str), ("_law_spot" : Str), ("_law_price" : Str), ("_law_fault" : Str), ("_law_wrong" : Str), ("_law_k" : Str)]
theorem sc_law : FnScope N_law [("_law_script" : Str)] (defScope s_law) := ⟨rfl, rfl, rfl, by decide +kernel, rfl, by decide +kernel, by decide +kernel⟩
theorem has_law {Z : Wd} (T : Txt Z.K Z.mg) (U : Exs Z) (F : FunAt Z ("law" : Str) s_law [("_law_script" : Str)]) (h__law_paid : Z.has 2 ("_law_paid" : Str) [("_law_steps_here" : Str), ("_law_price" : Str)] d__law_paid) (h__law_tried : Z.has 5 ("_law_tried" : Str) [("_law_steps_here" : Str), ("_law_price" : Str)] d__law_tried) (h__law_alike : Z.has 12 ("_law_alike" : Str) [("_law_found" : Str), ("_law_due" : Str)] d__law_alike) (h__law_is_step : Z.has 2 ("_law_is_step" : Str) [("_law_thing" : Str)] d__law_is_step) (h__law_next : Z.has 1 ("_law_next" : Str) [("_law_h" : Str), ("_law_cap" : Str)] d__law_next) (h__law_pick : Z.has 2 ("_law_pick" : Str) [("_law_h" : Str), ("_law_things" : Str)] d__law_pick) (h__law_steps : Z.has 4 ("_law_steps" : Str) [("_law_h" : Str), ("_law_most" : Str)] d__law_steps) (h__law_mix : Z.has 1 ("_law_mix" : Str) [("_law_script" : Str), ("_law_seed" : Str)] d__law_mix) : Z.has 13 ("law" : Str) [("_law_script" : Str)] d_law01 :=
  has_ofN (fb := b_law01) F sc_law rfl (fun X B W c hp =>
    (pds_cons (c.asg 1 (by kernel_rfl) (c.call h__law_mix (by kernel_rfl) (by kernel_rfl) (pda_cons (c.v 0 (by kernel_rfl)) (pda_cons pd_int pda_nil))))
    (pds_cons (c.asg 2 (by kernel_rfl) (pd_lst (pda_cons (pd_tup (pda_cons pd_str (pda_cons pd_int (pda_cons pd_str pda_nil)))) (pda_cons (pd_tup (pda_cons pd_str (pda_cons (e_neg pd_int) (pda_cons pd_str pda_nil)))) (pda_cons (pd_tup (pda_cons pd_str (pda_cons pd_int pda_nil))) (pda_cons (pd_tup (pda_cons pd_str (pda_cons pd_int (pda_cons pd_str pda_nil)))) (pda_cons (pd_tup (pda_cons pd_str (pda_cons pd_int (pda_cons pd_non pda_nil)))) pda_nil)))))))
    (pds_cons (c.asg 2 (by kernel_rfl) (e_add (c.v 2 (by kernel_rfl)) (pd_lst (pda_cons (pd_tup (pda_cons pd_str (pda_cons pd_bl (pda_cons pd_str pda_nil)))) (pda_cons (pd_tup (pda_cons pd_str (pda_cons pd_int pda_nil))) (pda_cons (pd_tup (pda_cons pd_str (pda_cons (e_neg pd_int) pda_nil))) (pda_cons (pd_tup (pda_cons pd_str (pda_cons pd_int (pda_cons pd_str pda_nil)))) (pda_cons (pd_tup (pda_cons pd_str pda_nil)) (pda_cons (pd_tup (pda_cons pd_str (pda_cons pd_str pda_nil))) pda_nil)))))))))
    (pds_cons (c.asg 2 (by kernel_rfl) (e_add (c.v 2 (by kernel_rfl)) (pd_lst (pda_cons (pd_tup (pda_cons pd_str (pda_cons pd_int (pda_cons pd_str pda_nil)))) (pda_cons (pd_tup (pda_cons pd_str (pda_cons pd_int (pda_cons pd_str pda_nil)))) (pda_cons (pd_tup (pda_cons pd_str (pda_cons (e_neg pd_int) pda_nil))) (pda_cons (pd_tup (pda_cons pd_str (pda_cons pd_int pda_nil))) (pda_cons (pd_tup (pda_cons pd_str (pda_cons pd_int pda_nil))) pda_nil))))))))
    (pds_cons (c.asg 2 (by kernel_rfl) (e_add (c.v 2 (by kernel_rfl)) (pd_lst (pda_cons (pd_tup (pda_cons pd_str (pda_cons pd_non pda_nil))) (pda_cons (pd_tup (pda_cons pd_str (pda_cons pd_bl pda_nil))) (pda_cons (pd_lst (pda_cons pd_str (pda_cons pd_int pda_nil))) (pda_cons pd_non (pda_cons (pd_tup pda_nil) (pda_cons pd_int (pda_cons (pd_tup (pda_cons pd_str (pda_cons pd_int pda_nil))) (pda_cons (pd_tup (pda_cons pd_int (pda_cons pd_str pda_nil))) (pda_cons (pd_tup (pda_cons (pd_tup (pda_cons pd_str pda_nil)) (pda_cons pd_int pda_nil))) pda_nil))))))))))))
    (pds_cons (c.asg 2 (by kernel_rfl) (e_add (c.v 2 (by kernel_rfl)) (pd_lst (pda_cons pd_str (pda_cons (pd_tup (pda_cons pd_str (pda_cons pd_int (pda_cons pd_str pda_nil)))) (pda_cons (pd_tup (pda_cons pd_str (pda_cons pd_int (pda_cons pd_str pda_nil)))) (pda_cons (pd_tup (pda_cons pd_str (pda_cons pd_int pda_nil))) pda_nil)))))))
    (pds_cons (pds_for hp c.calm (pdi_rng1 (c.gl (by kernel_rfl)).1 (c.nb T.m_range) (pda_cons pd_int pda_nil) (hl := fun _ _ _ _ h => len1 h)) (c.g1 3 (by kernel_rfl)) (pds_cons (c.asg 4 (by kernel_rfl) (c.call h__law_steps (by kernel_rfl) (by kernel_rfl) (pda_cons (c.v 1 (by kernel_rfl)) (pda_cons pd_int pda_nil))))
    (pds_cons (pds_for hp c.calm (pdi_rng1 (c.gl (by kernel_rfl)).1 (c.nb T.m_range) (pda_cons (c.call h__law_pick (by kernel_rfl) (by kernel_rfl) (pda_cons (c.v 1 (by kernel_rfl)) (pda_cons (pd_lst (pda_cons pd_int (pda_cons pd_int (pda_cons pd_int (pda_cons pd_int (pda_cons pd_int pda_nil)))))) pda_nil))) pda_nil) (hl := fun _ _ _ _ h => len1 h)) (c.g1 5 (by kernel_rfl)) (pds_cons (c.asg 6 (by kernel_rfl) (c.call h__law_next (by kernel_rfl) (by kernel_rfl) (pda_cons (c.v 1 (by kernel_rfl)) (pda_cons (e_add (c.len T.m_len (by kernel_rfl) (pda_cons (c.v 4 (by kernel_rfl)) pda_nil)) pd_int) pda_nil))))
    (pds_one (c.asg 4 (by kernel_rfl) (e_add (e_add (pd_slice (c.v 4 (by kernel_rfl)) pdo_none (pdo_some (c.v 6 (by kernel_rfl)))) (pd_tup (pda_cons (c.call h__law_pick (by kernel_rfl) (by kernel_rfl) (pda_cons (c.v 1 (by kernel_rfl)) (pda_cons (c.v 2 (by kernel_rfl)) pda_nil))) pda_nil))) (pd_slice (c.v 4 (by kernel_rfl)) (pdo_some (e_add (c.v 6 (by kernel_rfl)) pd_int)) pdo_none))))))
    (pds_cons (c.asg 4 (by kernel_rfl) (c.call h__law_pick (by kernel_rfl) (by kernel_rfl) (pda_cons (c.v 1 (by kernel_rfl)) (pda_cons (e_add (e_mul (pd_lst (pda_cons (c.v 4 (by kernel_rfl)) pda_nil)) pd_int) (pd_lst (pda_cons (c.list T.m_list (by kernel_rfl) (pda_cons (c.v 4 (by kernel_rfl)) pda_nil)) (pda_cons pd_non (pda_cons (e_mul (pd_tup (pda_cons (pd_tup (pda_cons pd_str (pda_cons pd_int pda_nil))) pda_nil)) pd_int) (pda_cons pd_int pda_nil)))))) pda_nil))))
    (pds_cons (c.parS 7 8 (by kernel_rfl) (pda_cons (c.call h__law_next (by kernel_rfl) (by kernel_rfl) (pda_cons (c.v 1 (by kernel_rfl)) (pda_cons pd_int pda_nil))) (pda_cons pd_non pda_nil)) (by kernel_rfl))
    (pds_cons (pds_if (pdt_w (pdw_or (pdt_not (pdt_val (c.isi T.m_isinstance (by kernel_rfl) T.m_tuple (by kernel_rfl) PyProof.Rows.boot_tuple (by kernel_rfl) (c.v 4 (by kernel_rfl))))) (pdw_or1 (t_gt (c.len T.m_len (by kernel_rfl) (pda_cons (c.v 4 (by kernel_rfl)) pda_nil)) pd_int)))) (pds_one (c.asg 8 (by kernel_rfl) (pd_lst (pda_cons pd_non pda_nil)))) (pds_cons (c.setLc 9 [(("_law_k" : Str), 10)] (by kernel_rfl) (by kernel_rfl) (pdi_rng1 (c.gl (by kernel_rfl)).1 (c.nb T.m_range) (pda_cons (c.len T.m_len (by kernel_rfl) (pda_cons (c.v 4 (by kernel_rfl)) pda_nil)) pda_nil) (hl := fun _ _ _ _ h => len1 h)) (fun X B c => ⟨(c.g1 10 (by kernel_rfl)), (pdts_one (pdt_not (pdt_val (c.call h__law_is_step (by kernel_rfl) (by kernel_rfl) (pda_cons (e_ix (c.v 4 (by kernel_rfl)) (c.v 10 (by kernel_rfl))) pda_nil))))), (c.v 10 (by kernel_rfl))⟩) (by kernel_rfl))
    (pds_one (c.asg 8 (by kernel_rfl) (pd_if (c.tne (c.v 9 (by kernel_rfl)) (pd_lst pda_nil)) (pd_slice (c.v 9 (by kernel_rfl)) pdo_none (pdo_some pd_int)) pd_non)))))
    (pds_one (pds_if (pdt_not (pdt_val (c.call h__law_alike (by kernel_rfl) (by kernel_rfl) (pda_cons (c.call h__law_tried (by kernel_rfl) (by kernel_rfl) (pda_cons (c.v 4 (by kernel_rfl)) (pda_cons (c.v 7 (by kernel_rfl)) pda_nil))) (pda_cons (pd_if (t_notN (c.v 8 (by kernel_rfl)) pd_non) (c.v 8 (by kernel_rfl)) (c.call h__law_paid (by kernel_rfl) (by kernel_rfl) (pda_cons (c.v 4 (by kernel_rfl)) (pda_cons (c.v 7 (by kernel_rfl)) pda_nil)))) pda_nil))))) (pds_one (pds_ret pd_bl)) pds_nil))))))))
    (pds_one (pds_ret pd_bl))))))))))
def N_mix : List Str := [("_law_script" : Str), ("_law_seed" : Str), ("_law_state" : Str), ("_law_cell" : Str)]
theorem sc_mix : FnScope N_mix [("_law_script" : Str), ("_law_seed" : Str)] (defScope s__law_mix) := ⟨rfl, rfl, rfl, by decide +kernel, rfl, by decide +kernel, by decide +kernel⟩
theorem has__law_mix {Z : Wd} (T : Txt Z.K Z.mg) (F : FunAt Z ("_law_mix" : Str) s__law_mix [("_law_script" : Str), ("_law_seed" : Str)]) : Z.has 1 ("_law_mix" : Str) [("_law_script" : Str), ("_law_seed" : Str)] mixD := by
  obtain ⟨f, fd, h1, h2, h3⟩ := F.ex
  refine ⟨f, fd, h1, h2.kp, h3, ?_⟩
  refine h2.okX sc_mix (fun vs H Q E h => ?_) (fun cdv A outer s H vs Q E hr h => ?_)
  · obtain ⟨ds, Ω, g, r, _, hl, _⟩ := h
    rw [← r.length, hl]
  · obtain ⟨ds, Ω, g, r, w, hl, q⟩ := h
    rcases mixD_cases ds g with hbad | ⟨ns, seed, rfl, rfl, hok⟩
    · rw [hbad] at q
      exact q.elim
    rw [hok] at q
    obtain ⟨v, u, rfl, r1, r2⟩ := two_of r
    obtain ⟨a, rfl, hS0⟩ := rep_scr.mp r1
    obtain rfl := rep_int.mp r2
    have hS : SqL Z.K H a (ns.map V.int) := Evl.ex_l w.sub hS0
    have hga : Ω.ga = none := by
      have := w.gen
      cases e : Ω.ga with
      | none => rfl
      | some ab => rw [e] at this; exact this.elim
    refine ⟨_, pss_cons (ps_set (i := 2) sc_mix.nd rfl (Or.inl rfl) (pv 1))
      (pss_cons (ps_for (passes_of rfl) rfl (pi_list (pv 0)) (pg_name (i := 3) sc_mix.nd rfl (Or.inl rfl))
        (pss_one (ps_set (i := 2) sc_mix.nd rfl (Or.inl rfl) (pe_op op_modN (pe_callTy call_int1 (by rfl) T.m_int PyProof.Rows.boot_int (pa_cons (pe_op op_add (pe_op op_add (pe_op op_mul (pv 2) pe_int) (pe_op op_modN (pe_callTy call_int1 (by rfl) T.m_int PyProof.Rows.boot_int (pa_cons (pv 3) pa_nil)) pe_int)) pe_int) pa_nil)) pe_int))))
      (pss_one (ps_ret (pe_lst (pa_cons (pv 2) (pa_cons (pe_callTy call_list_of (by rfl) T.m_list PyProof.Rows.boot_list (pa_cons (pv 0) pa_nil)) (pa_cons pe_int pa_nil))))))), ?_⟩
    refine ⟨_, rfl, _, rfl, a, rfl, ⟨_, hS⟩, for_list (K := Z.K) (a := a) (xs := ns.map V.int) (fun i σ H' => ∃ v : Option V, σ = [some (.ref a), some (.int seed), some (.int (mixSt seed (ns.take i))), v] ∧ H' = H) ⟨none, rfl, rfl⟩ (fun i σ H' _ ⟨_, _, e⟩ => by rw [e]; exact hS) ?_ ?_⟩
    · rintro i y σ H' hi ⟨v, rfl, rfl⟩
      obtain ⟨z, hz, rfl⟩ : ∃ z, ns[i]? = some z ∧ y = V.int z := by
        rw [List.getElem?_map] at hi
        cases e : ns[i]? with
        | none => rw [e] at hi; cases hi
        | some z => rw [e] at hi; exact ⟨z, rfl, (Option.some.inj hi).symm⟩
      refine ⟨_, rfl, _, 48271, rfl, rfl, .inr ⟨by decide, by decide⟩, _, rfl, .inl ⟨_, rfl, z, 2147483629, rfl, rfl, (by show (2147483629 : Int) ≠ 0; decide), _, _, rfl, rfl, _, _, rfl, rfl, .inl ⟨_, rfl, _, _, rfl, rfl, (by show (2147483647 : Int) ≠ 0; decide), ?_⟩⟩⟩
      refine ⟨some (.int z), ?_, rfl⟩
      have e : ns.take (i + 1) = ns.take i ++ [z] := by rw [List.take_add_one, hz]; rfl
      rw [e]
      unfold mixSt
      rw [List.foldl_append]
      rfl
    · rintro σ H' ⟨v, rfl, rfl⟩
      refine ⟨_, rfl, _, rfl, a, _, rfl, .inl hS, fun l hl => ⟨by show 3 ≤ sizeLine; decide, fun p hp => ?_⟩⟩
      rw [List.length_map, List.take_length] at *
      have hlp : l ≠ p := by
        rintro rfl
        rw [upd_same] at hp; cases hp
      have hpH : H' p = none := by rw [upd_ne (Ne.symm hlp)] at hp; exact hp
      have nS : ∀ c, H' c = none → Ω.S c = none := fun c hc => by
        cases e : Ω.S c with
        | none => rfl
        | some u => rw [w.sub c u e] at hc; cases hc
      refine q _ ⟨Ω.S, some (p, l)⟩ _ ⟨⟨Evl.Ex.refl _, fun z hz => by rw [hga] at hz; cases hz⟩, fun c o h => .inl h, fun z hz => ?_, fun c o h _ => ?_, fun c o h => ⟨o, ?_⟩⟩ ⟨fun c o h => ?_, ?_⟩ (rep_gen.mpr ⟨(p, l), rfl, rfl⟩)
      · cases hz
        exact .inr ⟨hpH, hl⟩
      · rw [upd_ne (ne_of_none h hpH), upd_ne (ne_of_none h hl)]; exact h
      · rw [upd_ne (ne_of_none h hpH), upd_ne (ne_of_none h hl)]; exact h
      · have h' := w.sub c o h
        rw [upd_ne (ne_of_none h' hpH), upd_ne (ne_of_none h' hl)]; exact h'
      · exact ⟨upd_same, by show upd (upd H' l _) p _ l = _; rw [upd_ne hlp, upd_same], Ne.symm hlp, nS p hpH, nS l hl⟩
def N_next : List Str := [("_law_h" : Str), ("_law_cap" : Str), ("_law_cell" : Str)]
theorem sc_next : FnScope N_next [("_law_h" : Str), ("_law_cap" : Str)] (defScope s__law_next) := ⟨rfl, rfl, rfl, by decide +kernel, rfl, by decide +kernel, by decide +kernel⟩
theorem has__law_next {Z : Wd} (T : Txt Z.K Z.mg) (F : FunAt Z ("_law_next" : Str) s__law_next [("_law_h" : Str), ("_law_cap" : Str)]) : Z.has 1 ("_law_next" : Str) [("_law_h" : Str), ("_law_cap" : Str)] nextD := by
  obtain ⟨f, fd, h1, h2, h3⟩ := F.ex
  refine ⟨f, fd, h1, h2.kp, h3, ?_⟩
  refine h2.okX sc_next (fun vs H Q E h => ?_) (fun cdv A outer s H vs Q E hr h => ?_)
  · obtain ⟨ds, Ω, g, r, _, hl, _⟩ := h
    rw [← r.length, hl]
  · obtain ⟨ds, Ω, g, r, w, hl, q⟩ := h
    rcases nextD_cases ds g with hbad | ⟨cap, γ, rfl, rfl, ⟨c1, c2, c3, c4⟩, hok⟩
    · rw [hbad] at q
      exact q.elim
    rw [hok] at q
    obtain ⟨⟨a, b⟩, hga, rfl⟩ := rep2 r
    have hg := w.gen
    rw [hga] at hg
    obtain ⟨ha, hb, hab, sa, sb⟩ := hg
    simp only at ha hb hab sa sb
    refine ⟨_, pss_cons (ps_set (i := 2) sc_next.nd rfl (Or.inl rfl) (pe_ix ix_list (pe_op op_cat (pe_ix ix_list (pv 0) pe_int (fun _ _ => rfl)) (pe_lst (pa_cons pe_int pa_nil)))
        (pe_op op_modN (pe_callTy call_int1 (by rfl) T.m_int PyProof.Rows.boot_int (pa_cons (pe_ix ix_list (pv 0) pe_int (fun _ _ => rfl)) pa_nil))
          (pe_callB (call_max2 rfl) (by rfl) T.m_max PyProof.Rows.boot_max (pa_cons pe_int (pa_cons (pe_callB call_len_seq (by rfl) T.m_len PySem.boot_len (pa_cons (pe_ix ix_list (pv 0) pe_int (fun _ _ => rfl)) pa_nil)) pa_nil)))) (fun _ _ => rfl)))
      (pss_cons (ps_if (pt_cmpR op_ge (pv 2) (pe_op op_pow pe_int pe_int) (nomark _))
        (pss_cons (ps_asg (pe_op op_fdivW (pv 2) (pv 1)) (pg_sub (pe_ix ix_list (pv 0) pe_int (fun _ _ => rfl)) (pe_op op_modN (pe_callTy call_int1 (by rfl) T.m_int PyProof.Rows.boot_int (pa_cons (pe_ix ix_list (pv 0) pe_int (fun _ _ => rfl)) pa_nil)) (pe_callB call_len_seq (by rfl) T.m_len PySem.boot_len (pa_cons (pe_ix ix_list (pv 0) pe_int (fun _ _ => rfl)) pa_nil))) set_list))
          (pss_one (ps_ret (pe_op op_modN (pe_callTy call_int1 (by rfl) T.m_int PyProof.Rows.boot_int (pa_cons (pv 2) pa_nil)) (pv 1))))) pss_nil)
      (pss_cons (ps_asg (pe_op op_modN (pe_callTy call_int1 (by rfl) T.m_int PyProof.Rows.boot_int (pa_cons (pe_op op_add (pe_op op_add (pe_op op_mul (pe_ix ix_list (pv 0) pe_int (fun _ _ => rfl)) pe_int) (pe_op op_mul (pv 2) pe_int)) pe_int) pa_nil)) pe_int) (pg_sub (pv 0) pe_int set_list))
      (pss_cons (ps_asg (pe_op op_add (pe_ix ix_list (pv 0) pe_int (fun _ _ => rfl)) pe_int) (pg_sub (pv 0) pe_int set_list))
      (pss_one (ps_ret (pe_op op_modN (pe_callTy call_int1 (by rfl) T.m_int PyProof.Rows.boot_int (pa_cons (pe_op op_fdivN (pe_ix ix_list (pv 0) pe_int (fun _ _ => rfl)) pe_int) pa_nil)) (pv 1))))))), ?_⟩
    have big : sizeLine = 16777216 := sizeLine_eq
    refine ⟨_, rfl, a, _, 1, .ref b, rfl, rfl, SqL.of ha, rfl, by show 1 ≤ sizeLine; decide, fun p1 hp1 => ?_⟩
    have hb1 : upd H p1 (.lst [.int 0]) b = some (.lst (γ.cells.map V.int)) := by rw [upd_ne (ne_of_none hb hp1)]; exact hb
    refine ⟨b, p1, _, _, rfl, rfl, hb1, upd_same, by rw [List.length_map, big]; show γ.cells.length + 1 ≤ 16777216; omega, fun p2 hp2 => ?_⟩
    have hp2' : H p2 = none := by
      cases e : H p2 with
      | none => rfl
      | some o => rw [upd_ne (ne_of_none e hp1)] at hp2; rw [e] at hp2; cases hp2
    have keep2 : ∀ c o, H c = some o → upd (upd H p1 (.lst [.int 0])) p2 (.lst (γ.cells.map V.int ++ [.int 0])) c = some o := fun c o e => by
      rw [upd_ne (ne_of_none e hp2'), upd_ne (ne_of_none e hp1)]; exact e
    have w2 := (w.loose (o := .lst [.int 0]) hp1).loose (o := .lst (γ.cells.map V.int ++ [.int 0])) hp2
    have t2 : Tr Ω H Ω (upd (upd H p1 (.lst [.int 0])) p2 (.lst (γ.cells.map V.int ++ [.int 0]))) := (Tr.loose hp1).trans (Tr.loose hp2)
    obtain ⟨H2, hH2⟩ : ∃ H2, H2 = upd (upd H p1 (.lst [.int 0])) p2 (.lst (γ.cells.map V.int ++ [.int 0])) := ⟨_, rfl⟩
    rw [← hH2] at keep2 w2 t2
    show tOp _ _ _ _ (upd (upd H p1 (.lst [.int 0])) p2 (.lst (γ.cells.map V.int ++ [.int 0]))) _
    rw [← hH2]
    have hp22 : H2 p2 = some (.lst (γ.cells.map V.int ++ [.int 0])) := by rw [hH2]; exact upd_same
    have ha2 := keep2 a _ ha
    have hb2 := keep2 b _ hb
    obtain ⟨M, hM⟩ : ∃ M : Int, M = if (γ.cells.length : Int) > 1 then (γ.cells.length : Int) else 1 := ⟨_, rfl⟩
    have hM1 : 1 ≤ M := by rw [hM]; split <;> omega
    have hMl : M ≤ γ.cells.length + 1 := by rw [hM]; split <;> omega
    have hj0 : 0 ≤ γ.ix.fmod M := Int.fmod_nonneg_of_pos _ (by omega)
    have hj1 : γ.ix.fmod M < M := Int.fmod_lt_of_pos _ (by omega)
    obtain ⟨cell, hcell⟩ : ∃ cell, (γ.cells ++ [0])[(γ.ix.fmod M).toNat]? = some cell := by
      have : (γ.ix.fmod M).toNat < (γ.cells ++ [0]).length := by simp; omega
      exact ⟨_, List.getElem?_eq_getElem this⟩
    have hcV : (γ.cells.map V.int ++ [V.int 0])[(γ.ix.fmod M).toNat]? = some (V.int cell) := by
      have : γ.cells.map V.int ++ [V.int 0] = (γ.cells ++ [0]).map V.int := by simp
      rw [this, List.getElem?_map, hcell]
      rfl
    have oa : Ω.Own a := ⟨(a, b), hga, .inl rfl⟩
    have ob : Ω.Own b := ⟨(a, b), hga, .inr rfl⟩
    refine ⟨_, rfl, a, _, 2, .int γ.ix, rfl, rfl, SqL.of ha2, rfl, .inl ⟨_, rfl, ?_⟩⟩
    refine ⟨_, rfl, a, _, 1, .ref b, rfl, rfl, SqL.of ha2, rfl, b, _, rfl, .inl (SqL.of hb2), 1, (γ.cells.length : Int), by rw [List.length_map], γ.ix, M, rfl, by rw [hM], by omega, p2, _, _, .int cell, rfl, rfl, SqL.of hp22, atI_ok hj0 hcV, ?_⟩
    refine ⟨_, rfl, 10, 18, rfl, rfl, ⟨by decide, by decide, by decide⟩, cell, _, rfl, rfl, _, rfl, ?_⟩
    have hq : nextSt γ cap = (if (10 : Int) ^ 18 ≤ cell then (cell.fmod cap, { γ with cells := γ.cells.set (γ.ix.fmod M).toNat (cell / cap) }) else (((γ.st * 48271 + cell * 69621 + 11).fmod 2147483647).fdiv 7 |>.fmod cap, { γ with st := (γ.st * 48271 + cell * 69621 + 11).fmod 2147483647, ix := γ.ix + 1 })) := by
      unfold nextSt
      simp only [← hM, hcell, Option.getD_some]
    by_cases hge : (10 : Int) ^ 18 ≤ cell
    · rw [if_pos hge] at hq
      rw [hq] at q
      refine if_true_of (decide_eq_true hge) ?_
      have hne : γ.cells ≠ [] := by
        intro z
        rw [z] at hcell
        cases hjj : (γ.ix.fmod M).toNat with
        | zero => rw [hjj] at hcell; simp at hcell; omega
        | succ n => rw [hjj] at hcell; simp at hcell
      have hMe : M = γ.cells.length := by
        have : 0 < γ.cells.length := List.length_pos_iff.mpr hne
        rw [hM]; split <;> omega
      refine ⟨_, rfl, _, rfl, cell, cap, rfl, rfl, ⟨c1, c2⟩, ?_⟩
      refine ⟨_, rfl, a, _, 1, .ref b, rfl, rfl, SqL.of ha2, rfl, ?_⟩
      refine ⟨_, rfl, a, _, 2, .int γ.ix, rfl, rfl, SqL.of ha2, rfl, .inl ⟨_, rfl, ?_⟩⟩
      refine ⟨_, rfl, a, _, 1, .ref b, rfl, rfl, SqL.of ha2, rfl, b, _, rfl, .inl (SqL.of hb2), γ.ix, M, rfl, by rw [List.length_map, hMe], by omega, b, _, _, (γ.ix.fmod M).toNat, rfl, rfl, hb2, ixN_ok hj0 (by rw [List.length_map]; omega), ?_⟩
      refine ⟨_, rfl, .inl ⟨_, rfl, _, rfl, cell, cap, rfl, rfl, by omega, ?_⟩⟩
      refine q _ Ω _ (t2.ownUpd ob) ⟨fun c u hcu => ?_, ?_⟩ ri
      · rw [upd_ne (ne_of_none hcu sb)]; exact w2.sub c u hcu
      · rw [hga]
        exact ⟨by rw [upd_ne hab]; exact ha2, by rw [upd_same, set_ints], hab, sa, sb⟩
    · rw [if_neg hge] at hq
      rw [hq] at q
      refine if_false_of (decide_eq_false hge) ?_
      refine ⟨_, rfl, a, _, 0, .int γ.st, rfl, rfl, SqL.of ha2, rfl, γ.st, 48271, rfl, rfl, .inr ⟨by decide, by decide⟩, _, rfl, cell, 69621, rfl, rfl, .inr ⟨by decide, by decide⟩, _, _, rfl, rfl, _, _, rfl, rfl, .inl ⟨_, rfl, _, _, rfl, rfl, (by show (2147483647 : Int) ≠ 0; decide), ?_⟩⟩
      refine ⟨_, rfl, a, _, 0, 0, rfl, rfl, ha2, rfl, ?_⟩
      have ha3 : ∀ x, upd H2 a x a = some x := fun x => upd_same
      refine ⟨_, rfl, a, _, 2, .int γ.ix, rfl, rfl, SqL.of (ha3 _), rfl, γ.ix, 1, rfl, rfl, _, rfl, a, _, 2, 2, rfl, rfl, ha3 _, rfl, ?_⟩
      rw [upd_upd]
      refine ⟨_, rfl, a, _, 0, .int ((γ.st * 48271 + cell * 69621 + 11).fmod 2147483647), rfl, rfl, SqL.of (ha3 _), rfl, _, 7, rfl, rfl, ⟨by decide, by decide⟩, .inl ⟨_, rfl, _, rfl, _, cap, rfl, rfl, by omega, ?_⟩⟩
      refine q _ Ω _ (t2.ownUpd oa) ⟨fun c u hcu => ?_, ?_⟩ ri
      · rw [upd_ne (ne_of_none hcu sa)]; exact w2.sub c u hcu
      · rw [hga]
        exact ⟨by rw [upd_same]; rfl, by rw [upd_ne (Ne.symm hab)]; exact hb2, hab, sa, sb⟩
theorem ok_law {Z : Wd} (T : Txt Z.K Z.mg) (U : Exs Z) (F__law_round : FunAt Z ("_law_round" : Str) s__law_round [("_law_over" : Str), ("_law_under" : Str), ("_law_rule" : Str)]) (F__law_paid : FunAt Z ("_law_paid" : Str) s__law_paid [("_law_steps_here" : Str), ("_law_price" : Str)]) (F_rounded : FunAt Z ("rounded" : Str) s_rounded [("over" : Str), ("under" : Str), ("rule" : Str)]) (F_behind : FunAt Z ("behind" : Str) s_behind [("step" : Str), ("price" : Str)]) (F_paid : FunAt Z ("paid" : Str) s_paid [("steps" : Str), ("price" : Str)]) (F_is_integer : FunAt Z ("is_integer" : Str) s_is_integer [("thing" : Str), ("low" : Str), ("high" : Str)]) (F_check_price : FunAt Z ("check_price" : Str) s_check_price [("thing" : Str)]) (F_is_rule : FunAt Z ("is_rule" : Str) s_is_rule [("thing" : Str)]) (F_is_step : FunAt Z ("is_step" : Str) s_is_step [("thing" : Str)]) (F_check_steps : FunAt Z ("check_steps" : Str) s_check_steps [("thing" : Str)]) (F_pay : FunAt Z ("pay" : Str) s_pay [("steps" : Str), ("price" : Str)]) (F__law_tried : FunAt Z ("_law_tried" : Str) s__law_tried [("_law_steps_here" : Str), ("_law_price" : Str)]) (F__law_alike : FunAt Z ("_law_alike" : Str) s__law_alike [("_law_found" : Str), ("_law_due" : Str)]) (F__law_whole : FunAt Z ("_law_whole" : Str) s__law_whole [("_law_thing" : Str), ("_law_low" : Str), ("_law_high" : Str)]) (F__law_is_step : FunAt Z ("_law_is_step" : Str) s__law_is_step [("_law_thing" : Str)]) (F__law_next : FunAt Z ("_law_next" : Str) s__law_next [("_law_h" : Str), ("_law_cap" : Str)]) (F__law_pick : FunAt Z ("_law_pick" : Str) s__law_pick [("_law_h" : Str), ("_law_things" : Str)]) (F__law_step : FunAt Z ("_law_step" : Str) s__law_step [("_law_h" : Str)]) (F__law_steps : FunAt Z ("_law_steps" : Str) s__law_steps [("_law_h" : Str), ("_law_most" : Str)]) (F__law_mix : FunAt Z ("_law_mix" : Str) s__law_mix [("_law_script" : Str), ("_law_seed" : Str)]) {f : Addr} {fd : FuncData} (F : Fun Z.K ("law" : Str) ("law" : Str) s_law f fd) : FnOk Z.P Z.w Z.K Z.mg Z.base (L2.CX Z.P Z.w) 13 f fd [("_law_script" : Str)] (spD Z.K Z.C 1 d_law01) := by
  have h__law_round := has__law_round T U F__law_round
  have h__law_paid := has__law_paid T U F__law_paid h__law_round
  have h_rounded := has_rounded T U F_rounded
  have h_behind := has_behind T U F_behind h_rounded
  have h_paid := has_paid T U F_paid h_behind
  have h_is_integer := has_is_integer T U F_is_integer
  have h_check_price := has_check_price T U F_check_price h_is_integer
  have h_is_rule := has_is_rule T U F_is_rule
  have h_is_step := has_is_step T U F_is_step h_is_integer h_is_rule
  have h_check_steps := has_check_steps T U F_check_steps h_is_step
  have h_pay := has_pay T U F_pay h_paid h_check_price h_check_steps
  have h__law_tried := has__law_tried T U F__law_tried h_pay
  have h__law_alike := has__law_alike T U F__law_alike
  have h__law_whole := has__law_whole T U F__law_whole
  have h__law_is_step := has__law_is_step T U F__law_is_step h__law_whole
  have h__law_next := has__law_next T F__law_next
  have h__law_pick := has__law_pick T U F__law_pick h__law_next
  have h__law_step := has__law_step T U F__law_step h__law_pick h__law_next
  have h__law_steps := has__law_steps T U F__law_steps h__law_next h__law_step
  have h__law_mix := has__law_mix T F__law_mix
  exact fn_okN (fb := b_law01) F sc_law rfl (fun X B W c hp =>
    (pds_cons (c.asg 1 (by kernel_rfl) (c.call h__law_mix (by kernel_rfl) (by kernel_rfl) (pda_cons (c.v 0 (by kernel_rfl)) (pda_cons pd_int pda_nil))))
    (pds_cons (c.asg 2 (by kernel_rfl) (pd_lst (pda_cons (pd_tup (pda_cons pd_str (pda_cons pd_int (pda_cons pd_str pda_nil)))) (pda_cons (pd_tup (pda_cons pd_str (pda_cons (e_neg pd_int) (pda_cons pd_str pda_nil)))) (pda_cons (pd_tup (pda_cons pd_str (pda_cons pd_int pda_nil))) (pda_cons (pd_tup (pda_cons pd_str (pda_cons pd_int (pda_cons pd_str pda_nil)))) (pda_cons (pd_tup (pda_cons pd_str (pda_cons pd_int (pda_cons pd_non pda_nil)))) pda_nil)))))))
    (pds_cons (c.asg 2 (by kernel_rfl) (e_add (c.v 2 (by kernel_rfl)) (pd_lst (pda_cons (pd_tup (pda_cons pd_str (pda_cons pd_bl (pda_cons pd_str pda_nil)))) (pda_cons (pd_tup (pda_cons pd_str (pda_cons pd_int pda_nil))) (pda_cons (pd_tup (pda_cons pd_str (pda_cons (e_neg pd_int) pda_nil))) (pda_cons (pd_tup (pda_cons pd_str (pda_cons pd_int (pda_cons pd_str pda_nil)))) (pda_cons (pd_tup (pda_cons pd_str pda_nil)) (pda_cons (pd_tup (pda_cons pd_str (pda_cons pd_str pda_nil))) pda_nil)))))))))
    (pds_cons (c.asg 2 (by kernel_rfl) (e_add (c.v 2 (by kernel_rfl)) (pd_lst (pda_cons (pd_tup (pda_cons pd_str (pda_cons pd_int (pda_cons pd_str pda_nil)))) (pda_cons (pd_tup (pda_cons pd_str (pda_cons pd_int (pda_cons pd_str pda_nil)))) (pda_cons (pd_tup (pda_cons pd_str (pda_cons (e_neg pd_int) pda_nil))) (pda_cons (pd_tup (pda_cons pd_str (pda_cons pd_int pda_nil))) (pda_cons (pd_tup (pda_cons pd_str (pda_cons pd_int pda_nil))) pda_nil))))))))
    (pds_cons (c.asg 2 (by kernel_rfl) (e_add (c.v 2 (by kernel_rfl)) (pd_lst (pda_cons (pd_tup (pda_cons pd_str (pda_cons pd_non pda_nil))) (pda_cons (pd_tup (pda_cons pd_str (pda_cons pd_bl pda_nil))) (pda_cons (pd_lst (pda_cons pd_str (pda_cons pd_int pda_nil))) (pda_cons pd_non (pda_cons (pd_tup pda_nil) (pda_cons pd_int (pda_cons (pd_tup (pda_cons pd_str (pda_cons pd_int pda_nil))) (pda_cons (pd_tup (pda_cons pd_int (pda_cons pd_str pda_nil))) (pda_cons (pd_tup (pda_cons (pd_tup (pda_cons pd_str pda_nil)) (pda_cons pd_int pda_nil))) pda_nil))))))))))))
    (pds_cons (c.asg 2 (by kernel_rfl) (e_add (c.v 2 (by kernel_rfl)) (pd_lst (pda_cons pd_str (pda_cons (pd_tup (pda_cons pd_str (pda_cons pd_int (pda_cons pd_str pda_nil)))) (pda_cons (pd_tup (pda_cons pd_str (pda_cons pd_int (pda_cons pd_str pda_nil)))) (pda_cons (pd_tup (pda_cons pd_str (pda_cons pd_int pda_nil))) pda_nil)))))))
    (pds_cons (pds_for hp c.calm (pdi_rng1 (c.gl (by kernel_rfl)).1 (c.nb T.m_range) (pda_cons pd_int pda_nil) (hl := fun _ _ _ _ h => len1 h)) (c.g1 3 (by kernel_rfl)) (pds_cons (c.asg 4 (by kernel_rfl) (c.call h__law_steps (by kernel_rfl) (by kernel_rfl) (pda_cons (c.v 1 (by kernel_rfl)) (pda_cons pd_int pda_nil))))
    (pds_cons (pds_for hp c.calm (pdi_rng1 (c.gl (by kernel_rfl)).1 (c.nb T.m_range) (pda_cons (c.call h__law_pick (by kernel_rfl) (by kernel_rfl) (pda_cons (c.v 1 (by kernel_rfl)) (pda_cons (pd_lst (pda_cons pd_int (pda_cons pd_int (pda_cons pd_int (pda_cons pd_int (pda_cons pd_int pda_nil)))))) pda_nil))) pda_nil) (hl := fun _ _ _ _ h => len1 h)) (c.g1 5 (by kernel_rfl)) (pds_cons (c.asg 6 (by kernel_rfl) (c.call h__law_next (by kernel_rfl) (by kernel_rfl) (pda_cons (c.v 1 (by kernel_rfl)) (pda_cons (e_add (c.len T.m_len (by kernel_rfl) (pda_cons (c.v 4 (by kernel_rfl)) pda_nil)) pd_int) pda_nil))))
    (pds_one (c.asg 4 (by kernel_rfl) (e_add (e_add (pd_slice (c.v 4 (by kernel_rfl)) pdo_none (pdo_some (c.v 6 (by kernel_rfl)))) (pd_tup (pda_cons (c.call h__law_pick (by kernel_rfl) (by kernel_rfl) (pda_cons (c.v 1 (by kernel_rfl)) (pda_cons (c.v 2 (by kernel_rfl)) pda_nil))) pda_nil))) (pd_slice (c.v 4 (by kernel_rfl)) (pdo_some (e_add (c.v 6 (by kernel_rfl)) pd_int)) pdo_none))))))
    (pds_cons (c.asg 4 (by kernel_rfl) (c.call h__law_pick (by kernel_rfl) (by kernel_rfl) (pda_cons (c.v 1 (by kernel_rfl)) (pda_cons (e_add (e_mul (pd_lst (pda_cons (c.v 4 (by kernel_rfl)) pda_nil)) pd_int) (pd_lst (pda_cons (c.list T.m_list (by kernel_rfl) (pda_cons (c.v 4 (by kernel_rfl)) pda_nil)) (pda_cons pd_non (pda_cons (e_mul (pd_tup (pda_cons (pd_tup (pda_cons pd_str (pda_cons pd_int pda_nil))) pda_nil)) pd_int) (pda_cons pd_int pda_nil)))))) pda_nil))))
    (pds_cons (c.parS 7 8 (by kernel_rfl) (pda_cons (c.call h__law_next (by kernel_rfl) (by kernel_rfl) (pda_cons (c.v 1 (by kernel_rfl)) (pda_cons pd_int pda_nil))) (pda_cons pd_non pda_nil)) (by kernel_rfl))
    (pds_cons (pds_if (pdt_w (pdw_or (pdt_not (pdt_val (c.isi T.m_isinstance (by kernel_rfl) T.m_tuple (by kernel_rfl) PyProof.Rows.boot_tuple (by kernel_rfl) (c.v 4 (by kernel_rfl))))) (pdw_or1 (t_gt (c.len T.m_len (by kernel_rfl) (pda_cons (c.v 4 (by kernel_rfl)) pda_nil)) pd_int)))) (pds_one (c.asg 8 (by kernel_rfl) (pd_lst (pda_cons pd_non pda_nil)))) (pds_cons (c.setLc 9 [(("_law_k" : Str), 10)] (by kernel_rfl) (by kernel_rfl) (pdi_rng1 (c.gl (by kernel_rfl)).1 (c.nb T.m_range) (pda_cons (c.len T.m_len (by kernel_rfl) (pda_cons (c.v 4 (by kernel_rfl)) pda_nil)) pda_nil) (hl := fun _ _ _ _ h => len1 h)) (fun X B c => ⟨(c.g1 10 (by kernel_rfl)), (pdts_one (pdt_not (pdt_val (c.call h__law_is_step (by kernel_rfl) (by kernel_rfl) (pda_cons (e_ix (c.v 4 (by kernel_rfl)) (c.v 10 (by kernel_rfl))) pda_nil))))), (c.v 10 (by kernel_rfl))⟩) (by kernel_rfl))
    (pds_one (c.asg 8 (by kernel_rfl) (pd_if (c.tne (c.v 9 (by kernel_rfl)) (pd_lst pda_nil)) (pd_slice (c.v 9 (by kernel_rfl)) pdo_none (pdo_some pd_int)) pd_non)))))
    (pds_one (pds_if (pdt_not (pdt_val (c.call h__law_alike (by kernel_rfl) (by kernel_rfl) (pda_cons (c.call h__law_tried (by kernel_rfl) (by kernel_rfl) (pda_cons (c.v 4 (by kernel_rfl)) (pda_cons (c.v 7 (by kernel_rfl)) pda_nil))) (pda_cons (pd_if (t_notN (c.v 8 (by kernel_rfl)) pd_non) (c.v 8 (by kernel_rfl)) (c.call h__law_paid (by kernel_rfl) (by kernel_rfl) (pda_cons (c.v 4 (by kernel_rfl)) (pda_cons (c.v 7 (by kernel_rfl)) pda_nil)))) pda_nil))))) (pds_one (pds_ret pd_bl)) pds_nil))))))))
    (pds_one (pds_ret pd_bl))))))))))
end L
end TS
open PySem PySem.W PyProof.Rows
set_option maxRecDepth 100000 in
set_option maxHeartbeats 0 in
theorem PySem.Challenge.cw_tillsteps_k01_steps_refused_holds : PySem.Challenge.rw_tillsteps_k01_steps_refused.Holds := by
  w_on; o_law; k_head; (case hw => w_witness2)
  k_fill
  refine TS.law_walkX (l := PySem.Challenge.rw_tillsteps_k01_steps_refused) (k := 13) TS.L.d_law01 rfl rfl ⟨rfl, by decide, by decide⟩ (fun w h Y => PySem.W.kIn_of Y) ?F TS.L.law01_true
  intro w mg fa h KX G hmg
  have m_bool := by
    refine' TS.noneK (x := ("bool" : Str)) KX G ?a
    (case a => k_is)
  have m_enumerate := by
    refine' TS.noneK (x := ("enumerate" : Str)) KX G ?a
    (case a => k_is)
  have m_int := by
    refine' TS.noneK (x := ("int" : Str)) KX G ?a
    (case a => k_is)
  have m_isinstance := by
    refine' TS.noneK (x := ("isinstance" : Str)) KX G ?a
    (case a => k_is)
  have m_len := by
    refine' TS.noneK (x := ("len" : Str)) KX G ?a
    (case a => k_is)
  have m_list := by
    refine' TS.noneK (x := ("list" : Str)) KX G ?a
    (case a => k_is)
  have m_max := by
    refine' TS.noneK (x := ("max" : Str)) KX G ?a
    (case a => k_is)
  have m_min := by
    refine' TS.noneK (x := ("min" : Str)) KX G ?a
    (case a => k_is)
  have m_range := by
    refine' TS.noneK (x := ("range" : Str)) KX G ?a
    (case a => k_is)
  have m_str := by
    refine' TS.noneK (x := ("str" : Str)) KX G ?a
    (case a => k_is)
  have m_tuple := by
    refine' TS.noneK (x := ("tuple" : Str)) KX G ?a
    (case a => k_is)
  have g_ADD := by
    refine' TS.globK_str (x := ("ADD" : Str)) (s := ("add" : Str)) KX G ?a
    (case a => k_is)
  have g_DOWN := by
    refine' TS.globK_str (x := ("DOWN" : Str)) (s := ("down" : Str)) KX G ?a
    (case a => k_is)
  have g_EVEN := by
    refine' TS.globK_str (x := ("EVEN" : Str)) (s := ("even" : Str)) KX G ?a
    (case a => k_is)
  have g_LEAST := by
    refine' TS.globK_str (x := ("LEAST" : Str)) (s := ("least" : Str)) KX G ?a
    (case a => k_is)
  have g_MOST := by
    refine' TS.globK_str (x := ("MOST" : Str)) (s := ("most" : Str)) KX G ?a
    (case a => k_is)
  have g_MOST_ADD := by
    refine' TS.globK_int (x := ("MOST_ADD" : Str)) (i := 200) KX G ?a
    (case a => k_is)
  have g_MOST_BOUND := by
    refine' TS.globK_int (x := ("MOST_BOUND" : Str)) (i := 1000) KX G ?a
    (case a => k_is)
  have g_MOST_EVEN := by
    refine' TS.globK_int (x := ("MOST_EVEN" : Str)) (i := 100) KX G ?a
    (case a => k_is)
  have g_MOST_PART := by
    refine' TS.globK_int (x := ("MOST_PART" : Str)) (i := 200) KX G ?a
    (case a => k_is)
  have g_MOST_PRICE := by
    refine' TS.globK_int (x := ("MOST_PRICE" : Str)) (i := 1000000000000000000000000000000) KX G ?a
    (case a => k_is)
  have g_MOST_STEPS := by
    refine' TS.globK_int (x := ("MOST_STEPS" : Str)) (i := 6) KX G ?a
    (case a => k_is)
  have g_PART := by
    refine' TS.globK_str (x := ("PART" : Str)) (s := ("part" : Str)) KX G ?a
    (case a => k_is)
  have g_RULES := by
    refine' TS.globK_str3 (x := ("RULES" : Str)) (s1 := ("down" : Str)) (s2 := ("up" : Str)) (s3 := ("near" : Str)) KX G ?a ?l
    (case a => k_is); (case l => k_is)
  have g_UP := by
    refine' TS.globK_str (x := ("UP" : Str)) (s := ("up" : Str)) KX G ?a
    (case a => k_is)
  have g_WHOLE := by
    refine' TS.globK_int (x := ("WHOLE" : Str)) (i := 100) KX G ?a
    (case a => k_is)
  have ex_BadSteps := fun (base : Heap) => by
    refine' TS.exK_mk (P := PySem.Challenge.rw_tillsteps_k01_steps_refused.prog) (w := w) (base := base) (x := ("BadSteps" : Str)) (fld := ("index" : Str)) KX G ?a ?lc ?hbm ?sa ?exC ?tyC ?kC ?iC ?tI ?lk ?hcd ?hno ?hp ?har ?hcode ?hvs ?hfile ?hcell ?hsub ?hsuper ?hm ?hB ?hop ?htop ?hf1 ?hks ?hkc ?hka ?hkf ?hfree ?hcel ?hdb ?hcld ?hev ?hco ?hgen ?hk ?hbd
    (case a => k_is)
    (case lc => k_is)
    (case iC => k_is)
    (case lk => k_is)
    (case hcode => k_is)
    (case hcell => k_is)
    (case sa => k_is)
    (case exC => k_is)
    (case tyC => k_is)
    (case kC => k_is)
    (case tI => k_is)
    (case hcd => k_is)
    (case hno => k_is)
    (case hsub => k_is)
    (case hsuper => k_is)
    (case hm => ks_is)
    (case hB => k_is)
    (case hop => k_is)
    (case hbm => rfl)
    (case hp => rfl)
    (case har => rfl)
    (case hvs => rfl)
    (case hks => rfl)
    (case hkc => rfl)
    (case hka => rfl)
    (case hkf => rfl)
    (case hfree => rfl)
    (case hcel => rfl)
    (case hco => rfl)
    (case hgen => rfl)
    (case hk => rfl)
    (case hf1 => decide)
    (case hdb => decide)
    (case hcld => decide)
    (case hfile => first | rfl | decide +kernel)
    (case htop => first | rfl | decide +kernel)
    (case hev => exact fun L => rfl)
    (case hbd => exact (fun us hl => match us, hl with | [_, _], _ => rfl))
  have xc_BadSteps := fun (base : Heap) => by
    refine' TS.xcAt_mk (P := PySem.Challenge.rw_tillsteps_k01_steps_refused.prog) (w := w) (base := base) (x := ("BadSteps" : Str)) (sup := ("TillError" : Str)) (flds := [("index" : Str)]) KX G ?a ?b ?ga ?gg ?exC ?hdC ?cl ?ha ?hn ?ht ?hm ?exm ?kt ?fl
    (case a => k_is)
    (case b => k_is)
    (case ga => k_is)
    (case gg => k_is)
    (case exC => k_is)
    (case hdC => k_is)
    (case cl => kernel_rfl)
    (case ha => k_is)
    (case hn => k_is)
    (case ht => k_is)
    (case hm => k_is)
    (case exm => kts_exm)
    (case kt => kit_is)
    (case fl => intro F hF; simp only [List.mem_cons, List.not_mem_nil, or_false] at hF; subst hF; k_is)
  have F__law_round := by
    refine' TS.funK_mk (x := ("_law_round" : Str)) (st := TS.L.s__law_round) (ps := [("_law_over" : Str), ("_law_under" : Str), ("_law_rule" : Str)]) KX G ?a ?l ?c ?k (fun _ _ _ _ _ _ us hl => match us, hl with | [_, _, _], _ => rfl)
    (case a => k_is); (case l => k_is); (case c => k_is); (case k => k_is)
  have F__law_paid := by
    refine' TS.funK_mk (x := ("_law_paid" : Str)) (st := TS.L.s__law_paid) (ps := [("_law_steps_here" : Str), ("_law_price" : Str)]) KX G ?a ?l ?c ?k (fun _ _ _ _ _ _ us hl => match us, hl with | [_, _], _ => rfl)
    (case a => k_is); (case l => k_is); (case c => k_is); (case k => k_is)
  have F_rounded := by
    refine' TS.funK_mk (x := ("rounded" : Str)) (st := TS.L.s_rounded) (ps := [("over" : Str), ("under" : Str), ("rule" : Str)]) KX G ?a ?l ?c ?k (fun _ _ _ _ _ _ us hl => match us, hl with | [_, _, _], _ => rfl)
    (case a => k_is); (case l => k_is); (case c => k_is); (case k => k_is)
  have F_behind := by
    refine' TS.funK_mk (x := ("behind" : Str)) (st := TS.L.s_behind) (ps := [("step" : Str), ("price" : Str)]) KX G ?a ?l ?c ?k (fun _ _ _ _ _ _ us hl => match us, hl with | [_, _], _ => rfl)
    (case a => k_is); (case l => k_is); (case c => k_is); (case k => k_is)
  have F_paid := by
    refine' TS.funK_mk (x := ("paid" : Str)) (st := TS.L.s_paid) (ps := [("steps" : Str), ("price" : Str)]) KX G ?a ?l ?c ?k (fun _ _ _ _ _ _ us hl => match us, hl with | [_, _], _ => rfl)
    (case a => k_is); (case l => k_is); (case c => k_is); (case k => k_is)
  have F_is_integer := by
    refine' TS.funK_mk (x := ("is_integer" : Str)) (st := TS.L.s_is_integer) (ps := [("thing" : Str), ("low" : Str), ("high" : Str)]) KX G ?a ?l ?c ?k (fun _ _ _ _ _ _ us hl => match us, hl with | [_, _, _], _ => rfl)
    (case a => k_is); (case l => k_is); (case c => k_is); (case k => k_is)
  have F_check_price := by
    refine' TS.funK_mk (x := ("check_price" : Str)) (st := TS.L.s_check_price) (ps := [("thing" : Str)]) KX G ?a ?l ?c ?k (fun _ _ _ _ _ _ us hl => match us, hl with | [_], _ => rfl)
    (case a => k_is); (case l => k_is); (case c => k_is); (case k => k_is)
  have F_is_rule := by
    refine' TS.funK_mk (x := ("is_rule" : Str)) (st := TS.L.s_is_rule) (ps := [("thing" : Str)]) KX G ?a ?l ?c ?k (fun _ _ _ _ _ _ us hl => match us, hl with | [_], _ => rfl)
    (case a => k_is); (case l => k_is); (case c => k_is); (case k => k_is)
  have F_is_step := by
    refine' TS.funK_mk (x := ("is_step" : Str)) (st := TS.L.s_is_step) (ps := [("thing" : Str)]) KX G ?a ?l ?c ?k (fun _ _ _ _ _ _ us hl => match us, hl with | [_], _ => rfl)
    (case a => k_is); (case l => k_is); (case c => k_is); (case k => k_is)
  have F_check_steps := by
    refine' TS.funK_mk (x := ("check_steps" : Str)) (st := TS.L.s_check_steps) (ps := [("thing" : Str)]) KX G ?a ?l ?c ?k (fun _ _ _ _ _ _ us hl => match us, hl with | [_], _ => rfl)
    (case a => k_is); (case l => k_is); (case c => k_is); (case k => k_is)
  have F_pay := by
    refine' TS.funK_mk (x := ("pay" : Str)) (st := TS.L.s_pay) (ps := [("steps" : Str), ("price" : Str)]) KX G ?a ?l ?c ?k (fun _ _ _ _ _ _ us hl => match us, hl with | [_, _], _ => rfl)
    (case a => k_is); (case l => k_is); (case c => k_is); (case k => k_is)
  have F__law_tried := by
    refine' TS.funK_mk (x := ("_law_tried" : Str)) (st := TS.L.s__law_tried) (ps := [("_law_steps_here" : Str), ("_law_price" : Str)]) KX G ?a ?l ?c ?k (fun _ _ _ _ _ _ us hl => match us, hl with | [_, _], _ => rfl)
    (case a => k_is); (case l => k_is); (case c => k_is); (case k => k_is)
  have F__law_alike := by
    refine' TS.funK_mk (x := ("_law_alike" : Str)) (st := TS.L.s__law_alike) (ps := [("_law_found" : Str), ("_law_due" : Str)]) KX G ?a ?l ?c ?k (fun _ _ _ _ _ _ us hl => match us, hl with | [_, _], _ => rfl)
    (case a => k_is); (case l => k_is); (case c => k_is); (case k => k_is)
  have F__law_whole := by
    refine' TS.funK_mk (x := ("_law_whole" : Str)) (st := TS.L.s__law_whole) (ps := [("_law_thing" : Str), ("_law_low" : Str), ("_law_high" : Str)]) KX G ?a ?l ?c ?k (fun _ _ _ _ _ _ us hl => match us, hl with | [_, _, _], _ => rfl)
    (case a => k_is); (case l => k_is); (case c => k_is); (case k => k_is)
  have F__law_is_step := by
    refine' TS.funK_mk (x := ("_law_is_step" : Str)) (st := TS.L.s__law_is_step) (ps := [("_law_thing" : Str)]) KX G ?a ?l ?c ?k (fun _ _ _ _ _ _ us hl => match us, hl with | [_], _ => rfl)
    (case a => k_is); (case l => k_is); (case c => k_is); (case k => k_is)
  have F__law_next := by
    refine' TS.funK_mk (x := ("_law_next" : Str)) (st := TS.L.s__law_next) (ps := [("_law_h" : Str), ("_law_cap" : Str)]) KX G ?a ?l ?c ?k (fun _ _ _ _ _ _ us hl => match us, hl with | [_, _], _ => rfl)
    (case a => k_is); (case l => k_is); (case c => k_is); (case k => k_is)
  have F__law_pick := by
    refine' TS.funK_mk (x := ("_law_pick" : Str)) (st := TS.L.s__law_pick) (ps := [("_law_h" : Str), ("_law_things" : Str)]) KX G ?a ?l ?c ?k (fun _ _ _ _ _ _ us hl => match us, hl with | [_, _], _ => rfl)
    (case a => k_is); (case l => k_is); (case c => k_is); (case k => k_is)
  have F__law_step := by
    refine' TS.funK_mk (x := ("_law_step" : Str)) (st := TS.L.s__law_step) (ps := [("_law_h" : Str)]) KX G ?a ?l ?c ?k (fun _ _ _ _ _ _ us hl => match us, hl with | [_], _ => rfl)
    (case a => k_is); (case l => k_is); (case c => k_is); (case k => k_is)
  have F__law_steps := by
    refine' TS.funK_mk (x := ("_law_steps" : Str)) (st := TS.L.s__law_steps) (ps := [("_law_h" : Str), ("_law_most" : Str)]) KX G ?a ?l ?c ?k (fun _ _ _ _ _ _ us hl => match us, hl with | [_, _], _ => rfl)
    (case a => k_is); (case l => k_is); (case c => k_is); (case k => k_is)
  have F__law_mix := by
    refine' TS.funK_mk (x := ("_law_mix" : Str)) (st := TS.L.s__law_mix) (ps := [("_law_script" : Str), ("_law_seed" : Str)]) KX G ?a ?l ?c ?k (fun _ _ _ _ _ _ us hl => match us, hl with | [_, _], _ => rfl)
    (case a => k_is); (case l => k_is); (case c => k_is); (case k => k_is)
  refine' TS.law_mk (st := TS.L.s_law) KX G hmg ?a ?l ?c ?k (fun _ _ _ _ _ _ _ _ => .of_eq rfl) ?ok
  (case a => k_is); (case l => k_is); (case c => k_is); (case k => k_is)
  case ok =>
    intro fd base F
    exact TS.L.ok_law (Z := ⟨_, w, _, mg, base, TS.axOf _⟩) ⟨m_bool, m_enumerate, m_int, m_isinstance, m_len, m_list, m_max, m_min, m_range, m_str, m_tuple, g_ADD, g_DOWN, g_EVEN, g_LEAST, g_MOST, g_MOST_ADD, g_MOST_BOUND, g_MOST_EVEN, g_MOST_PART, g_MOST_PRICE, g_MOST_STEPS, g_PART, g_RULES, g_UP, g_WHOLE⟩ ⟨trivial, ex_BadSteps base, xc_BadSteps base⟩ F__law_round F__law_paid F_rounded F_behind F_paid F_is_integer F_check_price F_is_rule F_is_step F_check_steps F_pay F__law_tried F__law_alike F__law_whole F__law_is_step F__law_next F__law_pick F__law_step F__law_steps F__law_mix F
