import PyProof.Rows.All
import Wide.All
import OpenK.AllK
import Wide.FinOn
import HandS.ForMost
import HandS.Zip
import HandS.Star
import HandS.Walk
import HandS.IsInst
import KE.GoesZip
import KE.GoesEnum
import KE.GoesMore
import HandS.TupAny
import HandS.Style
import HandS.Conv
import HandS.Defaults
import PySem.Challenge.RW_keepsenough_k28_known_heads_by_formula
set_option Elab.async false
set_option linter.all false
set_option maxRecDepth 100000
set_option maxHeartbeats 4000000
namespace DL
open PySem PySem.Spec PyProof.Rows L2

/-! ### values without a heap -/
inductive D where
  | non
  | bl (b : Bool)
  | int (i : Int)
  | str (x : Str)
  | tup (l : List D)
  | lst (l : List D)
  | obj (C : Addr) (ns : List Str) (l : List D)

mutual
inductive At (K : PySem.W.Frag) (F : Hp) : D → V → Prop
  | non : At K F .non .non
  | bl (b : Bool) : At K F (.bl b) (.bl b)
  | int (i : Int) : At K F (.int i) (.int i)
  | str (x : Str) : At K F (.str x) (.str x)
  | tup {a : Addr} {vs : List V} {ds : List D} : SqT K F a vs → AtL K F ds vs → At K F (.tup ds) (.ref a)
  | lst {a : Addr} {vs : List V} {ds : List D} : F a = some (.lst vs) → AtL K F ds vs → At K F (.lst ds) (.ref a)
  | obj {a dx C : Addr} {ns : List Str} {fs : List (Str × V)} {ds : List D} : F a = some (.ins C dx fs) → fs.map (·.1) = ns → AtL K F ds (fs.map (·.2)) → At K F (.obj C ns ds) (.ref a)
inductive AtL (K : PySem.W.Frag) (F : Hp) : List D → List V → Prop
  | nil : AtL K F [] []
  | cons {d : D} {ds : List D} {v : V} {vs : List V} : At K F d v → AtL K F ds vs → AtL K F (d :: ds) (v :: vs)
end

theorem same_t {K : PySem.W.Frag} {H H' : Hp} {a : Addr} {xs : List V} (e : Same H H') (h : SqT K H a xs) : SqT K H' a xs := by
  rcases h with (h | ⟨o, h⟩) | h
  · exact .inl (.inl (e _ _ h))
  · exact .inl (.inr ⟨o, e _ _ h⟩)
  · exact .inr h

section
variable {K : PySem.W.Frag} {F F' : Hp}
mutual
theorem At.mono (e : Same F F') : ∀ (d : D) (v : V), At K F d v → At K F' d v
  | .non, _, h => by cases h; exact .non
  | .bl b, _, h => by cases h; exact .bl b
  | .int i, _, h => by cases h; exact .int i
  | .str x, _, h => by cases h; exact .str x
  | .tup ds, _, h => by
    cases h with
    | tup hs ha => exact .tup (same_t e hs) (AtL.mono e ds _ ha)
  | .lst ds, _, h => by
    cases h with
    | lst hs ha => exact .lst (e _ _ hs) (AtL.mono e ds _ ha)
  | .obj C ns ds, _, h => by
    cases h with
    | obj hs hn ha => exact .obj (e _ _ hs) hn (AtL.mono e ds _ ha)
theorem AtL.mono (e : Same F F') : ∀ (ds : List D) (vs : List V), AtL K F ds vs → AtL K F' ds vs
  | [], _, h => by cases h; exact .nil
  | d :: ds, _, h => by
    cases h with
    | cons h1 h2 => exact .cons (At.mono e d _ h1) (AtL.mono e ds _ h2)
end
theorem At.up {d : D} {v : V} (h : At K F d v) (e : Same F F') : At K F' d v := At.mono e d v h
theorem AtL.up {ds : List D} {vs : List V} (h : AtL K F ds vs) (e : Same F F') : AtL K F' ds vs := AtL.mono e ds vs h
theorem AtL.length : ∀ {ds : List D} {vs : List V}, AtL K F ds vs → ds.length = vs.length
  | _, _, .nil => rfl
  | _, _, .cons _ h => by rw [List.length_cons, List.length_cons, h.length]
theorem AtL.get : ∀ {ds : List D} {vs : List V} {i : Nat} {d : D}, AtL K F ds vs → ds[i]? = some d → ∃ v, vs[i]? = some v ∧ At K F d v
  | _, _, _, _, .nil, e => by simp at e
  | _, _, 0, _, .cons r _, e => by simp at e; subst e; exact ⟨_, rfl, r⟩
  | _, _, i + 1, d, .cons _ t, e => by
    obtain ⟨u, h1, h2⟩ := AtL.get (i := i) (d := d) t (by simpa using e)
    exact ⟨u, by simpa using h1, h2⟩
theorem AtL.append : ∀ {ds es : List D} {vs us : List V}, AtL K F ds vs → AtL K F es us → AtL K F (ds ++ es) (vs ++ us)
  | _, _, _, _, .nil, s => s
  | _, _, _, _, .cons r t, s => .cons r (AtL.append t s)
theorem AtL.take : ∀ {ds : List D} {vs : List V} (n : Nat), AtL K F ds vs → AtL K F (ds.take n) (vs.take n)
  | _, _, 0, _ => .nil
  | _, _, _ + 1, .nil => .nil
  | _, _, n + 1, .cons r t => .cons r (AtL.take n t)
theorem AtL.drop : ∀ {ds : List D} {vs : List V} (n : Nat), AtL K F ds vs → AtL K F (ds.drop n) (vs.drop n)
  | _, _, 0, r => r
  | _, _, _ + 1, .nil => .nil
  | _, _, n + 1, .cons _ t => AtL.drop n t
theorem AtL.set {d : D} {v : V} (r : At K F d v) : ∀ {ds : List D} {vs : List V} (i : Nat), AtL K F ds vs → AtL K F (ds.set i d) (vs.set i v)
  | _, _, _, .nil => .nil
  | _, _, 0, .cons _ t => .cons r t
  | _, _, i + 1, .cons q t => .cons q (AtL.set r i t)
theorem AtL.rep {ds : List D} {vs : List V} (h : AtL K F ds vs) : ∀ k : Nat, AtL K F (List.replicate k ds).flatten (List.replicate k vs).flatten
  | 0 => .nil
  | k + 1 => by
    rw [List.replicate_succ, List.replicate_succ, List.flatten_cons, List.flatten_cons]
    exact h.append (AtL.rep h k)
theorem AtL.ints : ∀ (ns : List Int), AtL K F (ns.map D.int) (ns.map V.int)
  | [] => .nil
  | n :: r => .cons (.int n) (AtL.ints r)
theorem AtL.ints_inv : ∀ {ns : List Int} {vs : List V}, AtL K F (ns.map D.int) vs → vs = ns.map V.int
  | [], _, h => by cases h; rfl
  | n :: r, _, h => by
    cases h with
    | cons h1 h2 =>
      cases h1
      rw [AtL.ints_inv (ns := r) h2]
      rfl
theorem AtL.bls_inv : ∀ {ns : List Bool} {vs : List V}, AtL K F (ns.map D.bl) vs → vs = ns.map V.bl
  | [], _, h => by cases h; rfl
  | n :: r, _, h => by
    cases h with
    | cons h1 h2 =>
      cases h1
      rw [AtL.bls_inv (ns := r) h2]
      rfl
end

/-! ### bindings and the state -/
inductive B where
  /-- nothing is known -/
  | un
  /-- a value that does not change -/
  | val (d : D)
  /-- a list that this frame alone knows -/
  | own (l : List D)
  /-- an instance that is being made, at p -/
  | ins (p C : Addr) (ns : List Str) (l : List D)
  /-- what draws, at p: at most k cells were begun -/
  | pen (p : Addr) (k : Nat)
abbrev Env := List B
def mine : B → Bool
  | .own _ => true
  | .ins _ _ _ _ => true
  | .pen _ _ => true
  | _ => false

structure Bs where
  H0 : Hp
  F0 : Hp
  M : Addr → Prop

structure Fb (b : Bs) (H F : Hp) : Prop where
  sub : Same F H
  ext : Same b.F0 F
  new : ∀ a o, F a = some o → b.F0 a = some o ∨ b.H0 a = none ∨ b.M a
  keep : ∀ a o, b.H0 a = some o → ¬ b.M a → H a = some o
  there : ∀ a, H a = none → b.H0 a = none

def PenAt (H F : Hp) (p : Addr) (k : Nat) : Prop :=
  ∃ (c : Addr) (cells : List Int) (at' r : Int), H p = some (.lst [.ref c, .int at', .int r]) ∧ F p = none ∧ F c = some (.lst (cells.map V.int)) ∧ cells.length ≤ 63 ∧ 0 ≤ at' ∧ at' ≤ k ∧ 0 ≤ r

def SlotOk (K : PySem.W.Frag) (b : Bs) (H F : Hp) (x : Option V) : B → Prop
  | .un => True
  | .val d => ∃ v, x = some v ∧ At K F d v
  | .own l => ∃ p vs, x = some (.ref p) ∧ H p = some (.lst vs) ∧ F p = none ∧ (b.H0 p = none ∨ b.M p) ∧ AtL K F l vs
  | .ins p C ns l => x = some (.ref p) ∧ (b.H0 p = none ∨ b.M p) ∧ F p = none ∧ ∃ dx fs, H p = some (.ins C dx fs) ∧ fs.map (·.1) = ns ∧ AtL K F l (fs.map (·.2))
  | .pen p k => x = some (.ref p) ∧ (b.H0 p = none ∨ b.M p) ∧ PenAt H F p k

structure StOk (K : PySem.W.Frag) (b : Bs) (σ : L2.St) (H F : Hp) (ρ : Env) : Prop where
  fb : Fb b H F
  len : ρ.length = σ.length
  slot : ∀ (i : Nat) (x : B) (y : Option V), ρ[i]? = some x → σ[i]? = some y → SlotOk K b H F y x
  sep : ∀ (i j : Nat) (x y : B) (p : Addr), i ≠ j → ρ[i]? = some x → ρ[j]? = some y → mine x = true → mine y = true → σ[i]? = some (some (.ref p)) → σ[j]? = some (some (.ref p)) → False

/-- nothing that stood is changed; what is new in F is new in H -/
structure Grow (F H F' H' : Hp) : Prop where
  f : Same F F'
  h : Same H H'
  sub : Same F' H'
  new : ∀ a o, F' a = some o → F a = some o ∨ H a = none

theorem same_new {H : Hp} {p : Addr} {o : HO} (h : H p = none) : Same H (upd H p o) := fun b x e => by
  rw [upd_ne (ne_of_none e h)]
  exact e
theorem Grow.refl {F H : Hp} (s : Same F H) : Grow F H F H := ⟨Same.refl _, Same.refl _, s, fun _ _ h => .inl h⟩
theorem Grow.trans {F H F1 H1 F2 H2 : Hp} (a : Grow F H F1 H1) (b : Grow F1 H1 F2 H2) : Grow F H F2 H2 :=
  ⟨a.f.trans b.f, a.h.trans b.h, b.sub, fun x o e => by
    rcases b.new x o e with h | h
    · exact a.new x o h
    · exact .inr (a.h.free h)⟩
theorem Grow.add {F H : Hp} {p : Addr} {o : HO} (s : Same F H) (h : H p = none) : Grow F H (upd F p o) (upd H p o) := by
  refine ⟨same_new (s.free h), same_new h, fun a x e => ?_, fun a x e => ?_⟩
  · by_cases q : a = p
    · subst q; rw [upd_same] at e ⊢; exact e
    · rw [upd_ne q] at e ⊢; exact s _ _ e
  · by_cases q : a = p
    · subst q; exact .inr h
    · rw [upd_ne q] at e; exact .inl e
/-- a new object that is not frozen -/
theorem Grow.tmp {F H : Hp} {p : Addr} {o : HO} (s : Same F H) (h : H p = none) : Grow F H F (upd H p o) :=
  ⟨Same.refl _, same_new h, s.trans (same_new h), fun a x e => .inl e⟩
theorem Grow.none {F H F' H' : Hp} (g : Grow F H F' H') {p : Addr} {o : HO} (h : H p = some o) (n : F p = Option.none) : F' p = Option.none := by
  cases e : F' p with
  | none => rfl
  | some x =>
    rcases g.new p x e with q | q
    · rw [n] at q; cases q
    · rw [h] at q; cases q

section
variable {K : PySem.W.Frag} {b : Bs} {σ : L2.St} {H F H' F' : Hp} {ρ : Env}
theorem Fb.grow (f : Fb b H F) (g : Grow F H F' H') : Fb b H' F' :=
  ⟨g.sub, f.ext.trans g.f, fun a o e => by
    rcases g.new a o e with q | q
    · exact f.new a o q
    · exact .inr (.inl (f.there a q)), fun a o e m => g.h _ _ (f.keep a o e m), fun a e => f.there a (g.h.free e)⟩
theorem SlotOk.grow {x : Option V} {y : B} (h : SlotOk K b H F x y) (g : Grow F H F' H') : SlotOk K b H' F' x y := by
  cases y with
  | un => trivial
  | val d => obtain ⟨v, e, a⟩ := h; exact ⟨v, e, a.up g.f⟩
  | own l => obtain ⟨p, vs, e, h1, h2, h3, h4⟩ := h; exact ⟨p, vs, e, g.h _ _ h1, g.none h1 h2, h3, h4.up g.f⟩
  | ins p C ns l => obtain ⟨e, m, h1, dx, fs, h2, h3, h4⟩ := h; exact ⟨e, m, g.none h2 h1, dx, fs, g.h _ _ h2, h3, h4.up g.f⟩
  | pen p k => obtain ⟨e, m, c, cells, a, r, h1, h2, h3, h4⟩ := h; exact ⟨e, m, c, cells, a, r, g.h _ _ h1, g.none h1 h2, g.f _ _ h3, h4⟩
theorem StOk.grow (h : StOk K b σ H F ρ) (g : Grow F H F' H') : StOk K b σ H' F' ρ :=
  ⟨h.fb.grow g, h.len, fun i x y e1 e2 => (h.slot i x y e1 e2).grow g, h.sep⟩
/-- what is mine stands at an address that F does not know -/
theorem SlotOk.free {x : Option V} {y : B} {p : Addr} (h : SlotOk K b H F x y) (m : mine y = true) (e : x = some (.ref p)) : F p = none ∧ (∃ o, H p = some o ∧ Mut (some o)) ∧ (b.H0 p = none ∨ b.M p) := by
  cases y with
  | un => cases m
  | val d => cases m
  | own l => obtain ⟨q, vs, e', h1, h2, h3, h4⟩ := h; rw [e] at e'; cases e'; exact ⟨h2, ⟨_, h1, trivial⟩, h3⟩
  | ins q C ns l => obtain ⟨e', m', h1, dx, fs, h2, _⟩ := h; rw [e] at e'; cases e'; exact ⟨h1, ⟨_, h2, trivial⟩, m'⟩
  | pen q k => obtain ⟨e', m', c, cells, a, r, h1, h2, _⟩ := h; rw [e] at e'; cases e'; exact ⟨h2, ⟨_, h1, trivial⟩, m'⟩
theorem SlotOk.addr {x : Option V} {y : B} (h : SlotOk K b H F x y) (m : mine y = true) : ∃ p, x = some (.ref p) := by
  cases y with
  | un => cases m
  | val d => cases m
  | own l => obtain ⟨q, vs, e', _⟩ := h; exact ⟨q, e'⟩
  | ins q C ns l => exact ⟨q, h.1⟩
  | pen q k => exact ⟨q, h.1⟩
/-- a slot is set to a value that does not change -/
theorem StOk.setVal {i : Nat} {d : D} {v : V} (h : StOk K b σ H F ρ) (a : At K F d v) : StOk K b (σ.set i (some v)) H F (ρ.set i (.val d)) := by
  refine ⟨h.fb, by simpa using h.len, fun j x y e1 e2 => ?_, fun j k x y p n e1 e2 m1 m2 s1 s2 => ?_⟩
  · by_cases q : i = j
    · subst q
      have l1 : i < ρ.length := by
        have := (List.getElem?_eq_some_iff.mp e1).1
        simpa using this
      have l2 : i < σ.length := by rw [← h.len]; exact l1
      rw [List.getElem?_set_self l1] at e1
      rw [List.getElem?_set_self l2] at e2
      cases e1; cases e2
      exact ⟨v, rfl, a⟩
    · rw [List.getElem?_set_ne q] at e1 e2
      exact h.slot j x y e1 e2
  · have mv : ∀ {z : Nat} {t : B}, (ρ.set i (.val d))[z]? = some t → mine t = true → i ≠ z := fun {z t} e m q => by
      subst q
      have l1 : i < ρ.length := by
        have := (List.getElem?_eq_some_iff.mp e).1
        simpa using this
      rw [List.getElem?_set_self l1] at e
      cases e; cases m
    have q1 := mv e1 m1
    have q2 := mv e2 m2
    rw [List.getElem?_set_ne q1] at e1 s1
    rw [List.getElem?_set_ne q2] at e2 s2
    exact h.sep j k x y p n e1 e2 m1 m2 s1 s2
/-- p is the address of nothing that is mine -/
def Apart (σ : L2.St) (ρ : Env) (p : Addr) : Prop := ∀ (i : Nat) (x : B), ρ[i]? = some x → mine x = true → σ[i]? = some (some (.ref p)) → False
theorem StOk.apart (h : StOk K b σ H F ρ) {p : Addr} (n : H p = none) : Apart σ ρ p := fun i x e m s => by
  obtain ⟨_, ⟨o, e', _⟩, _⟩ := (h.slot i x _ e s).free m rfl
  rw [n] at e'; cases e'
/-- a slot is set to something that is mine -/
theorem StOk.setMine {i : Nat} {x : B} {p : Addr} (h : StOk K b σ H F ρ) (s : SlotOk K b H F (some (.ref p)) x) (ap : ∀ (j : Nat) (y : B), j ≠ i → ρ[j]? = some y → mine y = true → σ[j]? = some (some (.ref p)) → False) :
    StOk K b (σ.set i (some (.ref p))) H F (ρ.set i x) := by
  refine ⟨h.fb, by simpa using h.len, fun j u y e1 e2 => ?_, fun j k u y q n e1 e2 m1 m2 s1 s2 => ?_⟩
  · by_cases q : i = j
    · subst q
      have l1 : i < ρ.length := by
        have := (List.getElem?_eq_some_iff.mp e1).1
        simpa using this
      have l2 : i < σ.length := by rw [← h.len]; exact l1
      rw [List.getElem?_set_self l1] at e1
      rw [List.getElem?_set_self l2] at e2
      cases e1; cases e2
      exact s
    · rw [List.getElem?_set_ne q] at e1 e2
      exact h.slot j u y e1 e2
  · by_cases q1 : i = j
    · subst q1
      have l1 : i < ρ.length := by
        have := (List.getElem?_eq_some_iff.mp e1).1
        simpa using this
      have l2 : i < σ.length := by rw [← h.len]; exact l1
      rw [List.getElem?_set_self l2] at s1
      cases s1
      rw [List.getElem?_set_ne n] at e2 s2
      exact ap k y (Ne.symm n) e2 m2 s2
    · rw [List.getElem?_set_ne q1] at e1 s1
      by_cases q2 : i = k
      · subst q2
        have l1 : i < ρ.length := by
          have := (List.getElem?_eq_some_iff.mp e2).1
          simpa using this
        have l2 : i < σ.length := by rw [← h.len]; exact l1
        rw [List.getElem?_set_self l2] at s2
        cases s2
        exact ap j u (fun z => q1 z.symm) e1 m1 s1
      · rw [List.getElem?_set_ne q2] at e2 s2
        exact h.sep j k u y q n e1 e2 m1 m2 s1 s2
/-- a slot is forgotten -/
theorem StOk.setUn {i : Nat} {z : Option V} (h : StOk K b σ H F ρ) : StOk K b (σ.set i z) H F (ρ.set i .un) := by
  refine ⟨h.fb, by simpa using h.len, fun j x y e1 e2 => ?_, fun j k x y p n e1 e2 m1 m2 s1 s2 => ?_⟩
  · by_cases q : i = j
    · subst q
      have l1 : i < ρ.length := by
        have := (List.getElem?_eq_some_iff.mp e1).1
        simpa using this
      rw [List.getElem?_set_self l1] at e1
      cases e1
      trivial
    · rw [List.getElem?_set_ne q] at e1 e2
      exact h.slot j x y e1 e2
  · have mv : ∀ {z : Nat} {t : B}, (ρ.set i .un)[z]? = some t → mine t = true → i ≠ z := fun {z t} e m q => by
      subst q
      have l1 : i < ρ.length := by
        have := (List.getElem?_eq_some_iff.mp e).1
        simpa using this
      rw [List.getElem?_set_self l1] at e
      cases e; cases m
    have q1 := mv e1 m1
    have q2 := mv e2 m2
    rw [List.getElem?_set_ne q1] at e1 s1
    rw [List.getElem?_set_ne q2] at e2 s2
    exact h.sep j k x y p n e1 e2 m1 m2 s1 s2
/-- something of mine is changed in place -/
theorem StOk.write {i : Nat} {x : B} {p : Addr} {o : HO} (h : StOk K b σ H F ρ) (hi : σ[i]? = some (some (.ref p))) (hm : ∃ y, ρ[i]? = some y ∧ mine y = true)
    (s : SlotOk K b (upd H p o) F (some (.ref p)) x) : StOk K b σ (upd H p o) F (ρ.set i x) := by
  obtain ⟨y0, ey0, my0⟩ := hm
  obtain ⟨fp, ⟨o0, ho0, _⟩, bp⟩ := (h.slot i y0 _ ey0 hi).free my0 rfl
  have hne : ∀ j u y, j ≠ i → ρ[j]? = some u → σ[j]? = some y → SlotOk K b H F y u → SlotOk K b (upd H p o) F y u := fun j u y n e1 e2 sl => by
    cases u with
    | un => trivial
    | val d => exact sl
    | own l =>
      obtain ⟨q, vs, e, h1, h2, h3, h4⟩ := sl
      subst e
      have np : q ≠ p := fun z => by subst z; exact h.sep j i _ _ q n e1 ey0 rfl my0 e2 hi
      exact ⟨q, vs, rfl, by rw [upd_ne np]; exact h1, h2, h3, h4⟩
    | ins q C ns l =>
      obtain ⟨e, m, h1, dx, fs, h2, h3⟩ := sl
      subst e
      have np : q ≠ p := fun z => by subst z; exact h.sep j i _ _ q n e1 ey0 rfl my0 e2 hi
      exact ⟨rfl, m, h1, dx, fs, by rw [upd_ne np]; exact h2, h3⟩
    | pen q k =>
      obtain ⟨e, m, c, cells, a, r, h1, h2⟩ := sl
      subst e
      have np : q ≠ p := fun z => by subst z; exact h.sep j i _ _ q n e1 ey0 rfl my0 e2 hi
      exact ⟨rfl, m, c, cells, a, r, by rw [upd_ne np]; exact h1, h2⟩
  refine ⟨⟨fun a u e => ?_, h.fb.ext, h.fb.new, fun a u e m => ?_, fun a e => ?_⟩, by simpa using h.len, fun j u y e1 e2 => ?_, fun j k u y q n e1 e2 m1 m2 s1 s2 => ?_⟩
  · have np : a ≠ p := fun z => by subst z; rw [fp] at e; cases e
    rw [upd_ne np]; exact h.fb.sub _ _ e
  · have np : a ≠ p := fun z => by
      subst z
      rcases bp with z | z
      · rw [z] at e; cases e
      · exact m z
    rw [upd_ne np]; exact h.fb.keep _ _ e m
  · have np : a ≠ p := fun z => by subst z; rw [upd_same] at e; cases e
    rw [upd_ne np] at e; exact h.fb.there _ e
  · by_cases q : i = j
    · subst q
      have l1 : i < ρ.length := (List.getElem?_eq_some_iff.mp ey0).1
      rw [List.getElem?_set_self l1] at e1
      rw [hi] at e2
      cases e1; cases e2
      exact s
    · rw [List.getElem?_set_ne q] at e1
      exact hne j u y (fun z => q z.symm) e1 e2 (h.slot j u y e1 e2)
  · have l1 : i < ρ.length := (List.getElem?_eq_some_iff.mp ey0).1
    have back : ∀ {z : Nat} {t : B}, (ρ.set i x)[z]? = some t → mine t = true → ∃ t', ρ[z]? = some t' ∧ mine t' = true := fun {z t} e m => by
      by_cases q' : i = z
      · subst q'; exact ⟨y0, ey0, my0⟩
      · rw [List.getElem?_set_ne q'] at e; exact ⟨t, e, m⟩
    obtain ⟨t1, f1, g1⟩ := back e1 m1
    obtain ⟨t2, f2, g2⟩ := back e2 m2
    exact h.sep j k t1 t2 q n f1 f2 g1 g2 s1 s2
/-- a list of mine is frozen -/
theorem StOk.freeze {i : Nat} {p : Addr} {l : List D} (h : StOk K b σ H F ρ) (hi : σ[i]? = some (some (.ref p))) (hl : ρ[i]? = some (.own l)) :
    ∃ F', Same F F' ∧ At K F' (.lst l) (.ref p) ∧ StOk K b σ H F' (ρ.set i (.val (.lst l))) := by
  obtain ⟨q, vs, e, h1, h2, h3, h4⟩ := h.slot i _ _ hl hi
  cases e
  have sf : Same F (upd F p (.lst vs)) := same_new h2
  have at' : At K (upd F p (.lst vs)) (.lst l) (.ref p) := .lst upd_same (h4.up sf)
  refine ⟨upd F p (.lst vs), sf, at', ?_⟩
  have i1 : i < ρ.length := (List.getElem?_eq_some_iff.mp hl).1
  refine ⟨⟨fun a o e => ?_, h.fb.ext.trans sf, fun a o e => ?_, h.fb.keep, h.fb.there⟩, by simpa using h.len, fun j u y e1 e2 => ?_, fun j k u y q n e1 e2 m1 m2 s1 s2 => ?_⟩
  · by_cases z : a = p
    · subst z; rw [upd_same] at e; cases e; exact h1
    · rw [upd_ne z] at e; exact h.fb.sub _ _ e
  · by_cases z : a = p
    · subst z
      rcases h3 with h3 | h3
      · exact .inr (.inl h3)
      · exact .inr (.inr h3)
    · rw [upd_ne z] at e; exact h.fb.new _ _ e
  · by_cases z : i = j
    · subst z
      rw [List.getElem?_set_self i1] at e1
      rw [hi] at e2
      cases e1; cases e2
      exact ⟨_, rfl, at'⟩
    · rw [List.getElem?_set_ne z] at e1
      have sl := h.slot j u y e1 e2
      cases u with
      | un => trivial
      | val d => obtain ⟨v, e, a⟩ := sl; exact ⟨v, e, a.up sf⟩
      | own l' =>
        obtain ⟨q, ws, e, g1, g2, g3, g4⟩ := sl
        subst e
        have np : q ≠ p := fun z' => by subst z'; exact h.sep j i _ _ q (fun z' => z z'.symm) e1 hl rfl rfl e2 hi
        exact ⟨q, ws, rfl, g1, by rw [upd_ne np]; exact g2, g3, g4.up sf⟩
      | ins q C ns l' =>
        obtain ⟨e, m, g1, dx, fs, g2, g3, g4⟩ := sl
        subst e
        have np : q ≠ p := fun z' => by subst z'; exact h.sep j i _ _ q (fun z' => z z'.symm) e1 hl rfl rfl e2 hi
        exact ⟨rfl, m, by rw [upd_ne np]; exact g1, dx, fs, g2, g3, g4.up sf⟩
      | pen q k =>
        obtain ⟨e, m, c, cells, a, r, g1, g2, g3, g4⟩ := sl
        subst e
        have np : q ≠ p := fun z' => by subst z'; exact h.sep j i _ _ q (fun z' => z z'.symm) e1 hl rfl rfl e2 hi
        exact ⟨rfl, m, c, cells, a, r, g1, by rw [upd_ne np]; exact g2, sf _ _ g3, g4⟩
  · have mv : ∀ {z : Nat} {t : B}, (ρ.set i (.val (.lst l)))[z]? = some t → mine t = true → i ≠ z := fun {z t} e m q => by
      subst q
      rw [List.getElem?_set_self i1] at e
      cases e; cases m
    have q1 := mv e1 m1
    have q2 := mv e2 m2
    rw [List.getElem?_set_ne q1] at e1
    rw [List.getElem?_set_ne q2] at e2
    exact h.sep j k u y q n e1 e2 m1 m2 s1 s2
/-- the base of what stands now: only what is mine may change -/
def now (σ : L2.St) (ρ : Env) (H F : Hp) : Bs := ⟨H, F, fun p => ∃ (i : Nat) (x : B), ρ[i]? = some x ∧ mine x = true ∧ σ[i]? = some (some (.ref p))⟩
theorem StOk.now (h : StOk K b σ H F ρ) : StOk K (DL.now σ ρ H F) σ H F ρ := by
  refine ⟨⟨h.fb.sub, Same.refl _, fun a o e => .inl e, fun a o e _ => e, fun a e => e⟩, h.len, fun i x y e1 e2 => ?_, h.sep⟩
  have sl := h.slot i x y e1 e2
  cases x with
  | un => trivial
  | val d => exact sl
  | own l => obtain ⟨p, vs, e, h1, h2, h3, h4⟩ := sl; exact ⟨p, vs, e, h1, h2, .inr ⟨i, _, e1, rfl, by rw [e2, e]⟩, h4⟩
  | ins p C ns l => obtain ⟨e, m, h1⟩ := sl; exact ⟨e, .inr ⟨i, _, e1, rfl, by rw [e2, e]⟩, h1⟩
  | pen p k => obtain ⟨e, m, h1⟩ := sl; exact ⟨e, .inr ⟨i, _, e1, rfl, by rw [e2, e]⟩, h1⟩
theorem StOk.back {σ' : L2.St} {ρ' : Env} (h : StOk K b σ H F ρ) (h' : StOk K (DL.now σ ρ H F) σ' H' F' ρ') :
    StOk K b σ' H' F' ρ' ∧ Same F F' ∧ ∀ p o, H p = some o → Apart σ ρ p → H' p = some o ∧ (F p = none → F' p = none) := by
  have mm : ∀ p, (DL.now σ ρ H F).M p → b.H0 p = none ∨ b.M p := fun p ⟨i, x, e1, m, e2⟩ => ((h.slot i x _ e1 e2).free m rfl).2.2
  have nn : ∀ p, (DL.now σ ρ H F).H0 p = none ∨ (DL.now σ ρ H F).M p → b.H0 p = none ∨ b.M p := fun p q => by
    rcases q with q | q
    · exact .inl (h.fb.there p q)
    · exact mm p q
  refine ⟨⟨⟨h'.fb.sub, h.fb.ext.trans h'.fb.ext, fun a o e => ?_, fun a o e m => ?_, fun a e => h.fb.there a (h'.fb.there a e)⟩, h'.len, fun i x y e1 e2 => ?_, h'.sep⟩, h'.fb.ext, fun p o e ap => ⟨h'.fb.keep p o e fun ⟨i, x, e1, m, e2⟩ => ap i x e1 m e2, fun n => ?_⟩⟩
  · rcases h'.fb.new a o e with q | q
    · exact h.fb.new a o q
    · rcases nn a q with q | q
      · exact .inr (.inl q)
      · exact .inr (.inr q)
  · have e1 := h.fb.keep a o e m
    refine h'.fb.keep a o e1 fun q => ?_
    rcases mm a q with q | q
    · rw [q] at e; cases e
    · exact m q
  · have sl := h'.slot i x y e1 e2
    cases x with
    | un => trivial
    | val d => exact sl
    | own l => obtain ⟨p, vs, e, h1, h2, h3, h4⟩ := sl; exact ⟨p, vs, e, h1, h2, nn p h3, h4⟩
    | ins p C ns l => obtain ⟨e, m, h1⟩ := sl; exact ⟨e, nn p m, h1⟩
    | pen p k => obtain ⟨e, m, h1⟩ := sl; exact ⟨e, nn p m, h1⟩
  · cases e2 : F' p with
    | none => rfl
    | some u =>
      rcases h'.fb.new p u e2 with q | q | ⟨i, x, f1, m, f2⟩
      · have q' : F p = some u := q
        rw [n] at q'; cases q'
      · have q' : H p = none := q
        rw [e] at q'; cases q'
      · exact (ap i x f1 m f2).elim
/-- the slots may be told otherwise -/
theorem StOk.apartNow (h : StOk K b σ H F ρ) {σ' : L2.St} {ρ' : Env} (h' : StOk K (DL.now σ ρ H F) σ' H' F' ρ') {p : Addr} {o : HO} (e : H p = some o) (ap : Apart σ ρ p) : Apart σ' ρ' p := fun i x e1 m e2 => by
  rcases ((h'.slot i x _ e1 e2).free m rfl).2.2 with q | ⟨j, y, f1, m', f2⟩
  · have q' : H p = none := q
    rw [e] at q'; cases q'
  · exact ap j y f1 m' f2
end
end DL

set_option Elab.async false
set_option linter.all false
set_option maxRecDepth 100000
set_option maxHeartbeats 4000000
namespace DL
open PySem PySem.Spec PyProof.Rows L2

abbrev WE := Env → (Env → D → Prop) → Prop
abbrev WN := Env → (Env → List D → Prop) → Prop
abbrev WT := Env → (Env → Bool → Prop) → Prop

def SndE (K : PySem.W.Frag) (t : TE) (w : WE) : Prop := ∀ (b : Bs) (σ : L2.St) (H F : Hp) (ρ : Env) (post : Env → D → Prop), StOk K b σ H F ρ → w ρ post →
  ∀ Q : VK, (∀ v H' F' ρ' d, Same F F' → StOk K b σ H' F' ρ' → At K F' d v → post ρ' d → Q v H') → t σ H Q
def SndN (K : PySem.W.Frag) (t : TE) (w : WN) : Prop := ∀ (b : Bs) (σ : L2.St) (H F : Hp) (ρ : Env) (post : Env → List D → Prop), StOk K b σ H F ρ → w ρ post →
  ∀ Q : VK, (∀ p vs H' F' ρ' l, Same F F' → StOk K b σ H' F' ρ' → H' p = some (.lst vs) → F' p = none → b.H0 p = none → Apart σ ρ' p → AtL K F' l vs → post ρ' l → Q (.ref p) H') → t σ H Q
def SndT (K : PySem.W.Frag) (t : TT) (w : WT) : Prop := ∀ (b : Bs) (σ : L2.St) (H F : Hp) (ρ : Env) (post : Env → Bool → Prop), StOk K b σ H F ρ → w ρ post →
  ∀ Q : Bool → Hp → Prop, (∀ c H' F' ρ', Same F F' → StOk K b σ H' F' ρ' → post ρ' c → Q c H') → t σ H Q
def SndA (K : PySem.W.Frag) (t : TA) (w : WN) : Prop := ∀ (b : Bs) (σ : L2.St) (H F : Hp) (ρ : Env) (post : Env → List D → Prop), StOk K b σ H F ρ → w ρ post →
  ∀ Q : List V → Hp → Prop, (∀ vs H' F' ρ' l, Same F F' → StOk K b σ H' F' ρ' → AtL K F' l vs → post ρ' l → Q vs H') → t σ H Q

def canE (K : PySem.W.Frag) (w : WE) : TE := fun σ H Q => ∃ (b : Bs) (F : Hp) (ρ : Env) (post : Env → D → Prop), StOk K b σ H F ρ ∧ w ρ post ∧ ∀ v H' F' ρ' d, Same F F' → StOk K b σ H' F' ρ' → At K F' d v → post ρ' d → Q v H'
def canN (K : PySem.W.Frag) (w : WN) : TE := fun σ H Q => ∃ (b : Bs) (F : Hp) (ρ : Env) (post : Env → List D → Prop), StOk K b σ H F ρ ∧ w ρ post ∧
  ∀ p vs H' F' ρ' l, Same F F' → StOk K b σ H' F' ρ' → H' p = some (.lst vs) → F' p = none → b.H0 p = none → Apart σ ρ' p → AtL K F' l vs → post ρ' l → Q (.ref p) H'
def canT (K : PySem.W.Frag) (w : WT) : TT := fun σ H Q => ∃ (b : Bs) (F : Hp) (ρ : Env) (post : Env → Bool → Prop), StOk K b σ H F ρ ∧ w ρ post ∧ ∀ c H' F' ρ', Same F F' → StOk K b σ H' F' ρ' → post ρ' c → Q c H'
def canA (K : PySem.W.Frag) (w : WN) : TA := fun σ H Q => ∃ (b : Bs) (F : Hp) (ρ : Env) (post : Env → List D → Prop), StOk K b σ H F ρ ∧ w ρ post ∧ ∀ vs H' F' ρ' l, Same F F' → StOk K b σ H' F' ρ' → AtL K F' l vs → post ρ' l → Q vs H'
theorem snd_canE {K : PySem.W.Frag} {w : WE} : SndE K (canE K w) w := fun b σ H F ρ post I h Q q => ⟨b, F, ρ, post, I, h, q⟩
theorem snd_canN {K : PySem.W.Frag} {w : WN} : SndN K (canN K w) w := fun b σ H F ρ post I h Q q => ⟨b, F, ρ, post, I, h, q⟩
theorem snd_canT {K : PySem.W.Frag} {w : WT} : SndT K (canT K w) w := fun b σ H F ρ post I h Q q => ⟨b, F, ρ, post, I, h, q⟩
theorem snd_canA {K : PySem.W.Frag} {w : WN} : SndA K (canA K w) w := fun b σ H F ρ post I h Q q => ⟨b, F, ρ, post, I, h, q⟩
/-- e does what the reading w on data says -/
structure DE (X : Cx) (e : Expr) (w : WE) : Prop where
  run : PE X e (canE X.K w)
structure DN (X : Cx) (e : Expr) (w : WN) : Prop where
  run : PE X e (canN X.K w)
structure DT (X : Cx) (e : Expr) (w : WT) : Prop where
  run : PT X e (canT X.K w)
structure DW (X : Cx) (e : Expr) (w : WT) : Prop where
  run : PW X e (canT X.K w)
structure DA (X : Cx) (es : List Expr) (w : WN) : Prop where
  run : PA X es (canA X.K w)
theorem DE.of {X : Cx} {e : Expr} {w : WE} (h : ∃ t, PE X e t ∧ SndE X.K t w) : DE X e w := by
  obtain ⟨t, h1, h2⟩ := h
  exact ⟨⟨fun pins s σ H Q I ⟨b, F, ρ, post, i, hw, q⟩ => h1.run pins s σ H Q I (h2 b σ H F ρ post i hw Q q)⟩⟩
theorem DN.of {X : Cx} {e : Expr} {w : WN} (h : ∃ t, PE X e t ∧ SndN X.K t w) : DN X e w := by
  obtain ⟨t, h1, h2⟩ := h
  exact ⟨⟨fun pins s σ H Q I ⟨b, F, ρ, post, i, hw, q⟩ => h1.run pins s σ H Q I (h2 b σ H F ρ post i hw Q q)⟩⟩
theorem DT.of {X : Cx} {e : Expr} {w : WT} (h : ∃ t, PT X e t ∧ SndT X.K t w) : DT X e w := by
  obtain ⟨t, h1, h2⟩ := h
  exact ⟨⟨fun pins s σ H Q I ⟨b, F, ρ, post, i, hw, q⟩ => h1.run pins s σ H Q I (h2 b σ H F ρ post i hw Q q)⟩⟩
theorem DW.of {X : Cx} {e : Expr} {w : WT} (h : ∃ t, PW X e t ∧ SndT X.K t w) : DW X e w := by
  obtain ⟨t, h1, h2⟩ := h
  exact ⟨⟨fun wh pins s σ H Q I ⟨b, F, ρ, post, i, hw, q⟩ => h1.run wh pins s σ H Q I (h2 b σ H F ρ post i hw Q q)⟩⟩
theorem DA.of {X : Cx} {e : List Expr} {w : WN} (h : ∃ t, PA X e t ∧ SndA X.K t w) : DA X e w := by
  obtain ⟨t, h1, h2⟩ := h
  exact ⟨⟨fun pos pins s σ H Q I ⟨b, F, ρ, post, i, hw, q⟩ => h1.run pos pins s σ H Q I (h2 b σ H F ρ post i hw Q q)⟩⟩
theorem DE.ex {X : Cx} {e : Expr} {w : WE} (h : DE X e w) : ∃ t, PE X e t ∧ SndE X.K t w := ⟨_, h.run, snd_canE⟩
theorem DN.ex {X : Cx} {e : Expr} {w : WN} (h : DN X e w) : ∃ t, PE X e t ∧ SndN X.K t w := ⟨_, h.run, snd_canN⟩
theorem DT.ex {X : Cx} {e : Expr} {w : WT} (h : DT X e w) : ∃ t, PT X e t ∧ SndT X.K t w := ⟨_, h.run, snd_canT⟩
theorem DW.ex {X : Cx} {e : Expr} {w : WT} (h : DW X e w) : ∃ t, PW X e t ∧ SndT X.K t w := ⟨_, h.run, snd_canT⟩
theorem DA.ex {X : Cx} {e : List Expr} {w : WN} (h : DA X e w) : ∃ t, PA X e t ∧ SndA X.K t w := ⟨_, h.run, snd_canA⟩

/-! ### names, constants -/
def nth : Env → Nat → B
  | [], _ => .un
  | x :: _, 0 => x
  | _ :: r, n + 1 => nth r n
theorem nth_some : ∀ {ρ : Env} {i : Nat} {x : B}, nth ρ i = x → x ≠ .un → ρ[i]? = some x
  | [], _, x, h, n => by
    have : B.un = x := h
    exact absurd this.symm n
  | y :: r, 0, x, h, n => by
    have : y = x := h
    subst this; rfl
  | y :: r, i + 1, x, h, n => by
    have h' : nth r i = x := h
    have := nth_some h' n
    simpa using this
def wv (i : Nat) : WE := fun ρ post => match nth ρ i with
  | .val d => post ρ d
  | _ => False
def wC (d : D) : WE := fun ρ post => post ρ d
/-- a list of mine is handed on: from now on it does not change -/
def wz (i : Nat) : WE := fun ρ post => match nth ρ i with
  | .own l => post (ρ.set i (.val (.lst l))) (.lst l)
  | _ => False
section
variable {X : Cx} {K : PySem.W.Frag}
theorem slot_at {K : PySem.W.Frag} {b : Bs} {σ : L2.St} {H F : Hp} {ρ : Env} {i : Nat} {x : B} (h : StOk K b σ H F ρ) (e : ρ[i]? = some x) : ∃ y, σ[i]? = some y ∧ SlotOk K b H F y x := by
  have l : i < σ.length := by rw [← h.len]; exact (List.getElem?_eq_some_iff.mp e).1
  exact ⟨σ[i], List.getElem?_eq_getElem l, h.slot i x _ e (List.getElem?_eq_getElem l)⟩
theorem snd_v {i : Nat} : SndE K (tVar i) (wv i) := fun b σ H F ρ post I h Q q => by
  unfold wv at h
  split at h
  · rename_i d e
    obtain ⟨y, ey, v, ev, a⟩ := slot_at I (nth_some e (by intro z; cases z))
    subst ev
    exact ⟨v, ey, q v H F ρ d (Same.refl _) I a h⟩
  · exact h.elim
theorem snd_z {i : Nat} : SndE K (tVar i) (wz i) := fun b σ H F ρ post I h Q q => by
  unfold wz at h
  split at h
  · rename_i l e
    have e' := nth_some e (by intro z; cases z)
    obtain ⟨y, ey, p, vs, ev, h1, h2, h3, h4⟩ := slot_at I e'
    subst ev
    obtain ⟨F', sf, a, I'⟩ := I.freeze ey e'
    exact ⟨_, ey, q _ H F' _ _ sf I' a h⟩
  · exact h.elim
theorem snd_c {v : V} {d : D} (a : ∀ F, At K F d v) : SndE K (tC v) (wC d) := fun b σ H F ρ post I h Q q => q v H F ρ d (Same.refl _) I (a F) h
theorem dv (i : Nat) {x : Str} {pos : Pos} (hN : X.N[i]? = some x := by rfl) (hv : Vis X.env.scope x := by first | exact Or.inl rfl | exact Or.inr (Or.inl rfl) | exact Or.inr (Or.inr rfl)) (hd : (x == ("__debug__" : Str)) = false := by decide)
    (hcd : (x == ("__classdict__" : Str)) = false := by decide) : DE X (.Name x pos) (wv i) := .of ⟨_, pe_var hN hv hd hcd, snd_v⟩
theorem dz (i : Nat) {x : Str} {pos : Pos} (hN : X.N[i]? = some x := by rfl) (hv : Vis X.env.scope x := by first | exact Or.inl rfl | exact Or.inr (Or.inl rfl) | exact Or.inr (Or.inr rfl)) (hd : (x == ("__debug__" : Str)) = false := by decide)
    (hcd : (x == ("__classdict__" : Str)) = false := by decide) : DE X (.Name x pos) (wz i) := .of ⟨_, pe_var hN hv hd hcd, snd_z⟩
theorem d_int {i j pos} : DE X (.Constant (.int i) j pos) (wC (.int i)) := .of ⟨_, pe_int, snd_c fun _ => .int i⟩
theorem d_bl {i j pos} : DE X (.Constant (.bool i) j pos) (wC (.bl i)) := .of ⟨_, pe_bl, snd_c fun _ => .bl i⟩
theorem d_non {j pos} : DE X (.Constant .none j pos) (wC .non) := .of ⟨_, pe_non, snd_c fun _ => .non⟩
theorem d_str {i j pos} : DE X (.Constant (.str i) j pos) (wC (.str i)) := .of ⟨_, pe_str, snd_c fun _ => .str i⟩
theorem d_glI {x : Str} {i : Int} {t : Tok} {pos : Pos} (hg : Gl X x) (hm : X.mg x = some (.int i t)) (hd : (x == ("__debug__" : Str)) = false := by decide) : DE X (.Name x pos) (wC (.int i)) := .of ⟨_, pe_glob hg hm (show RelV (.int i) (.int i t) from ⟨t, rfl⟩) hd, snd_c fun _ => .int i⟩
theorem d_glS {x y : Str} {t : Tok} {pos : Pos} (hg : Gl X x) (hm : X.mg x = some (.str y t)) (hd : (x == ("__debug__" : Str)) = false := by decide) : DE X (.Name x pos) (wC (.str y)) := .of ⟨_, pe_glob hg hm (show RelV (.str y) (.str y t) from ⟨t, rfl⟩) hd, snd_c fun _ => .str y⟩
end

/-! ### operators on values -/
abbrev R2D := D → D → (D → Prop) → Prop
def SndO (K : PySem.W.Frag) (r : R2) (wr : R2D) : Prop := ∀ (F H : Hp) (x y : V) (d1 d2 : D) (post : D → Prop), Same F H → At K F d1 x → At K F d2 y → wr d1 d2 post →
  ∀ Q : VK, (∀ v H' F' d, Grow F H F' H' → At K F' d v → post d → Q v H') → r x y H Q
def wOp (wr : R2D) (wa wb : WE) : WE := fun ρ post => wa ρ fun ρ1 d1 => wb ρ1 fun ρ2 d2 => wr d1 d2 (post ρ2)
theorem snd_op {K : PySem.W.Frag} {r : R2} {wr : R2D} {ta tb : TE} {wa wb : WE} (ho : SndO K r wr) (ha : SndE K ta wa) (hb : SndE K tb wb) : SndE K (tOp r ta tb) (wOp wr wa wb) := fun b σ H F ρ post I h Q q =>
  ha b σ H F ρ _ I h _ fun x H1 F1 ρ1 d1 s1 I1 a1 h1 => hb b σ H1 F1 ρ1 _ I1 h1 _ fun y H2 F2 ρ2 d2 s2 I2 a2 h2 =>
    ho F2 H2 x y d1 d2 _ I2.fb.sub (a1.up s2) a2 h2 _ fun v H3 F3 d g a3 h3 => q v H3 F3 ρ2 d ((s1.trans s2).trans g.f) (I2.grow g) a3 h3
structure DOp (X : Cx) (f : Value → Value → Sem Value) (wr : R2D) : Prop where
  ex : ∃ r, OpR X f r ∧ SndO X.K r wr
def wI0 (g : Int → Int → D) : R2D := fun x y post => match x, y with
  | .int i, .int j => post (g i j)
  | _, _ => False
def wI (C : Int → Int → Prop) (g : Int → Int → D) : R2D := fun x y post => match x, y with
  | .int i, .int j => C i j ∧ post (g i j)
  | _, _ => False
section
variable {X : Cx} {K : PySem.W.Frag}
theorem sndo_I0 {g : Int → Int → V} {g' : Int → Int → D} (hg : ∀ F i j, At K F (g' i j) (g i j)) : SndO K (rI0 g) (wI0 g') := fun F H x y d1 d2 post s a1 a2 h Q q => by
  unfold wI0 at h
  split at h
  · rename_i i j
    cases a1; cases a2
    exact ⟨i, j, rfl, rfl, q _ H F _ (Grow.refl s) (hg F i j) h⟩
  · exact h.elim
theorem sndo_I {C : Int → Int → Prop} {g : Int → Int → V} {g' : Int → Int → D} (hg : ∀ F i j, At K F (g' i j) (g i j)) : SndO K (rI C g) (wI C g') := fun F H x y d1 d2 post s a1 a2 h Q q => by
  unfold wI at h
  split at h
  · rename_i i j
    cases a1; cases a2
    exact ⟨i, j, rfl, rfl, h.1, q _ H F _ (Grow.refl s) (hg F i j) h.2⟩
  · exact h.elim
theorem do_add : DOp X (binaryOp .Add) (wI0 fun i j => .int (i + j)) := ⟨_, op_add, sndo_I0 fun _ _ _ => .int _⟩
theorem do_sub : DOp X (binaryOp .Sub) (wI0 fun i j => .int (i - j)) := ⟨_, op_sub, sndo_I0 fun _ _ _ => .int _⟩
theorem do_mul : DOp X (binaryOp .Mult) (wI CMul fun i j => .int (i * j)) := ⟨_, op_mul, sndo_I fun _ _ _ => .int _⟩
theorem do_fdiv : DOp X (binaryOp .FloorDiv) (wI CDiv fun i j => .int (i / j)) := ⟨_, op_fdiv, sndo_I fun _ _ _ => .int _⟩
theorem do_mod : DOp X (binaryOp .Mod) (wI (fun _ j => 0 < j) fun i j => .int (i % j)) := ⟨_, op_mod, sndo_I fun _ _ _ => .int _⟩
theorem do_pow : DOp X (binaryOp .Pow) (wI CPow fun i j => .int (i ^ j.toNat)) := ⟨_, op_pow, sndo_I fun _ _ _ => .int _⟩
theorem do_lt : DOp X (compareOp .Lt) (wI0 fun i j => .bl (decide (i < j))) := ⟨_, op_lt, sndo_I0 fun _ _ _ => .bl _⟩
theorem do_le : DOp X (compareOp .LtE) (wI0 fun i j => .bl (decide (i ≤ j))) := ⟨_, op_le, sndo_I0 fun _ _ _ => .bl _⟩
theorem do_gt : DOp X (compareOp .Gt) (wI0 fun i j => .bl (decide (j < i))) := ⟨_, op_gt, sndo_I0 fun _ _ _ => .bl _⟩
theorem do_ge : DOp X (compareOp .GtE) (wI0 fun i j => .bl (decide (j ≤ i))) := ⟨_, op_ge, sndo_I0 fun _ _ _ => .bl _⟩
/-- == of two ints -/
theorem do_eqI : DOp X (compareOp .Eq) (wI0 fun i j => .bl (decide (i = j))) := ⟨_, op_eq, fun F H x y d1 d2 post s a1 a2 h Q q => by
  unfold wI0 at h
  split at h
  · rename_i i j
    cases a1; cases a2
    refine ⟨rfl, q _ H F _ (Grow.refl s) ?_ h⟩
    rw [show decide (V.int i = V.int j) = decide (i = j) by simp]
    exact .bl _
  · exact h.elim⟩
theorem do_neI : DOp X (compareOp .NotEq) (wI0 fun i j => .bl (!decide (i = j))) := ⟨_, op_ne, fun F H x y d1 d2 post s a1 a2 h Q q => by
  unfold wI0 at h
  split at h
  · rename_i i j
    cases a1; cases a2
    refine ⟨rfl, q _ H F _ (Grow.refl s) ?_ h⟩
    rw [show decide (V.int i = V.int j) = decide (i = j) by simp]
    exact .bl _
  · exact h.elim⟩
end

/-! ### == of data -/
mutual
def py : D → PyData
  | .non => .none
  | .bl b => .bool b
  | .int i => .int i
  | .str x => .str x
  | .tup l => .tuple (pyL l)
  | .lst l => .list (pyL l)
  | .obj _ _ _ => .none
def pyL : List D → List PyData
  | [] => []
  | d :: r => py d :: pyL r
end
mutual
def noObj : D → Bool
  | .tup l => noObjL l
  | .lst l => noObjL l
  | .obj _ _ _ => false
  | _ => true
def noObjL : List D → Bool
  | [] => true
  | d :: r => noObj d && noObjL r
end
section
variable {K : PySem.W.Frag} {F H : Hp}
mutual
theorem At.dp (s : Same F H) : ∀ (d : D) (v : V), At K F d v → noObj d = true → Dp K H v (py d)
  | .non, _, h, _ => by cases h; exact .non
  | .bl b, _, h, _ => by cases h; exact .bl b
  | .int i, _, h, _ => by cases h; exact .int i
  | .str x, _, h, _ => by cases h; exact .str x
  | .tup ds, _, h, n => by
    cases h with
    | tup hs ha => exact .tup (same_t s hs) (AtL.dp s ds _ ha (by simpa [noObj] using n))
  | .lst ds, _, h, n => by
    cases h with
    | lst hs ha => exact .lst (.inl (.inl (s _ _ hs))) (AtL.dp s ds _ ha (by simpa [noObj] using n))
  | .obj _ _ _, _, _, n => by simp [noObj] at n
theorem AtL.dp (s : Same F H) : ∀ (ds : List D) (vs : List V), AtL K F ds vs → noObjL ds = true → DpAll K H vs (pyL ds)
  | [], _, h, _ => by cases h; exact .nil
  | d :: ds, _, h, n => by
    have n' : noObj d = true ∧ noObjL ds = true := by simpa [noObjL] using n
    cases h with
    | cons h1 h2 => exact .cons (At.dp s d _ h1 n'.1) (AtL.dp s ds _ h2 n'.2)
end
end
/-- what == of data asks: no objects, texts that can be, at most 64 deep -/
def shp (d : D) : Bool := noObj d && SeqAt.shaped (py d)
def deq (d e : D) : Bool := PyData.eqv (py d) (py e)
def wEq : R2D := fun x y post => (shp x = true ∧ shp y = true) ∧ post (.bl (deq x y))
def wNe : R2D := fun x y post => (shp x = true ∧ shp y = true) ∧ post (.bl (!deq x y))
section
variable {X : Cx}
theorem do_eq (hu : X.A.units + 64 < cLine) : DOp X (compareOp .Eq) wEq := ⟨_, op_eqD hu, fun F H x y d1 d2 post s a1 a2 h Q q => by
  obtain ⟨⟨n1, n2⟩, h⟩ := h
  have m1 : noObj d1 = true ∧ SeqAt.shaped (py d1) = true := by simpa [shp] using n1
  have m2 : noObj d2 = true ∧ SeqAt.shaped (py d2) = true := by simpa [shp] using n2
  exact ⟨py d1, py d2, At.dp s _ _ a1 m1.1, At.dp s _ _ a2 m2.1, m1.2, m2.2, q _ H F _ (Grow.refl s) (.bl _) h⟩⟩
theorem do_ne (hu : X.A.units + 64 < cLine) : DOp X (compareOp .NotEq) wNe := ⟨_, op_neD hu, fun F H x y d1 d2 post s a1 a2 h Q q => by
  obtain ⟨⟨n1, n2⟩, h⟩ := h
  have m1 : noObj d1 = true ∧ SeqAt.shaped (py d1) = true := by simpa [shp] using n1
  have m2 : noObj d2 = true ∧ SeqAt.shaped (py d2) = true := by simpa [shp] using n2
  exact ⟨py d1, py d2, At.dp s _ _ a1 m1.1, At.dp s _ _ a2 m2.1, m1.2, m2.2, q _ H F _ (Grow.refl s) (.bl _) h⟩⟩
/-- is None -/
def isNon : D → Bool
  | .non => true
  | _ => false
theorem isNon_at {K : PySem.W.Frag} {F : Hp} {d : D} {v : V} (a : At K F d v) : decide (v = .non) = isNon d := by
  cases a <;> rfl
def wIsN : R2D := fun x y post => match y with
  | .non => post (.bl (isNon x))
  | _ => False
def wNotN : R2D := fun x y post => match y with
  | .non => post (.bl (!isNon x))
  | _ => False
theorem do_isN : DOp X (compareOp .Is) wIsN := ⟨_, op_isN, fun F H x y d1 d2 post s a1 a2 h Q q => by
  unfold wIsN at h
  split at h
  · cases a2
    refine ⟨rfl, q _ H F _ (Grow.refl s) ?_ h⟩
    rw [isNon_at a1]
    exact .bl _
  · exact h.elim⟩
theorem do_notN : DOp X (compareOp .IsNot) wNotN := ⟨_, op_notN, fun F H x y d1 d2 post s a1 a2 h Q q => by
  unfold wNotN at h
  split at h
  · cases a2
    refine ⟨rfl, q _ H F _ (Grow.refl s) ?_ h⟩
    rw [isNon_at a1]
    exact .bl _
  · exact h.elim⟩
end

/-! ### expressions of operators -/
section
variable {X : Cx} {a b c e : Expr} {wa wb wc w : WE} {pos : Pos} {rest : List Expr}
theorem d_op {op : Operator} {wr : R2D} (ho : DOp X (binaryOp op) wr) (ha : DE X a wa) (hb : DE X b wb) : DE X (.BinOp a op b pos) (wOp wr wa wb) := by
  obtain ⟨r, o1, o2⟩ := ho.ex
  obtain ⟨ta, a1, a2⟩ := ha.ex
  obtain ⟨tb, b1, b2⟩ := hb.ex
  exact .of ⟨_, pe_op o1 a1 b1, snd_op o2 a2 b2⟩
theorem d_cmp {op : CmpOp} {wr : R2D} (ho : DOp X (compareOp op) wr) (ha : DE X a wa) (hb : DE X b wb) (hm : behindInMarks op b = false := by first | exact nomark _ | with_unfolding_all rfl) : DE X (.Compare a [op] [b] pos) (wOp wr wa wb) := by
  obtain ⟨r, o1, o2⟩ := ho.ex
  obtain ⟨ta, a1, a2⟩ := ha.ex
  obtain ⟨tb, b1, b2⟩ := hb.ex
  exact .of ⟨_, pe_cmpR o1 a1 b1 hm, snd_op o2 a2 b2⟩
/-- a op b op' c -/
def wChain (wr wr' : R2D) (wa wb wc : WE) : WE := fun ρ post => wa ρ fun ρ1 d1 => wb ρ1 fun ρ2 d2 => wr d1 d2 fun z => match z with
  | .bl true => wc ρ2 fun ρ3 d3 => wr' d2 d3 (post ρ3)
  | .bl false => post ρ2 (.bl false)
  | _ => False
theorem snd_chain {K : PySem.W.Frag} {r r' : R2} {wr wr' : R2D} {ta tb tc : TE} (ho : SndO K r wr) (ho' : SndO K r' wr') (ha : SndE K ta wa) (hb : SndE K tb wb) (hc : SndE K tc wc) : SndE K (tChain r r' ta tb tc) (wChain wr wr' wa wb wc) := fun b σ H F ρ post I h Q q =>
  ha b σ H F ρ _ I h _ fun x H1 F1 ρ1 d1 s1 I1 a1 h1 => hb b σ H1 F1 ρ1 _ I1 h1 _ fun y H2 F2 ρ2 d2 s2 I2 a2 h2 =>
    ho F2 H2 x y d1 d2 _ I2.fb.sub (a1.up s2) a2 h2 _ fun v H3 F3 d g a3 h3 => by
      have s3 := (s1.trans s2).trans g.f
      split at h3
      · cases a3
        exact ⟨true, rfl, hc b σ H3 F3 ρ2 _ (I2.grow g) h3 _ fun z H4 F4 ρ4 d4 s4 I4 a4 h4 => ho' F4 H4 y z d2 d4 _ I4.fb.sub ((a2.up g.f).up s4) a4 h4 _ fun v5 H5 F5 d5 g5 a5 h5 => q v5 H5 F5 ρ4 d5 ((s3.trans s4).trans g5.f) (I4.grow g5) a5 h5⟩
      · cases a3
        exact ⟨false, rfl, q _ H3 F3 ρ2 _ s3 (I2.grow g) (.bl false) h3⟩
      · exact h3.elim
theorem d_chain {op op' : CmpOp} {wr wr' : R2D} (ho : DOp X (compareOp op) wr) (ho' : DOp X (compareOp op') wr') (ha : DE X a wa) (hb : DE X b wb) (hc : DE X c wc)
    (hm : lastMarks [op, op'] [b, c] = false := by with_unfolding_all rfl) : DE X (.Compare a [op, op'] [b, c] pos) (wChain wr wr' wa wb wc) := by
  obtain ⟨r, o1, o2⟩ := ho.ex
  obtain ⟨r', o1', o2'⟩ := ho'.ex
  obtain ⟨ta, a1, a2⟩ := ha.ex
  obtain ⟨tb, b1, b2⟩ := hb.ex
  obtain ⟨tc, c1, c2⟩ := hc.ex
  exact .of ⟨_, pe_chain o1 o1' a1 b1 c1 hm, snd_chain o2 o2' a2 b2 c2⟩
/-- a bool as a test -/
def wTst (w : WE) : WT := fun ρ post => w ρ fun ρ1 d => match d with
  | .bl k => post ρ1 k
  | _ => False
theorem snd_tst {K : PySem.W.Frag} {t : TE} (h : SndE K t w) : SndT K (tTest t) (wTst w) := fun b σ H F ρ post I hw Q q => h b σ H F ρ _ I hw _ fun v H1 F1 ρ1 d s1 I1 a1 h1 => by
  split at h1
  · cases a1
    exact ⟨_, rfl, q _ H1 F1 ρ1 s1 I1 h1⟩
  · exact h1.elim
theorem snd_tB {K : PySem.W.Frag} {t : TE} (h : SndE K t w) : SndT K (tB t) (wTst w) := fun b σ H F ρ post I hw Q q => h b σ H F ρ _ I hw _ fun v H1 F1 ρ1 d s1 I1 a1 h1 => by
  split at h1
  · cases a1
    exact ⟨_, rfl, q _ H1 F1 ρ1 s1 I1 h1⟩
  · exact h1.elim
theorem dt_cmp {op : CmpOp} {wr : R2D} (ho : DOp X (compareOp op) wr) (ha : DE X a wa) (hb : DE X b wb) (hm : behindInMarks op b = false := by first | exact nomark _ | with_unfolding_all rfl) : DT X (.Compare a [op] [b] pos) (wTst (wOp wr wa wb)) := by
  obtain ⟨r, o1, o2⟩ := ho.ex
  obtain ⟨ta, a1, a2⟩ := ha.ex
  obtain ⟨tb, b1, b2⟩ := hb.ex
  exact .of ⟨_, pt_cmpR o1 a1 b1 hm, snd_tst (snd_op o2 a2 b2)⟩
theorem dt_chain {op op' : CmpOp} {wr wr' : R2D} (ho : DOp X (compareOp op) wr) (ho' : DOp X (compareOp op') wr') (ha : DE X a wa) (hb : DE X b wb) (hc : DE X c wc)
    (hm : lastMarks [op, op'] [b, c] = false := by with_unfolding_all rfl) : DT X (.Compare a [op, op'] [b, c] pos) (wTst (wChain wr wr' wa wb wc)) := by
  obtain ⟨r, o1, o2⟩ := ho.ex
  obtain ⟨r', o1', o2'⟩ := ho'.ex
  obtain ⟨ta, a1, a2⟩ := ha.ex
  obtain ⟨tb, b1, b2⟩ := hb.ex
  obtain ⟨tc, c1, c2⟩ := hc.ex
  exact .of ⟨_, pt_chain o1 o1' a1 b1 c1 hm, snd_tst (snd_chain o2 o2' a2 b2 c2)⟩
/-- an expression whose value is a bool, as a test: a call, a name, a field -/
theorem dt_val (h : DE X e w) (he : ∀ whole, isTrue e X.env whole = (do let v ← whole; standAt e.pos; holding [v] (truthy v)) := by intro _; rfl) : DT X e (wTst w) := by
  obtain ⟨t, h1, h2⟩ := h.ex
  exact .of ⟨_, pt_val h1 he, snd_tB h2⟩
def wNot (w : WT) : WT := fun ρ post => w ρ fun ρ1 k => post ρ1 (!k)
theorem dt_not {w : WT} (h : DT X a w) : DT X (.UnaryOp .Not a pos) (wNot w) := by
  obtain ⟨t, h1, h2⟩ := h.ex
  exact .of ⟨_, pt_not h1, fun b σ H F ρ post I hw Q q => h2 b σ H F ρ _ I hw _ fun k H1 F1 ρ1 s1 I1 h1 => q _ H1 F1 ρ1 s1 I1 h1⟩
def wAndT (w u : WT) : WT := fun ρ post => w ρ fun ρ1 k => match k with
  | true => u ρ1 post
  | false => post ρ1 false
def wOrT (w u : WT) : WT := fun ρ post => w ρ fun ρ1 k => match k with
  | true => post ρ1 true
  | false => u ρ1 post
theorem dw_and1 {w : WT} (h : DT X a w) : DW X (.BoolOp .And [a] pos) w := by
  obtain ⟨t, h1, h2⟩ := h.ex
  exact .of ⟨_, pw_and1 h1, h2⟩
theorem dw_or1 {w : WT} (h : DT X a w) : DW X (.BoolOp .Or [a] pos) w := by
  obtain ⟨t, h1, h2⟩ := h.ex
  exact .of ⟨_, pw_or1 h1, h2⟩
theorem dw_and {w u : WT} (h : DT X a w) (hr : DW X (.BoolOp .And (b :: rest) pos) u) : DW X (.BoolOp .And (a :: b :: rest) pos) (wAndT w u) := by
  obtain ⟨t, h1, h2⟩ := h.ex
  obtain ⟨t', r1, r2⟩ := hr.ex
  refine .of ⟨_, pw_and h1 r1, fun b σ H F ρ post I hw Q q => h2 b σ H F ρ _ I hw _ fun k H1 F1 ρ1 s1 I1 h1 => ?_⟩
  cases k with
  | true => exact r2 b σ H1 F1 ρ1 _ I1 h1 _ fun k' H2 F2 ρ2 s2 I2 h2 => q _ H2 F2 ρ2 (s1.trans s2) I2 h2
  | false => exact q _ H1 F1 ρ1 s1 I1 h1
theorem dw_or {w u : WT} (h : DT X a w) (hr : DW X (.BoolOp .Or (b :: rest) pos) u) : DW X (.BoolOp .Or (a :: b :: rest) pos) (wOrT w u) := by
  obtain ⟨t, h1, h2⟩ := h.ex
  obtain ⟨t', r1, r2⟩ := hr.ex
  refine .of ⟨_, pw_or h1 r1, fun b σ H F ρ post I hw Q q => h2 b σ H F ρ _ I hw _ fun k H1 F1 ρ1 s1 I1 h1 => ?_⟩
  cases k with
  | false => exact r2 b σ H1 F1 ρ1 _ I1 h1 _ fun k' H2 F2 ρ2 s2 I2 h2 => q _ H2 F2 ρ2 (s1.trans s2) I2 h2
  | true => exact q _ H1 F1 ρ1 s1 I1 h1
theorem DW.dt {w : WT} (h : DW X a w) : DT X a w := by
  obtain ⟨t, h1, h2⟩ := h.ex
  exact .of ⟨_, h1.pt, h2⟩
/-- and, or, not as values (bools) -/
def wAnd (wa wb : WE) : WE := fun ρ post => wa ρ fun ρ1 d => match d with
  | .bl true => wb ρ1 post
  | .bl false => post ρ1 (.bl false)
  | _ => False
def wOr (wa wb : WE) : WE := fun ρ post => wa ρ fun ρ1 d => match d with
  | .bl true => post ρ1 (.bl true)
  | .bl false => wb ρ1 post
  | _ => False
def wNotV (wa : WE) : WE := fun ρ post => wa ρ fun ρ1 d => match d with
  | .bl k => post ρ1 (.bl (!k))
  | _ => False
theorem d_one {op} (h : DE X a wa) : DE X (.BoolOp op [a] pos) wa := by
  obtain ⟨t, h1, h2⟩ := h.ex
  exact .of ⟨_, pe_one h1, h2⟩
theorem d_and (h : DE X a wa) (hr : DE X (.BoolOp .And (b :: rest) pos) wb) : DE X (.BoolOp .And (a :: b :: rest) pos) (wAnd wa wb) := by
  obtain ⟨t, h1, h2⟩ := h.ex
  obtain ⟨t', r1, r2⟩ := hr.ex
  refine .of ⟨_, pe_and h1 r1, fun b σ H F ρ post I hw Q q => h2 b σ H F ρ _ I hw _ fun v H1 F1 ρ1 d s1 I1 a1 h1 => ?_⟩
  split at h1
  · cases a1
    exact ⟨true, rfl, r2 b σ H1 F1 ρ1 _ I1 h1 _ fun v2 H2 F2 ρ2 d2 s2 I2 a2 h2 => q _ H2 F2 ρ2 d2 (s1.trans s2) I2 a2 h2⟩
  · cases a1
    exact ⟨false, rfl, q _ H1 F1 ρ1 _ s1 I1 (.bl _) h1⟩
  · exact h1.elim
theorem d_or (h : DE X a wa) (hr : DE X (.BoolOp .Or (b :: rest) pos) wb) : DE X (.BoolOp .Or (a :: b :: rest) pos) (wOr wa wb) := by
  obtain ⟨t, h1, h2⟩ := h.ex
  obtain ⟨t', r1, r2⟩ := hr.ex
  refine .of ⟨_, pe_or h1 r1, fun b σ H F ρ post I hw Q q => h2 b σ H F ρ _ I hw _ fun v H1 F1 ρ1 d s1 I1 a1 h1 => ?_⟩
  split at h1
  · cases a1
    exact ⟨true, rfl, q _ H1 F1 ρ1 _ s1 I1 (.bl _) h1⟩
  · cases a1
    exact ⟨false, rfl, r2 b σ H1 F1 ρ1 _ I1 h1 _ fun v2 H2 F2 ρ2 d2 s2 I2 a2 h2 => q _ H2 F2 ρ2 d2 (s1.trans s2) I2 a2 h2⟩
  · exact h1.elim
theorem d_not (h : DE X a wa) : DE X (.UnaryOp .Not a pos) (wNotV wa) := by
  obtain ⟨t, h1, h2⟩ := h.ex
  refine .of ⟨_, pe_not h1, fun b σ H F ρ post I hw Q q => h2 b σ H F ρ _ I hw _ fun v H1 F1 ρ1 d s1 I1 a1 h1 => ?_⟩
  split at h1
  · cases a1
    exact ⟨_, rfl, q _ H1 F1 ρ1 _ s1 I1 (.bl _) h1⟩
  · exact h1.elim
/-- -a of an int -/
def wNeg (wa : WE) : WE := fun ρ post => wa ρ fun ρ1 d => match d with
  | .int i => post ρ1 (.int (-i))
  | _ => False
theorem d_neg (h : DE X a wa) : DE X (.UnaryOp .USub a pos) (wNeg wa) := by
  obtain ⟨t, h1, h2⟩ := h.ex
  refine .of ⟨_, pe_un un_neg h1, fun b σ H F ρ post I hw Q q => h2 b σ H F ρ _ I hw _ fun v H1 F1 ρ1 d s1 I1 a1 h1 => ?_⟩
  split at h1
  · cases a1
    exact ⟨_, rfl, q _ H1 F1 ρ1 _ s1 I1 (.int _) h1⟩
  · exact h1.elim
def wIf (wt : WT) (wa wb : WE) : WE := fun ρ post => wt ρ fun ρ1 k => match k with
  | true => wa ρ1 post
  | false => wb ρ1 post
theorem d_if {wt : WT} (hc : DT X c wt) (ha : DE X a wa) (hb : DE X b wb) : DE X (.IfExp c a b pos) (wIf wt wa wb) := by
  obtain ⟨t, h1, h2⟩ := hc.ex
  obtain ⟨ta, a1, a2⟩ := ha.ex
  obtain ⟨tb, b1, b2⟩ := hb.ex
  refine .of ⟨_, pe_ifExp h1 a1 b1, fun b σ H F ρ post I hw Q q => h2 b σ H F ρ _ I hw _ fun k H1 F1 ρ1 s1 I1 h1 => ?_⟩
  cases k with
  | true => exact a2 b σ H1 F1 ρ1 _ I1 h1 _ fun v2 H2 F2 ρ2 d2 s2 I2 a2 h2 => q _ H2 F2 ρ2 d2 (s1.trans s2) I2 a2 h2
  | false => exact b2 b σ H1 F1 ρ1 _ I1 h1 _ fun v2 H2 F2 ρ2 d2 s2 I2 a2 h2 => q _ H2 F2 ρ2 d2 (s1.trans s2) I2 a2 h2
end

/-! ### new lists; arguments; displays -/
section
variable {X : Cx} {a b c e : Expr} {es : List Expr} {wa wb wc w : WE} {pos p : Pos}
/-- a new list, frozen at once -/
def wFz (w : WN) : WE := fun ρ post => w ρ fun ρ1 l => post ρ1 (.lst l)
theorem frz_new {K : PySem.W.Frag} {b : Bs} {σ : L2.St} {H F : Hp} {ρ : Env} {q : Addr} {vs : List V} {l : List D} (I : StOk K b σ H F ρ) (h1 : H q = some (.lst vs)) (h2 : F q = none) (h3 : b.H0 q = none) (ap : Apart σ ρ q) (h4 : AtL K F l vs) :
    Same F (upd F q (.lst vs)) ∧ StOk K b σ H (upd F q (.lst vs)) ρ ∧ At K (upd F q (.lst vs)) (.lst l) (.ref q) := by
  have sf : Same F (upd F q (.lst vs)) := same_new h2
  refine ⟨sf, ⟨⟨fun a o e => ?_, I.fb.ext.trans sf, fun a o e => ?_, I.fb.keep, I.fb.there⟩, I.len, fun i x y e1 e2 => ?_, I.sep⟩, .lst upd_same (h4.up sf)⟩
  · by_cases z : a = q
    · subst z; rw [upd_same] at e; cases e; exact h1
    · rw [upd_ne z] at e; exact I.fb.sub _ _ e
  · by_cases z : a = q
    · subst z; exact .inr (.inl h3)
    · rw [upd_ne z] at e; exact I.fb.new _ _ e
  · have sl := I.slot i x y e1 e2
    have nq : ∀ {r : Addr}, mine x = true → y = some (.ref r) → r ≠ q := fun {r} m e z => by
      subst z; subst e
      exact ap i x e1 m e2
    cases x with
    | un => trivial
    | val d => obtain ⟨v, e, a⟩ := sl; exact ⟨v, e, a.up sf⟩
    | own l' =>
      obtain ⟨r, ws, e, g1, g2, g3, g4⟩ := sl
      exact ⟨r, ws, e, g1, by rw [upd_ne (nq rfl e)]; exact g2, g3, g4.up sf⟩
    | ins r C ns l' =>
      obtain ⟨e, m, g1, dx, fs, g2, g3, g4⟩ := sl
      exact ⟨e, m, by rw [upd_ne (nq rfl e)]; exact g1, dx, fs, g2, g3, g4.up sf⟩
    | pen r k =>
      obtain ⟨e, m, c, cells, a, r', g1, g2, g3, g4⟩ := sl
      exact ⟨e, m, c, cells, a, r', g1, by rw [upd_ne (nq rfl e)]; exact g2, sf _ _ g3, g4⟩
theorem dn_e {w : WN} (h : DN X e w) : DE X e (wFz w) := by
  obtain ⟨t, h1, h2⟩ := h.ex
  refine .of ⟨t, h1, fun b σ H F ρ post I hw Q q => h2 b σ H F ρ _ I hw _ fun r vs H1 F1 ρ1 l s1 I1 g1 g2 g3 ap g4 h1 => ?_⟩
  obtain ⟨sf, I2, at'⟩ := frz_new I1 g1 g2 g3 ap g4
  exact q _ H1 _ ρ1 _ (s1.trans sf) I2 at' h1
def wNil : WN := fun ρ post => post ρ []
def wCons (wa : WE) (wr : WN) : WN := fun ρ post => wa ρ fun ρ1 d => wr ρ1 fun ρ2 l => post ρ2 (d :: l)
theorem da_nil : DA X [] wNil := .of ⟨_, pa_nil, fun b σ H F ρ post I h Q q => q [] H F ρ [] (Same.refl _) I .nil h⟩
theorem da_cons {wr : WN} (ha : DE X a wa) (hr : DA X es wr) (hs : starEach (a :: es) X.env = (false, eval a X.env) :: starEach es X.env := by rfl) : DA X (a :: es) (wCons wa wr) := by
  obtain ⟨ta, a1, a2⟩ := ha.ex
  obtain ⟨tr, r1, r2⟩ := hr.ex
  exact .of ⟨_, pa_cons a1 r1 hs, fun b σ H F ρ post I h Q q => a2 b σ H F ρ _ I h _ fun v H1 F1 ρ1 d s1 I1 at1 h1 => r2 b σ H1 F1 ρ1 _ I1 h1 _ fun vs H2 F2 ρ2 l s2 I2 at2 h2 =>
    q _ H2 F2 ρ2 _ (s1.trans s2) I2 (.cons (at1.up s2) at2) h2⟩
/-- the items of a list or a tuple -/
def items : D → Option (List D)
  | .tup l => some l
  | .lst l => some l
  | _ => none
theorem items_at {K : PySem.W.Frag} {F H : Hp} {d : D} {l : List D} {v : V} (s : Same F H) (a : At K F d v) (h : items d = some l) : ∃ r vs, v = .ref r ∧ (SqL K H r vs ∨ SqT K H r vs) ∧ AtL K F l vs := by
  cases d with
  | tup ds =>
    cases h
    cases a with
    | tup hs ha => exact ⟨_, _, rfl, .inr (same_t s hs), ha⟩
  | lst ds =>
    cases h
    cases a with
    | lst hs ha => exact ⟨_, _, rfl, .inl (.inl (.inl (s _ _ hs))), ha⟩
  | _ => cases h
def wStar (wa : WE) (wr : WN) : WN := fun ρ post => wa ρ fun ρ1 d => match items d with
  | some l1 => wr ρ1 fun ρ2 l => post ρ2 (l1 ++ l)
  | none => False
theorem da_star {wr : WN} (ha : DE X a wa) (hr : DA X es wr) (hs : starEach (.Starred a p :: es) X.env = (true, eval a X.env) :: starEach es X.env := by rfl) : DA X (.Starred a p :: es) (wStar wa wr) := by
  obtain ⟨ta, a1, a2⟩ := ha.ex
  obtain ⟨tr, r1, r2⟩ := hr.ex
  refine .of ⟨_, StX.pa_star a1 r1 hs, fun b σ H F ρ post I h Q q => a2 b σ H F ρ _ I h _ fun v H1 F1 ρ1 d s1 I1 at1 h1 => ?_⟩
  split at h1
  · rename_i l1 el
    obtain ⟨r, vs, rfl, sq, al⟩ := items_at I1.fb.sub at1 el
    exact ⟨r, vs, rfl, sq.symm, r2 b σ H1 F1 ρ1 _ I1 h1 _ fun ws H2 F2 ρ2 l s2 I2 at2 h2 => q _ H2 F2 ρ2 _ (s1.trans s2) I2 ((al.up s2).append at2) h2⟩
  · exact h1.elim
def wTup (wa : WN) : WE := fun ρ post => wa ρ fun ρ1 l => l.length ≤ 1000000 ∧ post ρ1 (.tup l)
def wLst (wa : WN) : WN := fun ρ post => wa ρ fun ρ1 l => l.length ≤ 1000000 ∧ post ρ1 l
theorem sz {n : Nat} (h : n ≤ 1000000) : n ≤ sizeLine := Nat.le_trans h (by decide)
theorem d_tup {wa : WN} {x1} (h : DA X es wa) : DE X (.Tuple es x1 pos) (wTup wa) := by
  obtain ⟨t, h1, h2⟩ := h.ex
  refine .of ⟨_, pe_tup h1, fun b σ H F ρ post I hw Q q => h2 b σ H F ρ _ I hw _ fun vs H1 F1 ρ1 l s1 I1 a1 h1 => ⟨by rw [← a1.length]; exact sz h1.1, fun r hr => ?_⟩⟩
  have g := Grow.add (o := .tup vs) I1.fb.sub hr
  exact q _ _ _ ρ1 _ (s1.trans g.f) (I1.grow g) (.tup (.inl (.inl upd_same)) (a1.up g.f)) h1.2
/-- a new list lies behind what stands -/
theorem new_list {K : PySem.W.Frag} {b : Bs} {σ : L2.St} {H F : Hp} {ρ : Env} {r : Addr} {vs : List V} (I : StOk K b σ H F ρ) (hr : H r = none) :
    StOk K b σ (upd H r (.lst vs)) F ρ ∧ F r = none ∧ b.H0 r = none ∧ Apart σ ρ r := by
  have g := Grow.tmp (o := .lst vs) I.fb.sub hr
  exact ⟨I.grow g, I.fb.sub.free hr, I.fb.there _ hr, I.apart hr⟩
theorem dn_lst {wa : WN} (h : DA X es wa) : DN X (.List es pos) (wLst wa) := by
  obtain ⟨t, h1, h2⟩ := h.ex
  refine .of ⟨_, pe_lst h1, fun b σ H F ρ post I hw Q q => h2 b σ H F ρ _ I hw _ fun vs H1 F1 ρ1 l s1 I1 a1 h1 => ⟨by rw [← a1.length]; exact sz h1.1, fun r hr => ?_⟩⟩
  obtain ⟨I2, f1, f2, f3⟩ := new_list (vs := vs) I1 hr
  exact q r vs _ F1 ρ1 l s1 I2 upd_same f1 f2 f3 a1 h1.2
end

/-! ### calls of what is built in -/
def SndC (K : PySem.W.Frag) (r : List V → Hp → VK → Prop) (wr : List D → (D → Prop) → Prop) : Prop := ∀ (F H : Hp) (vs : List V) (ds : List D) (post : D → Prop), Same F H → AtL K F ds vs → wr ds post →
  ∀ Q : VK, (∀ v H' F' d, Grow F H F' H' → At K F' d v → post d → Q v H') → r vs H Q
/-- that makes a new list -/
def SndCN (K : PySem.W.Frag) (r : List V → Hp → VK → Prop) (wr : List D → (List D → Prop) → Prop) : Prop := ∀ (F H : Hp) (vs : List V) (ds : List D) (post : List D → Prop), Same F H → AtL K F ds vs → wr ds post →
  ∀ Q : VK, (∀ p ws l, H p = none → AtL K F l ws → post l → Q (.ref p) (upd H p (.lst ws))) → r vs H Q
structure DC (X : Cx) (f : Value) (wr : List D → (D → Prop) → Prop) : Prop where
  ex : ∃ r, CallR X f r ∧ SndC X.K r wr
structure DCN (X : Cx) (f : Value) (wr : List D → (List D → Prop) → Prop) : Prop where
  ex : ∃ r, CallR X f r ∧ SndCN X.K r wr
def wCB (wr : List D → (D → Prop) → Prop) (wa : WN) : WE := fun ρ post => wa ρ fun ρ1 ds => wr ds (post ρ1)
def wCBN (wr : List D → (List D → Prop) → Prop) (wa : WN) : WN := fun ρ post => wa ρ fun ρ1 ds => wr ds (post ρ1)
theorem snd_cb {K : PySem.W.Frag} {r : List V → Hp → VK → Prop} {wr : List D → (D → Prop) → Prop} {t : TA} {wa : WN} (hc : SndC K r wr) (ha : SndA K t wa) : SndE K (tCB r t) (wCB wr wa) := fun b σ H F ρ post I h Q q =>
  ha b σ H F ρ _ I h _ fun vs H1 F1 ρ1 ds s1 I1 a1 h1 => hc F1 H1 vs ds _ I1.fb.sub a1 h1 _ fun v H2 F2 d g a2 h2 => q v H2 F2 ρ1 d (s1.trans g.f) (I1.grow g) a2 h2
theorem snd_cbn {K : PySem.W.Frag} {r : List V → Hp → VK → Prop} {wr : List D → (List D → Prop) → Prop} {t : TA} {wa : WN} (hc : SndCN K r wr) (ha : SndA K t wa) : SndN K (tCB r t) (wCBN wr wa) := fun b σ H F ρ post I h Q q =>
  ha b σ H F ρ _ I h _ fun vs H1 F1 ρ1 ds s1 I1 a1 h1 => hc F1 H1 vs ds _ I1.fb.sub a1 h1 _ fun p ws l n a2 h2 => by
    obtain ⟨I2, f1, f2, f3⟩ := new_list (vs := ws) I1 n
    exact q p ws _ F1 ρ1 l s1 I2 upd_same f1 f2 f3 a2 h2
section
variable {X : Cx} {x : Str} {p pos : Pos} {e : Expr} {es : List Expr} {id T : String} {wa : WN}
theorem d_callB {wr : List D → (D → Prop) → Prop} (hc : DC X (.builtin id) wr) (hg : Gl X x) (hm : X.mg x = none) (hv : bootBuiltins x = some (.builtin id)) (ha : DA X (e :: es) wa) (hn : x ≠ "__name__" := by decide) (hdb : (x == ("__debug__" : Str)) = false := by decide)
    (he : starEach (e :: es) X.env = (false, eval e X.env) :: starEach es X.env := by rfl) (hpl : (backTo pos (starEach es X.env)).any (·.1) = false := by rfl) : DE X (.Call (.Name x p) (e :: es) [] pos) (wCB wr wa) := by
  obtain ⟨r, c1, c2⟩ := hc.ex
  obtain ⟨t, a1, a2⟩ := ha.ex
  exact .of ⟨_, pe_callB c1 hg hm hv a1 hn hdb he hpl, snd_cb c2 a2⟩
theorem d_callT {wr : List D → (D → Prop) → Prop} (hc : DC X (.type T) wr) (hg : Gl X x) (hm : X.mg x = none) (hv : bootBuiltins x = some (.type T)) (ha : DA X (e :: es) wa) (hn : x ≠ "__name__" := by decide) (hdb : (x == ("__debug__" : Str)) = false := by decide)
    (he : starEach (e :: es) X.env = (false, eval e X.env) :: starEach es X.env := by rfl) (hpl : (backTo pos (starEach es X.env)).any (·.1) = false := by rfl) : DE X (.Call (.Name x p) (e :: es) [] pos) (wCB wr wa) := by
  obtain ⟨r, c1, c2⟩ := hc.ex
  obtain ⟨t, a1, a2⟩ := ha.ex
  exact .of ⟨_, pe_callTy c1 hg hm hv a1 hn hdb he hpl, snd_cb c2 a2⟩
theorem dn_callB {wr : List D → (List D → Prop) → Prop} (hc : DCN X (.builtin id) wr) (hg : Gl X x) (hm : X.mg x = none) (hv : bootBuiltins x = some (.builtin id)) (ha : DA X (e :: es) wa) (hn : x ≠ "__name__" := by decide) (hdb : (x == ("__debug__" : Str)) = false := by decide)
    (he : starEach (e :: es) X.env = (false, eval e X.env) :: starEach es X.env := by rfl) (hpl : (backTo pos (starEach es X.env)).any (·.1) = false := by rfl) : DN X (.Call (.Name x p) (e :: es) [] pos) (wCBN wr wa) := by
  obtain ⟨r, c1, c2⟩ := hc.ex
  obtain ⟨t, a1, a2⟩ := ha.ex
  exact .of ⟨_, pe_callB c1 hg hm hv a1 hn hdb he hpl, snd_cbn c2 a2⟩
theorem dn_callT {wr : List D → (List D → Prop) → Prop} (hc : DCN X (.type T) wr) (hg : Gl X x) (hm : X.mg x = none) (hv : bootBuiltins x = some (.type T)) (ha : DA X (e :: es) wa) (hn : x ≠ "__name__" := by decide) (hdb : (x == ("__debug__" : Str)) = false := by decide)
    (he : starEach (e :: es) X.env = (false, eval e X.env) :: starEach es X.env := by rfl) (hpl : (backTo pos (starEach es X.env)).any (·.1) = false := by rfl) : DN X (.Call (.Name x p) (e :: es) [] pos) (wCBN wr wa) := by
  obtain ⟨r, c1, c2⟩ := hc.ex
  obtain ⟨t, a1, a2⟩ := ha.ex
  exact .of ⟨_, pe_callTy c1 hg hm hv a1 hn hdb he hpl, snd_cbn c2 a2⟩
end
theorem AtL.one {K : PySem.W.Frag} {F : Hp} {d : D} {vs : List V} (h : AtL K F [d] vs) : ∃ v, vs = [v] ∧ At K F d v := by
  cases h with
  | cons a r => cases r; exact ⟨_, rfl, a⟩
theorem AtL.two {K : PySem.W.Frag} {F : Hp} {d e : D} {vs : List V} (h : AtL K F [d, e] vs) : ∃ v u, vs = [v, u] ∧ At K F d v ∧ At K F e u := by
  cases h with
  | cons a r =>
    obtain ⟨u, rfl, a2⟩ := r.one
    exact ⟨_, _, rfl, a, a2⟩
def intsOf : List D → Option (List Int)
  | [] => some []
  | .int i :: r => (intsOf r).map (i :: ·)
  | _ => none
theorem intsOf_eq : ∀ {l : List D} {ns : List Int}, intsOf l = some ns → l = ns.map D.int
  | [], _, h => by cases h; rfl
  | .int i :: r, ns, h => by
    have h' : (intsOf r).map (i :: ·) = some ns := h
    cases e : intsOf r with
    | none => rw [e] at h'; cases h'
    | some ms =>
      rw [e] at h'
      cases h'
      rw [intsOf_eq e]
      rfl
  | .non :: _, _, h => by cases h
  | .bl _ :: _, _, h => by cases h
  | .str _ :: _, _, h => by cases h
  | .tup _ :: _, _, h => by cases h
  | .lst _ :: _, _, h => by cases h
  | .obj _ _ _ :: _, _, h => by cases h
theorem intsOf_map : ∀ ns : List Int, intsOf (ns.map D.int) = some ns
  | [] => rfl
  | n :: r => by
    show (intsOf (r.map D.int)).map (n :: ·) = some (n :: r)
    rw [intsOf_map r]
    rfl
def blsOf : List D → Option (List Bool)
  | [] => some []
  | .bl i :: r => (blsOf r).map (i :: ·)
  | _ => none
theorem blsOf_eq : ∀ {l : List D} {ns : List Bool}, blsOf l = some ns → l = ns.map D.bl
  | [], _, h => by cases h; rfl
  | .bl i :: r, ns, h => by
    have h' : (blsOf r).map (i :: ·) = some ns := h
    cases e : blsOf r with
    | none => rw [e] at h'; cases h'
    | some ms =>
      rw [e] at h'
      cases h'
      rw [blsOf_eq e]
      rfl
  | .non :: _, _, h => by cases h
  | .int _ :: _, _, h => by cases h
  | .str _ :: _, _, h => by cases h
  | .tup _ :: _, _, h => by cases h
  | .lst _ :: _, _, h => by cases h
  | .obj _ _ _ :: _, _, h => by cases h
theorem blsOf_map : ∀ ns : List Bool, blsOf (ns.map D.bl) = some ns
  | [] => rfl
  | n :: r => by
    show (blsOf (r.map D.bl)).map (n :: ·) = some (n :: r)
    rw [blsOf_map r]
    rfl
def w1 (f : D → (D → Prop) → Prop) : List D → (D → Prop) → Prop := fun ds post => match ds with
  | [d] => f d post
  | _ => False
def w1N (f : D → (List D → Prop) → Prop) : List D → (List D → Prop) → Prop := fun ds post => match ds with
  | [d] => f d post
  | _ => False
def w2 (f : D → D → (D → Prop) → Prop) : List D → (D → Prop) → Prop := fun ds post => match ds with
  | [d, e] => f d e post
  | _ => False
theorem sndc_1 {K : PySem.W.Frag} {r : List V → Hp → VK → Prop} {f : D → (D → Prop) → Prop} (h : ∀ (F H : Hp) (v : V) (d : D) (post : D → Prop), Same F H → At K F d v → f d post → ∀ Q : VK, (∀ v H' F' d, Grow F H F' H' → At K F' d v → post d → Q v H') → r [v] H Q) : SndC K r (w1 f) := fun F H vs ds post s a hw Q q => by
  unfold w1 at hw
  split at hw
  · obtain ⟨v, rfl, a'⟩ := a.one
    exact h F H v _ post s a' hw Q q
  · exact hw.elim
theorem sndcn_1 {K : PySem.W.Frag} {r : List V → Hp → VK → Prop} {f : D → (List D → Prop) → Prop} (h : ∀ (F H : Hp) (v : V) (d : D) (post : List D → Prop), Same F H → At K F d v → f d post → ∀ Q : VK, (∀ p ws l, H p = none → AtL K F l ws → post l → Q (.ref p) (upd H p (.lst ws))) → r [v] H Q) : SndCN K r (w1N f) := fun F H vs ds post s a hw Q q => by
  unfold w1N at hw
  split at hw
  · obtain ⟨v, rfl, a'⟩ := a.one
    exact h F H v _ post s a' hw Q q
  · exact hw.elim
theorem sndc_2 {K : PySem.W.Frag} {r : List V → Hp → VK → Prop} {f : D → D → (D → Prop) → Prop} (h : ∀ (F H : Hp) (v u : V) (d e : D) (post : D → Prop), Same F H → At K F d v → At K F e u → f d e post → ∀ Q : VK, (∀ v H' F' d, Grow F H F' H' → At K F' d v → post d → Q v H') → r [v, u] H Q) : SndC K r (w2 f) := fun F H vs ds post s a hw Q q => by
  unfold w2 at hw
  split at hw
  · obtain ⟨v, u, rfl, a1, a2⟩ := a.two
    exact h F H v u _ _ post s a1 a2 hw Q q
  · exact hw.elim
/-- the reading of a call on the items of one list or tuple -/
def wItems (f : List D → (D → Prop) → Prop) : D → (D → Prop) → Prop := fun d post => match items d with
  | some l => f l post
  | none => False
def wLen : List D → (D → Prop) → Prop := w1 (wItems fun l post => post (.int l.length))
/-- sum, max, .. want a list -/
def wInts (f : List Int → (D → Prop) → Prop) : D → (D → Prop) → Prop := fun d post => match d with
  | .lst l => (match intsOf l with
    | some ns => f ns post
    | none => False)
  | _ => False
def wBls (f : List Bool → (D → Prop) → Prop) : D → (D → Prop) → Prop := fun d post => match d with
  | .lst l => (match blsOf l with
    | some ns => f ns post
    | none => False)
  | _ => False
def wSum : List D → (D → Prop) → Prop := w1 (wInts fun ns post => post (.int ns.sum))
def wMaxL : List D → (D → Prop) → Prop := w1 (wInts fun ns post => 0 < ns.length ∧ ∀ m, m ∈ ns → (∀ y, y ∈ ns → y ≤ m) → post (.int m))
def wMinL : List D → (D → Prop) → Prop := w1 (wInts fun ns post => 0 < ns.length ∧ ∀ m, m ∈ ns → (∀ y, y ∈ ns → m ≤ y) → post (.int m))
def wAll : List D → (D → Prop) → Prop := w1 (wBls fun ns post => post (.bl (ns.all id)))
def wAny : List D → (D → Prop) → Prop := w1 (wBls fun ns post => post (.bl (ns.any id)))
def wMax2 : List D → (D → Prop) → Prop := w2 (wI0 fun i j => .int (if j > i then j else i))
def wMin2 : List D → (D → Prop) → Prop := w2 (wI0 fun i j => .int (if j < i then j else i))
def wInt1 : List D → (D → Prop) → Prop := w1 fun d post => match d with
  | .int i => post (.int i)
  | .bl k => post (.int (if k = true then 1 else 0))
  | _ => False
def wAbs : List D → (D → Prop) → Prop := w1 fun d post => match d with
  | .int i => post (.int (if i < 0 then -i else i))
  | _ => False
def wTupOf : List D → (D → Prop) → Prop := w1 (wItems fun l post => post (.tup l))
def wLstOf : List D → (List D → Prop) → Prop := w1N fun d post => match items d with
  | some l => post l
  | none => False
section
variable {X : Cx}
theorem sndc_ints {K : PySem.W.Frag} {r : List V → Hp → VK → Prop} {f : List Int → (D → Prop) → Prop} (h : ∀ (F H : Hp) (a : Addr) (ns : List Int) (post : D → Prop), Same F H → SqL K H a (ns.map V.int) → f ns post → ∀ Q : VK, (∀ v H' F' d, Grow F H F' H' → At K F' d v → post d → Q v H') → r [.ref a] H Q) : SndC K r (w1 (wInts f)) :=
  sndc_1 fun F H v d post s a hw Q q => by
    unfold wInts at hw
    split at hw
    · split at hw
      · rename_i l _ ns e
        have e' := intsOf_eq e
        subst e'
        cases a with
        | lst hs ha =>
          rw [ha.ints_inv] at hs
          exact h F H _ ns post s (.inl (.inl (s _ _ hs))) hw Q q
      · exact hw.elim
    · exact hw.elim
theorem sndc_bls {K : PySem.W.Frag} {r : List V → Hp → VK → Prop} {f : List Bool → (D → Prop) → Prop} (h : ∀ (F H : Hp) (a : Addr) (ns : List Bool) (post : D → Prop), Same F H → SqL K H a (ns.map V.bl) → f ns post → ∀ Q : VK, (∀ v H' F' d, Grow F H F' H' → At K F' d v → post d → Q v H') → r [.ref a] H Q) : SndC K r (w1 (wBls f)) :=
  sndc_1 fun F H v d post s a hw Q q => by
    unfold wBls at hw
    split at hw
    · split at hw
      · rename_i l _ ns e
        have e' := blsOf_eq e
        subst e'
        cases a with
        | lst hs ha =>
          rw [ha.bls_inv] at hs
          exact h F H _ ns post s (.inl (.inl (s _ _ hs))) hw Q q
      · exact hw.elim
    · exact hw.elim
theorem dc_len : DC X (.builtin "len") wLen := ⟨_, call_len_seq, sndc_1 fun F H v d post s a hw Q q => by
  unfold wItems at hw
  split at hw
  · rename_i l e
    obtain ⟨r, vs, rfl, sq, al⟩ := items_at s a e
    refine ⟨r, vs, rfl, sq, q _ H F _ (Grow.refl s) ?_ hw⟩
    rw [al.length]
    exact .int _
  · exact hw.elim⟩
theorem dc_sum (hc : X.calm = true) : DC X (.builtin "sum") wSum := ⟨_, cr_sum hc, sndc_ints fun F H a ns post s sq hw Q q => ⟨a, ns, rfl, sq, q _ H F _ (Grow.refl s) (.int _) hw⟩⟩
theorem dc_max (hc : X.calm = true) : DC X (.builtin "max") wMaxL := ⟨_, cr_max hc, sndc_ints fun F H a ns post s sq hw Q q => ⟨a, ns, rfl, sq, hw.1, fun m m1 m2 => q _ H F _ (Grow.refl s) (.int m) (hw.2 m m1 m2)⟩⟩
theorem dc_min (hc : X.calm = true) : DC X (.builtin "min") wMinL := ⟨_, cr_min hc, sndc_ints fun F H a ns post s sq hw Q q => ⟨a, ns, rfl, sq, hw.1, fun m m1 m2 => q _ H F _ (Grow.refl s) (.int m) (hw.2 m m1 m2)⟩⟩
theorem dc_all (hc : X.calm = true) : DC X (.builtin "all") wAll := ⟨_, cr_all hc, sndc_bls fun F H a ns post s sq hw Q q => ⟨a, ns, rfl, sq, q _ H F _ (Grow.refl s) (.bl _) hw⟩⟩
theorem dc_any (hc : X.calm = true) : DC X (.builtin "any") wAny := ⟨_, cr_any hc, sndc_bls fun F H a ns post s sq hw Q q => ⟨a, ns, rfl, sq, q _ H F _ (Grow.refl s) (.bl _) hw⟩⟩
theorem dc_max2 (hc : X.calm = true) : DC X (.builtin "max") wMax2 := ⟨_, call_max2 hc, sndc_2 fun F H v u d e post s a1 a2 hw Q q => by
  unfold wI0 at hw
  split at hw
  · cases a1; cases a2
    exact ⟨_, _, rfl, q _ H F _ (Grow.refl s) (.int _) hw⟩
  · exact hw.elim⟩
theorem dc_min2 (hc : X.calm = true) : DC X (.builtin "min") wMin2 := ⟨_, call_min2 hc, sndc_2 fun F H v u d e post s a1 a2 hw Q q => by
  unfold wI0 at hw
  split at hw
  · cases a1; cases a2
    exact ⟨_, _, rfl, q _ H F _ (Grow.refl s) (.int _) hw⟩
  · exact hw.elim⟩
theorem dc_int : DC X (.type "int") wInt1 := ⟨_, call_int1, sndc_1 fun F H v d post s a hw Q q => by
  split at hw
  · cases a; exact .inl ⟨_, rfl, q _ H F _ (Grow.refl s) (.int _) hw⟩
  · cases a; exact .inr ⟨_, rfl, q _ H F _ (Grow.refl s) (.int _) hw⟩
  · exact hw.elim⟩
theorem dc_abs : DC X (.builtin "abs") wAbs := ⟨_, call_abs, sndc_1 fun F H v d post s a hw Q q => by
  split at hw
  · cases a; exact ⟨_, rfl, q _ H F _ (Grow.refl s) (.int _) hw⟩
  · exact hw.elim⟩
theorem dc_tuple : DC X (.type "tuple") wTupOf := ⟨_, call_tuple_of, sndc_1 fun F H v d post s a hw Q q => by
  unfold wItems at hw
  split at hw
  · rename_i l e
    cases d with
    | tup ds =>
      cases e
      cases a with
      | tup hs ha => exact ⟨_, _, rfl, .inr ⟨same_t s hs, q _ H F _ (Grow.refl s) (.tup hs ha) hw⟩⟩
    | lst ds =>
      cases e
      cases a with
      | @lst a0 vs0 _ hs ha =>
        refine ⟨_, _, rfl, .inl ⟨.inl (.inl (s _ _ hs)), fun r hr => ?_⟩⟩
        have g := Grow.add (o := .tup vs0) s hr
        exact q _ _ _ _ g (.tup (.inl (.inl upd_same)) (ha.up g.f)) hw
    | _ => cases e
  · exact hw.elim⟩
theorem dcn_list : DCN X (.type "list") wLstOf := ⟨_, call_list_of, sndcn_1 fun F H v d post s a hw Q q => by
  split at hw
  · rename_i l e
    obtain ⟨r, vs, rfl, sq, al⟩ := items_at s a e
    exact ⟨r, vs, rfl, sq, fun p hp => q p vs l hp al hw⟩
  · exact hw.elim⟩
end
end DL

set_option Elab.async false
set_option linter.all false
set_option maxRecDepth 100000
set_option maxHeartbeats 4000000
namespace DL
open PySem PySem.Spec PyProof.Rows L2

/-! ### a list or a tuple, told by its kind (true: a tuple) -/
def SqK (k : Bool) (K : PySem.W.Frag) (H : Hp) (a : Addr) (xs : List V) : Prop := match k with
  | true => SqT K H a xs
  | false => SqL K H a xs
def HasK (k : Bool) (h : Heap) (a : Addr) (its : Array Value) : Prop := match k with
  | true => h.IsTuple a its
  | false => h.IsList a its
def IterK (k : Bool) (h : Heap) (it a : Addr) (i : Nat) : Prop := match k with
  | true => h.IsTupleIter it a i
  | false => h.IsListIter it a i
def itK (k : Bool) (a : Addr) : Obj := match k with
  | true => { cls := .type "tuple_iterator", data := .fields #[.ref a, .int 0 0] }
  | false => { cls := .type "list_iterator", data := .fields #[.ref a, .int 0 0] }
section
variable {X : Cx} {pins : List (Addr × Obj)} {σ : L2.St} {H : Hp} {s : Shared} {a : Addr} {xs ys : List V} {k : Bool}
theorem inv_seqK (I : Inv X pins σ H s) (h : SqK k X.K H a xs) : ∃ its : List Value, Vals xs its ∧ HasK k s.heap a its.toArray ∧ xs.length ≤ sizeLine ∧ a < s.heap.objs.size := by
  cases k with
  | true =>
    obtain ⟨its, r, p, z⟩ := I.tuple h
    obtain ⟨o, ho, _⟩ := id p
    exact ⟨its, r, p, z, Heap.lt_size ho⟩
  | false =>
    obtain ⟨its, r, p, z⟩ := I.list h
    exact ⟨its, r, p.isList, z, p.lt⟩
theorem inv_seqK_inj (I : Inv X pins σ H s) (h : SqK k X.K H a xs) (h' : SqK k X.K H a ys) : xs = ys := by
  cases k with
  | true => exact I.tuple_inj h h'
  | false => exact I.list_inj h h'
theorem iterK_at {h h' : Heap} {it : Addr} {i : Nat} (x : IterK k h it a i) (f : ∀ o, h.get? it = some o → h'.get? it = some o) : IterK k h' it a i := by
  cases k with
  | true => exact Heap.IsTupleIter.at x f
  | false => exact Heap.IsListIter.at x f
theorem iterK_get {h : Heap} {it : Addr} {i : Nat} (x : IterK k h it a i) : ∃ o, h.get? it = some o ∧ ∀ v, o.data ≠ .cell v := by
  cases k with
  | true => obtain ⟨o, e, _, d⟩ := x; exact ⟨o, e, fun v q => by rw [d] at q; cases q⟩
  | false => obtain ⟨o, e, _, d⟩ := x; exact ⟨o, e, fun v q => by rw [d] at q; cases q⟩
theorem iterK_new {h : Heap} {it : Addr} (e : h.get? it = some (itK k a)) : IterK k h it a 0 := by
  cases k with
  | true => exact ⟨_, e, rfl, rfl⟩
  | false => exact ⟨_, e, rfl, rfl⟩
theorem hasK_ne {h : Heap} {its : Array Value} {it : Addr} {i : Nat} {k' : Bool} {a' : Addr} (p : HasK k h a its) (q : IterK k' h it a' i) : a ≠ it := by
  intro e
  subst e
  cases k with
  | true =>
    obtain ⟨o, ho, hcl, _⟩ := p
    cases k' with
    | true => obtain ⟨o', ho', hcl', _⟩ := q; rw [ho] at ho'; cases ho'; rw [hcl] at hcl'; exact absurd (Value.type.inj hcl') (by decide)
    | false => obtain ⟨o', ho', hcl', _⟩ := q; rw [ho] at ho'; cases ho'; rw [hcl] at hcl'; exact absurd (Value.type.inj hcl') (by decide)
  | false =>
    obtain ⟨o, ho, hcl, _⟩ := p
    cases k' with
    | true => obtain ⟨o', ho', hcl', _⟩ := q; rw [ho] at ho'; cases ho'; rw [hcl] at hcl'; exact absurd (Value.type.inj hcl') (by decide)
    | false => obtain ⟨o', ho', hcl', _⟩ := q; rw [ho] at ho'; cases ho'; rw [hcl] at hcl'; exact absurd (Value.type.inj hcl') (by decide)
theorem drawsK {prog : Program} {w : World} {A : Around} (hh : A.handled = none) (it a : Addr) (hne : a ≠ it) (items : Array Value) :
    Draws prog w A it [it, a] items.size (fun i v => items[i]? = some v) (fun i h => IterK k h it a i ∧ HasK k h a items) := by
  cases k with
  | true => exact Draws.tuple hh it a hne items
  | false => exact Draws.list hh it a hne items
theorem beginsK (a : Addr) (items : Array Value) : Begins (.ref a) (itK k a) (fun h => HasK k h a items) := by
  cases k with
  | true => exact begins_tuple a items
  | false => exact begins_list a items
end

/-! ### zip(a, b), each a list or a tuple -/
def ItzK (K : PySem.W.Frag) (k1 : Bool) (a : Addr) (k2 : Bool) (b : Addr) : It :=
  ⟨fun i H => ∃ (xs ys : List V) (x y : V), SqK k1 K H a xs ∧ SqK k2 K H b ys ∧ xs[i]? = some x ∧ ys[i]? = some y,
    fun i H v H' => ∃ T x y, v = .ref T ∧ H T = none ∧ H' = upd H T (.tup [x, y]) ∧ (∀ xs, SqK k1 K H a xs → xs[i]? = some x) ∧ ∀ ys, SqK k2 K H b ys → ys[i]? = some y,
    fun i H => ∃ xs ys : List V, SqK k1 K H a xs ∧ SqK k2 K H b ys ∧ i ≤ xs.length ∧ i ≤ ys.length ∧ (xs.length = i ∨ ys.length = i)⟩
theorem turn_zipK {P : Program} {w : World} {K : PySem.W.Frag} {elts : List Expr} {kk : Nat} {tpos : Pos} {a b z TI TO i1 i2 : Addr} {k1 k2 : Bool} (D : ZipSep2 z TI TO i1 i2 [i1, a] [i2, b]) :
    Turn P w K (.Tuple elts kk tpos) (ItzK K k1 a k2 b) [z, TI, TO, i1, i2] z (fun i h => IsZip h z TI TO .none ∧ IsTupOf2 h TI (.ref i1) (.ref i2) ∧ (∃ x y, IsTupOf2 h TO x y) ∧ IterK k1 h i1 a i ∧ IterK k2 h i2 b i) where
  mem := by simp
  obj := fun i h st c hc => by
    obtain ⟨hz, hTI, ⟨x, y, hTO⟩, h1, h2⟩ := st
    have e' : c = z ∨ c = TI ∨ c = TO ∨ c = i1 ∨ c = i2 := by simpa using hc
    rcases e' with q | q | q | q | q
    · rw [q]; exact ⟨_, hz, fun v q => nomatch q⟩
    · rw [q]; exact ⟨_, hTI, fun v q => nomatch q⟩
    · rw [q]; exact ⟨_, hTO, fun v q => nomatch q⟩
    · rw [q]; exact iterK_get h1
    · rw [q]; exact iterK_get h2
  keep := fun i h h' st k => by
    obtain ⟨hz, hTI, ⟨x, y, hTO⟩, h1, h2⟩ := st
    exact ⟨k z (by simp) _ hz, k TI (by simp) _ hTI, ⟨x, y, k TO (by simp) _ hTO⟩, iterK_at h1 fun o q => k i1 (by simp) o q, iterK_at h2 fun o q => k i2 (by simp) o q⟩
  item := by
    intro X hP hw hK hc i pins s σ H E I hf st hg
    subst hP hw hK
    obtain ⟨hz, hTI, ⟨x0, y0, hTO⟩, h1, h2⟩ := st
    obtain ⟨xs, ys, x, y, hqx, hqy, hx, hy⟩ := hg
    obtain ⟨its, rv, p, _, la⟩ := inv_seqK I hqx
    obtain ⟨its2, rv2, p2, _, lb⟩ := inv_seqK I hqy
    obtain ⟨u, hu, ru⟩ := rv.get hx
    obtain ⟨u2, hu2, ru2⟩ := rv2.get hy
    have hzl : z < s.heap.objs.size := Heap.lt_size hz
    have hh : X.A.in1.handled = none := I.ok.hd hc
    have n1 : a ≠ i1 := hasK_ne p h1
    have n2 : b ≠ i2 := hasK_ne p2 h2
    have hlt1 : i < its.toArray.size := by
      have := (List.getElem?_eq_some_iff.mp hu).1
      simpa using this
    have hlt2 : i < its2.toArray.size := by
      have := (List.getElem?_eq_some_iff.mp hu2).1
      simpa using this
    refine wpAny_pyNext_zipD2_item (prog := X.prog) (w := X.w) D (drawsK hh i1 a n1 its.toArray) (drawsK hh i2 b n2 its2.toArray) hz hTI hTO ⟨h1, p⟩ ⟨h2, p2⟩ hlt1 hlt2 fun x1 x2 h' tk q1 q2 z' TO' s1 s2 hT hsz hk => ?_
    have e1 : x1 = u := by
      have : its.toArray[i]? = some u := by simpa using hu
      rw [this] at q1; exact (Option.some.inj q1).symm
    have e2 : x2 = u2 := by
      have : its2.toArray[i]? = some u2 := by simpa using hu2
      rw [this] at q2; exact (Option.some.inj q2).symm
    subst e1 e2
    refine ⟨_, rfl, wpAny_letOwnedTupleGo_zip (s := { s with heap := h', toks := tk }) z' fun h'' z'' sb => ?_⟩
    have hT2 : h''.get? s.heap.objs.size = some { cls := .type "tuple", data := .seq #[x1, x2] } := (sb.2 _ (Nat.ne_of_gt hzl)).trans hT
    have new : ObjOk X.prog X.w (upd H s.heap.objs.size (.tup [x, y])) h'' s.heap.objs.size (.tup [x, y]) :=
      ⟨by show 2 ≤ sizeLine; decide, [x1, x2], .cons ru (.cons ru2 .nil), ⟨_, hT2, rfl, _, rfl⟩⟩
    have I1 : Inv X pins σ (upd H s.heap.objs.size (.tup [x, y])) { s with heap := h'', toks := tk } :=
      I.turnedNew (t' := tk) (ch := [z, TI, TO, i1, i2]) (fun c o hb q => (sb.2 c (fun q' => hb (by simp [q']))).trans (hk c o (fun q' => hb (by simp [q'])) (fun q' => hb (by simp [q'])) (fun q' => hb (by simp [q'])) (fun q' => hb (by simp [q'])) q)) hf (Nat.le_refl _) new
    refine ⟨.ref s.heap.objs.size, _, I1, rfl, ⟨_, x, y, rfl, I.hok.fresh (Nat.le_refl _), rfl, fun l hl => by rw [inv_seqK_inj I hl hqx]; exact hx, fun l hl => by rw [inv_seqK_inj I hl hqy]; exact hy⟩, ⟨z'', ?_, ⟨x1, x2, ?_⟩, ?_, ?_⟩, fun c hcm => ?_⟩
    · exact (sb.2 _ D.TIz).trans (hk _ _ D.TIz D.TITO D.TIi1 D.TIi2 hTI)
    · exact (sb.2 _ D.TOz).trans TO'
    · exact iterK_at s1.1 fun o q => (sb.2 _ D.zi1.symm).trans q
    · exact iterK_at s2.1 fun o q => (sb.2 _ D.zi2.symm).trans q
    · have hlt : c < s.heap.objs.size := by
        have e' : c = z ∨ c = TI ∨ c = TO ∨ c = i1 ∨ c = i2 := by simpa using hcm
        rcases e' with q | q | q | q | q
        · rw [q]; exact hzl
        · rw [q]; exact Heap.lt_size hTI
        · rw [q]; exact Heap.lt_size hTO
        · rw [q]; obtain ⟨_, e1, _⟩ := iterK_get h1; exact Heap.lt_size e1
        · rw [q]; obtain ⟨_, e2, _⟩ := iterK_get h2; exact Heap.lt_size e2
      rw [upd_ne (Nat.ne_of_lt hlt)]
      exact (hf c hcm).1
  done := by
    intro X hP hw hK hc i pins s σ H E I hf st hg
    subst hP hw hK
    obtain ⟨hz, hTI, ⟨x0, y0, hTO⟩, h1, h2⟩ := st
    obtain ⟨xs, ys, hqx, hqy, hi1, hi2, hend⟩ := hg
    obtain ⟨its, rv, p, _, la⟩ := inv_seqK I hqx
    obtain ⟨its2, rv2, p2, _, lb⟩ := inv_seqK I hqy
    have l1 := rv.length
    have l2 := rv2.length
    have hh : X.A.in1.handled = none := I.ok.hd hc
    have n1 : a ≠ i1 := hasK_ne p h1
    have n2 : b ≠ i2 := hasK_ne p2 h2
    refine wpAny_pyNext_zipD2_end (prog := X.prog) (w := X.w) D (drawsK hh i1 a n1 its.toArray) (drawsK hh i2 b n2 its2.toArray) hz hTI hTO ⟨h1, p⟩ ⟨h2, p2⟩ (by simp; omega) (by simp; omega) (by simp; omega) fun h' tk hk => ⟨rfl, I.turnedL (t' := tk) (ch := [z, TI, TO, i1, i2]) (fun c o hb q =>
      hk c o (fun q' => hb (by simp [q'])) (fun q' => hb (by simp [q'])) (fun q' => hb (by simp [q'])) (fun q' => hb (by simp [q'])) q) hf⟩
  self := fun A i s Q E st h => wpAny_pyIter_zip st.1 h
def iZipK (K : PySem.W.Frag) (ta : TA) : TI := fun σ H R => ta σ H fun vs H1 => ∃ k1 a k2 b xs ys, vs = [.ref a, .ref b] ∧ SqK k1 K H1 a xs ∧ SqK k2 K H1 b ys ∧ (xs.length ≤ sizeLine → R (ItzK K k1 a k2 b) H1)
theorem pi_zipK {X : Cx} {e e2 : Expr} {ta : TA} {p pos tpos : Pos} {elts : List Expr} {kk : Nat} (hg : Gl X "zip") (hm : X.mg "zip" = none) (ha : PA X [e, e2] ta)
    (hs : starEach [e, e2] X.env = (false, eval e X.env) :: starEach [e2] X.env := by rfl) (hpl : (backTo pos (starEach [e2] X.env)).any (·.1) = false := by rfl) :
    PI X (.Tuple elts kk tpos) (.Call (.Name "zip" p) [e, e2] [] pos) (iZipK X.K ta) := by
  refine ⟨fun pins s σ H R I h => ?_⟩
  refine Call_ (ld_blt I hg hm PyProof.Rows.boot_zip (PyProof.Rows.callWith_type1 (thn (ha.run pos pins s σ H _ I h) fun us s1 ⟨vs, H1, I1, r1, q1⟩ => ?_) hs hpl))
  obtain ⟨k1, a, k2, b, xs, ys, ex, hqx, hqy, q⟩ := q1
  subst ex
  cases r1 with
  | cons r rr =>
    cases rr with
    | cons r' rr =>
      cases rr
      cases r
      cases r'
      obtain ⟨its, rv, p1, z1, la⟩ := inv_seqK I1 hqx
      obtain ⟨its2, rv2, p2, _, lb⟩ := inv_seqK I1 hqy
      refine zip_begins2 (beginsK a its.toArray) (beginsK b its2.toArray) p1 p2 fun h' hz hTI hTO h1 h2 hsz hk => wpAny_pyIter_zip hz ?_
      have I2 : Inv X pins σ H1 { s1 with heap := h' } := I1.kept (t' := s1.toks) hk
      refine ⟨s1.heap.objs.size + 4, [s1.heap.objs.size + 4, s1.heap.objs.size + 2, s1.heap.objs.size + 3, s1.heap.objs.size, s1.heap.objs.size + 1], _, _, H1, rfl, I2, turn_zipK (zip_sep2 (N := s1.heap.objs.size) (fp1 := [a]) (fp2 := [b]) (by simpa using la) (by simpa using lb)), ⟨hz, hTI, ⟨_, _, hTO⟩, iterK_new h1, iterK_new h2⟩, fun c hcm => ?_, q z1⟩
      have e' : c = s1.heap.objs.size + 4 ∨ c = s1.heap.objs.size + 2 ∨ c = s1.heap.objs.size + 3 ∨ c = s1.heap.objs.size ∨ c = s1.heap.objs.size + 1 := by simpa using hcm
      have hle : s1.heap.objs.size ≤ c := by
        rcases e' with z | z | z | z | z
        · rw [z]; exact Nat.le_add_right _ _
        · rw [z]; exact Nat.le_add_right _ _
        · rw [z]; exact Nat.le_add_right _ _
        · rw [z]; exact Nat.le_refl _
        · rw [z]; exact Nat.le_add_right _ _
      exact I1.fpOk hle (I1.hok.fresh hle)

/-! ### enumerate of a tuple -/
theorem meets_enumerate_new1 {v : Value} {o : Obj} {H : Heap → Prop} (B : Begins v o H) :
    Meets (Builtin.«enumerate.__new__» ⟨[.type "enumerate", v], []⟩) (fun _ R s => H s.heap ∧
      R (.ok (.ret (.ref (s.heap.push o).objs.size))) { s with heap := (s.heap.push o).push { cls := .type "enumerate", data := .fields #[.none, .bool false, .ref s.heap.objs.size, rawInt 0, .none, .none] } }) :=
  .of_wp fun prog w A R s h => by
    obtain ⟨hp, g, d, tk, os⟩ := s; obtain ⟨h1, h⟩ := h
    have hsub := sub_enumerate
    have q1 : ∀ {A' : Around} {E : Value → Shared → Prop} {Q : Value → Shared → Prop}, Q (.ref hp.objs.size) ⟨hp.push o, g, d, tk, os⟩ → wpAny (model prog w) A' (pyIter v) Q E ⟨hp, g, d, tk, os⟩ :=
      fun q => B.iter prog w _ _ ⟨hp, g, d, tk, os⟩ _ h1 q
    wp_walk using q1
    refine wpAny_stack_any fun st => wpAny_pure ?_
    split
    · rename_i c _ _ _ _ _
      cases (c == Value.type "enumerate")
      · wp_walk using q1
        exact ⟨_, rfl, h⟩
      · wp_walk using q1
        exact ⟨_, rfl, h⟩
    · wp_walk using q1
      exact ⟨_, rfl, h⟩
theorem enum_begins1 {prog : Program} {w : World} {A : Around} {E : Value → Shared → Prop} {s : Shared} {v : Value} {o : Obj} {H : Heap → Prop} {Q : Value → Shared → Prop} (B : Begins v o H) (h1 : H s.heap)
    (h : ∀ h', IsEnum h' (s.heap.objs.size + 1) s.heap.objs.size 0 .none → h'.get? s.heap.objs.size = some o → h'.objs.size = s.heap.objs.size + 2 →
      (∀ b o, s.heap.get? b = some o → h'.get? b = some o) → Q (.ref (s.heap.objs.size + 1)) { s with heap := h' }) :
    wpAny (model prog w) A (call (.type "enumerate") [v]) Q E s := by
  refine callType_new F.called_enumerate (by decide) (F.typeCall_enumerate_1 _) (F.newCall_enumerate_1 _) (fun obj => F.args_object_init_2 obj _) F.entry_enumerate_new
    (meets_enumerate_new1 B) ⟨h1, ?_⟩
  have hz : (s.heap.push o).objs.size = s.heap.objs.size + 1 := Heap.size_push ..
  show _ ∧ _
  rw [hz]
  have he : IsEnum ((s.heap.push o).push { cls := .type "enumerate", data := .fields #[.none, .bool false, .ref s.heap.objs.size, rawInt 0, .none, .none] }) (s.heap.objs.size + 1) s.heap.objs.size 0 .none := by
    have := Heap.get?_push_size (s.heap.push o) (o := { cls := .type "enumerate", data := .fields #[.none, .bool false, .ref s.heap.objs.size, rawInt 0, .none, .none] }) rfl
    rw [hz] at this; exact this
  refine ⟨⟨_, he, rfl⟩, h _ he (Heap.get?_push_of_some _ (Heap.get?_push_size _ B.free)) (by rw [Heap.size_push, hz]) fun b o x => Heap.get?_push_of_some _ (Heap.get?_push_of_some _ x)⟩
def IteK (K : PySem.W.Frag) (k : Bool) (a : Addr) : It :=
  ⟨fun i H => ∃ (xs : List V) (x : V), SqK k K H a xs ∧ xs[i]? = some x, fun i H v H' => ∃ T x, v = .ref T ∧ H T = none ∧ H' = upd H T (.tup [.int (i : Nat), x]) ∧ ∀ xs, SqK k K H a xs → xs[i]? = some x, fun i H => ∃ xs : List V, SqK k K H a xs ∧ xs.length = i⟩
theorem turn_enumK {P : Program} {w : World} {K : PySem.W.Frag} {elts : List Expr} {kk : Nat} {tpos : Pos} {k : Bool} (a e it : Addr) (hei : e ≠ it) (hea : e ≠ a) :
    Turn P w K (.Tuple elts kk tpos) (IteK K k a) [e, it] e (fun i h => (∃ old, IsEnum h e it ((i : Nat) : Int) old) ∧ IterK k h it a i) where
  mem := by simp
  obj := fun i h st b hb => by
    obtain ⟨⟨old, he⟩, hi⟩ := st
    have e' : b = e ∨ b = it := by simpa using hb
    rcases e' with z | z
    · rw [z]; exact ⟨_, he, fun v q => nomatch q⟩
    · rw [z]; exact iterK_get hi
  keep := fun i h h' st k => let ⟨⟨old, he⟩, hi⟩ := st; ⟨⟨old, k e (by simp) _ he⟩, iterK_at hi fun o q => k it (by simp) o q⟩
  item := by
    intro X hP hw hK hc i pins s σ H E I hf st hg
    subst hP hw hK
    obtain ⟨⟨old, he⟩, hit⟩ := st
    obtain ⟨xs, x, hq, hx⟩ := hg
    obtain ⟨its, rv, p, hz, la⟩ := inv_seqK I hq
    obtain ⟨u, hu, ru⟩ := rv.get hx
    have hel : e < s.heap.objs.size := Heap.lt_size he
    have hil : it < s.heap.objs.size := by obtain ⟨_, q, _⟩ := iterK_get hit; exact Heap.lt_size q
    have hh : X.A.in1.handled = none := I.ok.hd hc
    have n1 : a ≠ it := hasK_ne p hit
    have hlt1 : i < its.toArray.size := by
      have := (List.getElem?_eq_some_iff.mp hu).1
      simpa using this
    refine wpAny_pyNext_enum_itemC (prog := X.prog) (w := X.w) (drawsK hh it a n1 its.toArray) he ⟨hit, p⟩ hlt1 hei (by simp [hei, hea]) fun x1 h' tk q1 ho hs' hT hsz hk => ?_
    have e1 : x1 = u := by
      have : its.toArray[i]? = some u := by simpa using hu
      rw [this] at q1; exact (Option.some.inj q1).symm
    subst e1
    refine ⟨_, rfl, wpAny_letOwnedTupleGo_enum (s := { s with heap := h', toks := tk + 1 }) ho fun h'' he' sb => ?_⟩
    have hT2 : h''.get? s.heap.objs.size = some { cls := .type "tuple", data := .seq #[.int i tk, x1] } := (sb.2 _ (Nat.ne_of_gt hel)).trans hT
    have new : ObjOk X.prog X.w (upd H s.heap.objs.size (.tup [.int (i : Nat), x])) h'' s.heap.objs.size (.tup [.int (i : Nat), x]) :=
      ⟨by show 2 ≤ sizeLine; decide, [.int i tk, x1], .cons ⟨_, rfl⟩ (.cons ru .nil), ⟨_, hT2, rfl, _, rfl⟩⟩
    have I1 : Inv X pins σ (upd H s.heap.objs.size (.tup [.int (i : Nat), x])) { s with heap := h'', toks := tk + 1 } :=
      I.turnedNew (ch := [e, it]) (fun b ob hb q => (sb.2 b (fun z => hb (by simp [z]))).trans (hk b ob (fun z => hb (by simp [z])) (fun z => hb (by simp [z])) q)) hf (Nat.le_refl _) new
    refine ⟨.ref s.heap.objs.size, _, I1, rfl, ⟨_, x, rfl, I.hok.fresh (Nat.le_refl _), rfl, fun ys hy => by rw [inv_seqK_inj I hy hq]; exact hx⟩, ⟨⟨x1, ?_⟩, iterK_at hs'.1 fun o q => (sb.2 it (Ne.symm hei)).trans q⟩, fun b hb => ?_⟩
    · have e1 : ((i + 1 : Nat) : Int) = (i : Int) + 1 := by omega
      rw [e1]; exact he'
    · have hb' : b < s.heap.objs.size := by
        have e' : b = e ∨ b = it := by simpa using hb
        rcases e' with z | z
        · rw [z]; exact hel
        · rw [z]; exact hil
      rw [upd_ne (Nat.ne_of_lt hb')]
      exact (hf b hb).1
  done := by
    intro X hP hw hK hc i pins s σ H E I hf st hg
    subst hP hw hK
    obtain ⟨⟨old, he⟩, hit⟩ := st
    obtain ⟨xs, hq, hx⟩ := hg
    obtain ⟨its, rv, p, hz, la⟩ := inv_seqK I hq
    have hl := rv.length
    have hh : X.A.in1.handled = none := I.ok.hd hc
    have n1 : a ≠ it := hasK_ne p hit
    have hn : its.toArray.size = i := by simp; omega
    have st0 : IterK k s.heap it a its.toArray.size ∧ HasK k s.heap a its.toArray := by
      rw [hn]
      exact ⟨hit, p⟩
    refine wpAny_pyNext_enum_endD (prog := X.prog) (w := X.w) (drawsK hh it a n1 its.toArray) he st0 fun h' eb => ⟨rfl, I.turnedL (t' := s.toks) (ch := [e, it]) (fun b o hb q => eb b o (fun z => hb (by simp [z])) q) hf⟩
  self := fun A i s Q E st h => let ⟨⟨_, he⟩, _⟩ := st; wpAny_pyIter_enum he h
def iEnumK (K : PySem.W.Frag) (ta : TA) : TI := fun σ H R => ta σ H fun vs H1 => ∃ k a xs, vs = [.ref a] ∧ SqK k K H1 a xs ∧ (xs.length ≤ sizeLine → R (IteK K k a) H1)
theorem pi_enumK {X : Cx} {e : Expr} {ta : TA} {p pos tpos : Pos} {elts : List Expr} {kk : Nat} (hg : Gl X "enumerate") (hm : X.mg "enumerate" = none) (ha : PA X [e] ta) (hs : starEach [e] X.env = [(false, eval e X.env)] := by rfl) :
    PI X (.Tuple elts kk tpos) (.Call (.Name "enumerate" p) [e] [] pos) (iEnumK X.K ta) := by
  refine ⟨fun pins s σ H R I h => ?_⟩
  refine Call_ (ld_blt I hg hm boot_enumerate (PyProof.Rows.callWith_type1 (thn (ha.run pos pins s σ H _ I h) fun us s1 ⟨vs, H1, I1, r1, q1⟩ => ?_) hs rfl))
  obtain ⟨k, a, xs, ex, hq, q⟩ := q1
  subst ex
  cases r1 with
  | cons r rr =>
    cases rr
    cases r
    obtain ⟨its, rv, p', hz, la⟩ := inv_seqK I1 hq
    refine enum_begins1 (beginsK a its.toArray) p' fun h' he hit hsz hk => wpAny_pyIter_enum he ?_
    have I2 : Inv X pins σ H1 { s1 with heap := h' } := I1.kept (t' := s1.toks) hk
    have la' : a < s1.heap.objs.size := la
    refine ⟨s1.heap.objs.size + 1, [s1.heap.objs.size + 1, s1.heap.objs.size], _, _, H1, rfl, I2, turn_enumK a (s1.heap.objs.size + 1) s1.heap.objs.size (Nat.succ_ne_self _) (Nat.ne_of_gt (Nat.lt_succ_of_lt la')), ⟨⟨.none, he⟩, iterK_new hit⟩, fun b hb => ?_, q hz⟩
    have e' : b = s1.heap.objs.size + 1 ∨ b = s1.heap.objs.size := by simpa using hb
    have hle : s1.heap.objs.size ≤ b := by
      rcases e' with z | z
      · rw [z]; exact Nat.le_add_right _ _
      · rw [z]; exact Nat.le_refl _
    exact I1.fpOk hle (I1.hok.fresh hle)

/-! ### xs.extend(t), t a tuple -/
open AutoSeq1 (wpAny_loadPart') in
theorem extend_tupleW (l : Addr) (items : Array Value) (n : Nat) (b : Addr) (items2 : Array Value) (n2 : Nat) (dd : Option Addr) (sl : Array (Option Value)) (hs0 : ¬(!items.isEmpty && Builtin.List.listTooLong (items.size + items2.size)) = true) (hs1 : items.size ≤ sizeLine) (hs2 : items.size + items2.size ≤ sizeLine + 1) :
    Meets (Builtin.«list.extend» ⟨[.ref l, .ref b], []⟩) (fun _ R s => s.heap.get? l = some { cls := .type "list", dict := none, data := .seq items n, slots := #[] } ∧ s.heap.get? b = some { cls := .type "tuple", dict := dd, data := .seq items2 n2, slots := sl } ∧ R (.ok (.ret Value.none)) { s with heap := s.heap.update l (Obj.mapSeq fun x => x ++ items2), toks := s.toks }) :=
  .of_wp fun prog w A R s h => by
    obtain ⟨hp, g, d, tk, os⟩ := s
    obtain ⟨hl, hb, h⟩ := h
    have f3 := sub_list_list
    have f4 := sub_tuple_list
    have f2 := sub_tuple_tuple
    have f5 := sub_list_tuple
    have hz' : (items ++ items2).size ≤ sizeLine + 1 := by rw [Array.size_append]; exact hs2
    wp_walk using (wpAny_updateSeq hl rfl (hz := hs1) (_hz' := hz')), wpAny_loadPart' hl, wpAny_loadPart' hb
    exact ⟨_, rfl, h⟩
def rExtendT (K : PySem.W.Frag) : V → List V → Hp → VK → Prop := fun x vs H Q => ∃ l b xs zs, x = .ref l ∧ vs = [.ref b] ∧ H l = some (.lst xs) ∧ SqT K H b zs ∧ xs.length + zs.length ≤ sizeLine ∧ Q .non (upd H l (.lst (xs ++ zs)))
theorem mt_extendT {X : Cx} : MtM X "list.extend" (rExtendT X.K) := by
  intro pins s σ H x vs v us Q I rx rv h
  obtain ⟨l, b, xs, zs, rfl, rfl, hH, hB, hz, q⟩ := h
  cases rx
  obtain ⟨u, rfl, ru⟩ := rv.one
  cases ru
  obtain ⟨z, its, n, r, hl, e⟩ := I.lstM hH
  obtain ⟨its2, r2, p2, z2⟩ := I.tuple hB
  obtain ⟨⟨oc, od, dt, sl⟩, e2, hc, n2, hd⟩ := p2
  simp only at hc hd
  subst hc hd
  have hl2 := r2.length
  have hsz : its.toArray.size + its2.toArray.size ≤ sizeLine := by rw [List.size_toArray, List.size_toArray]; omega
  have hlong : ¬ (!its.toArray.isEmpty && Builtin.List.listTooLong (its.toArray.size + its2.toArray.size)) = true := by
    rw [notLongL hsz, Bool.and_false]
    exact Bool.false_ne_true
  refine call_meets F.slot_list_extend ⟨_, e, rfl⟩ F.entry_list_extend (F.args_list_extend_2 _ _)
    (extend_tupleW l its.toArray n b its2.toArray n2 od sl hlong (by rw [List.size_toArray]; omega) (by omega)) ⟨e, e2, ?_⟩
  refine ⟨.non, _, I.lset (its' := its ++ its2) hH e (by simp) (r.append r2) ?_, rfl, q⟩
  rw [List.length_append]
  omega
/-- a list or a tuple -/
def rExtendA (K : PySem.W.Frag) : V → List V → Hp → VK → Prop := fun x vs H Q => rExtend x vs H Q ∨ rExtendT K x vs H Q
theorem mt_extendA {X : Cx} : MtR X "list.extend" (rExtendA X.K) := MtR.or mt_extend mt_extendT
end DL

set_option Elab.async false
set_option linter.all false
set_option maxRecDepth 100000
set_option maxHeartbeats 4000000
namespace DL
open PySem PySem.Spec PyProof.Rows L2

/-! ### the frame of a reading: what is not mine stays -/
def Held (σ : L2.St) (ρ : Env) (H F : Hp) (σ' : L2.St) (ρ' : Env) (H' F' : Hp) : Prop := ∀ p o, H p = some o → Apart σ ρ p → H' p = some o ∧ (F p = none → F' p = none) ∧ Apart σ' ρ' p
theorem Held.trans {σ σ1 σ2 : L2.St} {ρ ρ1 ρ2 : Env} {H F H1 F1 H2 F2 : Hp} (a : Held σ ρ H F σ1 ρ1 H1 F1) (b : Held σ1 ρ1 H1 F1 σ2 ρ2 H2 F2) : Held σ ρ H F σ2 ρ2 H2 F2 := fun p o e ap => by
  obtain ⟨h1, h2, h3⟩ := a p o e ap
  obtain ⟨g1, g2, g3⟩ := b p o h1 h3
  exact ⟨g1, fun n => g2 (h2 n), g3⟩
section
variable {K : PySem.W.Frag} {b : Bs} {σ σ' : L2.St} {H F H' F' : Hp} {ρ ρ' : Env}
theorem held_of (h : StOk K b σ H F ρ) (h' : StOk K (now σ ρ H F) σ' H' F' ρ') : StOk K b σ' H' F' ρ' ∧ Same F F' ∧ Held σ ρ H F σ' ρ' H' F' := by
  obtain ⟨a, s, k⟩ := h.back h'
  exact ⟨a, s, fun p o e ap => ⟨(k p o e ap).1, (k p o e ap).2, h.apartNow h' e ap⟩⟩
theorem SndE.fr {t : TE} {w : WE} (hs : SndE K t w) {post : Env → D → Prop} (I : StOk K b σ H F ρ) (hw : w ρ post) {Q : VK}
    (q : ∀ v H' F' ρ' d, Same F F' → StOk K b σ H' F' ρ' → At K F' d v → post ρ' d → Held σ ρ H F σ ρ' H' F' → Q v H') : t σ H Q :=
  hs _ σ H F ρ post I.now hw Q fun v H' F' ρ' d s I' a h => by
    obtain ⟨g1, g2, g3⟩ := held_of I I'
    exact q v H' F' ρ' d s g1 a h g3
theorem SndN.fr {t : TE} {w : WN} (hs : SndN K t w) {post : Env → List D → Prop} (I : StOk K b σ H F ρ) (hw : w ρ post) {Q : VK}
    (q : ∀ p vs H' F' ρ' l, Same F F' → StOk K b σ H' F' ρ' → H' p = some (.lst vs) → F' p = none → b.H0 p = none → H p = none → Apart σ ρ' p → AtL K F' l vs → post ρ' l → Held σ ρ H F σ ρ' H' F' → Q (.ref p) H') : t σ H Q :=
  hs _ σ H F ρ post I.now hw Q fun p vs H' F' ρ' l s I' e1 e2 e3 ap a h => by
    obtain ⟨g1, g2, g3⟩ := held_of I I'
    exact q p vs H' F' ρ' l s g1 e1 e2 (I.fb.there p e3) e3 ap a h g3
theorem SndT.fr {t : TT} {w : WT} (hs : SndT K t w) {post : Env → Bool → Prop} (I : StOk K b σ H F ρ) (hw : w ρ post) {Q : Bool → Hp → Prop}
    (q : ∀ c H' F' ρ', Same F F' → StOk K b σ H' F' ρ' → post ρ' c → Held σ ρ H F σ ρ' H' F' → Q c H') : t σ H Q :=
  hs _ σ H F ρ post I.now hw Q fun c H' F' ρ' s I' h => by
    obtain ⟨g1, g2, g3⟩ := held_of I I'
    exact q c H' F' ρ' s g1 h g3
end

/-! ### sequences -/
theorem seq_at {K : PySem.W.Frag} {F : Hp} {d : D} {l : List D} {v : V} (a : At K F d v) (h : items d = some l) : ∃ k r vs, v = .ref r ∧ AtL K F l vs ∧ ∀ F2 H2 : Hp, Same F F2 → Same F2 H2 → SqK k K H2 r vs := by
  cases d with
  | tup ds =>
    cases h
    cases a with
    | tup hs ha => exact ⟨true, _, _, rfl, ha, fun F2 H2 s1 s2 => same_t s2 (same_t s1 hs)⟩
  | lst ds =>
    cases h
    cases a with
    | lst hs ha => exact ⟨false, _, _, rfl, ha, fun F2 H2 s1 s2 => .inl (.inl (s2 _ _ (s1 _ _ hs)))⟩
  | _ => cases h
theorem atI_at {K : PySem.W.Frag} {F : Hp} {l : List D} {vs : List V} {i : Int} {d : D} (a : AtL K F l vs) (h : atI l i = some d) : ∃ v, atI vs i = some v ∧ At K F d v := by
  unfold atI at h ⊢
  rw [← a.length]
  cases e : ixN l.length i with
  | none => rw [e] at h; cases h
  | some j =>
    rw [e] at h
    exact a.get h
def wIx : R2D := fun x y post => match items x, y with
  | some l, .int i => (match atI l i with
    | some d => post d
    | none => False)
  | _, _ => False
section
variable {X : Cx} {a b e : Expr} {wa wb w : WE} {pos p2 : Pos} {lo hi : Option Expr}
theorem d_ix (ha : DE X a wa) (hb : DE X b wb) (hs : PlainIx b := by exact fun _ _ => rfl) : DE X (.Subscript a b pos) (wOp wIx wa wb) := by
  obtain ⟨ta, a1, a2⟩ := ha.ex
  obtain ⟨tb, b1, b2⟩ := hb.ex
  refine .of ⟨_, pe_ix ix_seq a1 b1 hs, snd_op (fun F H x y d1 d2 post s at1 at2 h Q q => ?_) a2 b2⟩
  unfold wIx at h
  split at h
  · rename_i l i el
    split at h
    · rename_i d ed
      cases at2
      obtain ⟨r, vs, rfl, sq, al⟩ := items_at s at1 el
      obtain ⟨v, ev, av⟩ := atI_at al ed
      rcases sq with sq | sq
      · exact .inl ⟨r, vs, i, v, rfl, rfl, sq, ev, q v H F d (Grow.refl s) av h⟩
      · exact .inr (.inl ⟨r, vs, i, v, rfl, rfl, sq, ev, q v H F d (Grow.refl s) av h⟩)
    · exact h.elim
  · exact h.elim
/-- a part of a slice -/
abbrev WOp := Env → (Env → Option Int → Prop) → Prop
def canO (K : PySem.W.Frag) (w : WOp) : TO := fun σ H Q => ∃ (b : Bs) (F : Hp) (ρ : Env) (post : Env → Option Int → Prop), StOk K b σ H F ρ ∧ w ρ post ∧ ∀ o H' F' ρ', Same F F' → StOk K b σ H' F' ρ' → post ρ' o → Q o H'
structure DO (X : Cx) (e : Option Expr) (w : WOp) : Prop where
  run : PO X e (canO X.K w)
def wNo : WOp := fun ρ post => post ρ none
def wSome (w : WE) : WOp := fun ρ post => w ρ fun ρ1 d => match d with
  | .int i => post ρ1 (some i)
  | _ => False
theorem do_none : DO X none wNo := ⟨⟨fun pins s σ H Q I ⟨b, F, ρ, post, i, hw, q⟩ => po_none.run pins s σ H Q I (q none H F ρ (Same.refl _) i hw)⟩⟩
theorem do_some (h : DE X e w) : DO X (some e) (wSome w) := by
  obtain ⟨t, h1, h2⟩ := h.ex
  refine ⟨⟨fun pins s σ H Q I ⟨b, F, ρ, post, i, hw, q⟩ => (po_some h1).run pins s σ H Q I (h2 b σ H F ρ _ i hw _ fun v H1 F1 ρ1 d s1 I1 a1 h1 => ?_)⟩⟩
  split at h1
  · cases a1
    exact ⟨_, rfl, q _ H1 F1 ρ1 s1 I1 h1⟩
  · exact h1.elim
/-- the items of xs[lo:hi] -/
def cutD (xs : List D) (lo hi : Option Int) : List D := (xs.drop (HT.sIx xs.length 0 lo)).take (HT.sIx xs.length xs.length hi - HT.sIx xs.length 0 lo)
theorem cut_at {K : PySem.W.Frag} {F : Hp} {l : List D} {vs : List V} (a : AtL K F l vs) (lo hi : Option Int) : AtL K F (cutD l lo hi) (cutV vs lo hi) := by
  unfold cutD cutV
  rw [a.length]
  exact (a.drop _).take _
theorem cut_whole {l : List V} {lo hi : Option Int} (h : HT.sIx l.length 0 lo = 0 ∧ HT.sIx l.length l.length hi = l.length) : cutV l lo hi = l := by
  unfold cutV
  rw [h.1, h.2, List.drop_zero, Nat.sub_zero, List.take_length]
def wSlT (w : WE) (wl wh : WOp) : WE := fun ρ post => w ρ fun ρ1 d => wl ρ1 fun ρ2 l => wh ρ2 fun ρ3 u => match d with
  | .tup xs => post ρ3 (.tup (cutD xs l u))
  | _ => False
def wSlL (w : WE) (wl wh : WOp) : WN := fun ρ post => w ρ fun ρ1 d => wl ρ1 fun ρ2 l => wh ρ2 fun ρ3 u => match d with
  | .lst xs => post ρ3 (cutD xs l u)
  | _ => False
theorem d_sliceT {wl wh : WOp} (he : DE X e w) (hl : DO X lo wl) (hu : DO X hi wh) : DE X (.Subscript e (.Slice lo hi none p2) pos) (wSlT w wl wh) := by
  obtain ⟨t, h1, h2⟩ := he.ex
  refine .of ⟨_, pe_slice sl_tupA h1 hl.run hu.run, fun b σ H F ρ post I hw Q q => h2 b σ H F ρ _ I hw _ fun v H1 F1 ρ1 d s1 I1 a1 h1 =>
    ⟨b, F1, ρ1, _, I1, h1, fun o1 H2 F2 ρ2 s2 I2 h2 => ⟨b, F2, ρ2, _, I2, h2, fun o2 H3 F3 ρ3 s3 I3 h3 => ?_⟩⟩⟩
  split at h3
  · cases a1 with
    | @tup r vs _ hs ha =>
      have sq : SqT X.K H3 r vs := same_t I3.fb.sub (same_t s3 (same_t s2 hs))
      have hc := cut_at ((ha.up s2).up s3) o1 o2
      refine ⟨r, vs, rfl, sq, fun hh => ?_, fun _ p hp => ?_⟩
      · rw [cut_whole hh] at hc
        exact q _ H3 F3 ρ3 _ ((s1.trans s2).trans s3) I3 (.tup (same_t s3 (same_t s2 hs)) hc) h3
      · have g := Grow.add (o := .tup (cutV vs o1 o2)) I3.fb.sub hp
        exact q _ _ _ ρ3 _ (((s1.trans s2).trans s3).trans g.f) (I3.grow g) (.tup (.inl (.inl upd_same)) (hc.up g.f)) h3
  · exact h3.elim
theorem dn_sliceL {wl wh : WOp} (he : DE X e w) (hl : DO X lo wl) (hu : DO X hi wh) : DN X (.Subscript e (.Slice lo hi none p2) pos) (wSlL w wl wh) := by
  obtain ⟨t, h1, h2⟩ := he.ex
  refine .of ⟨_, pe_slice sl_list h1 hl.run hu.run, fun b σ H F ρ post I hw Q q => h2 b σ H F ρ _ I hw _ fun v H1 F1 ρ1 d s1 I1 a1 h1 =>
    ⟨b, F1, ρ1, _, I1, h1, fun o1 H2 F2 ρ2 s2 I2 h2 => ⟨b, F2, ρ2, _, I2, h2, fun o2 H3 F3 ρ3 s3 I3 h3 => ?_⟩⟩⟩
  split at h3
  · cases a1 with
    | @lst r vs _ hs ha =>
      have sq : SqL X.K H3 r vs := .inl (.inl (I3.fb.sub _ _ (s3 _ _ (s2 _ _ hs))))
      have hc := cut_at ((ha.up s2).up s3) o1 o2
      refine ⟨r, vs, rfl, sq, fun p hp => ?_⟩
      obtain ⟨I4, f1, f2, f3⟩ := new_list (vs := cutV vs o1 o2) I3 hp
      exact q p _ _ F3 ρ3 _ ((s1.trans s2).trans s3) I4 upd_same f1 f2 f3 hc h3
  · exact h3.elim
/-- a field of an object of the class at C whose fields are named ns: the j-th -/
def wFld (C : Addr) (ns : List Str) (j : Nat) (w : WE) : WE := fun ρ post => w ρ fun ρ1 d => match d with
  | .obj C' ns' l => C' = C ∧ ns' = ns ∧ (match l[j]? with
    | some x => post ρ1 x
    | none => False)
  | _ => False
def firstAt (ns : List Str) (f : Str) (j : Nat) : Bool := decide (ns[j]? = some f) && (ns.take j).all fun x => decide (x ≠ f)
theorem lookup_first {f : Str} : ∀ {fs : List (Str × V)} {j : Nat} {v : V}, firstAt (fs.map (·.1)) f j = true → (fs.map (·.2))[j]? = some v → fs.lookup f = some v
  | [], j, v, _, e => by simp at e
  | (g, x) :: r, 0, v, h, e => by
    have h1 : g = f := by
      have := (Bool.and_eq_true_iff.mp h).1
      simpa using this
    have e1 : x = v := by simpa using e
    subst h1 e1
    simp [List.lookup]
  | (g, x) :: r, j + 1, v, h, e => by
    have h0 := Bool.and_eq_true_iff.mp h
    have h1 : g ≠ f := by
      have := h0.2
      simp at this
      exact this.1
    have h2 : firstAt (r.map (·.1)) f j = true := by
      unfold firstAt
      have p1 := h0.1
      have p2 := h0.2
      rw [List.map_cons, List.take_succ_cons, List.all_cons] at p2
      have p2' := (Bool.and_eq_true_iff.mp p2).2
      rw [List.map_cons, List.getElem?_cons_succ] at p1
      rw [p1, p2']
      rfl
    have e1 : (r.map (·.2))[j]? = some v := by simpa using e
    have ih := lookup_first h2 e1
    have hb : (f == g) = false := beq_eq_false_iff_ne.mpr (Ne.symm h1)
    simp only [List.lookup, hb]
    exact ih
theorem d_fld {C : Addr} {ns : List Str} {f : Str} {j : Nat} (c : Cls X.K C) (n : NoAttr X.K C f) (hj : firstAt ns f j = true) (he : DE X e w) (hb : attributeBase e f X.env (eval e X.env) = eval e X.env := by rfl) : DE X (.Attribute e f pos) (wFld C ns j w) := by
  obtain ⟨t, h1, h2⟩ := he.ex
  refine .of ⟨_, pe_fld h1 hb, fun b σ H F ρ post I hw Q q => h2 b σ H F ρ _ I hw _ fun v H1 F1 ρ1 d s1 I1 a1 h1 => ?_⟩
  split at h1
  · obtain ⟨rfl, rfl, h1⟩ := h1
    split at h1
    · rename_i x ex
      cases a1 with
      | @obj r dx _ _ fs _ hs hn ha =>
        obtain ⟨u, eu, au⟩ := ha.get ex
        exact ⟨r, _, dx, fs, u, rfl, I1.fb.sub _ _ hs, c, n, lookup_first (by rw [hn]; exact hj) eu, q u H1 F1 ρ1 x s1 I1 au h1⟩
    · exact h1.elim
  · exact h1.elim
/-- a + b, a * k of lists -/
def wCat (wa wb : WE) : WN := fun ρ post => wa ρ fun ρ1 x => wb ρ1 fun ρ2 y => match x, y with
  | .lst l, .lst m => l.length + m.length ≤ 1000000 ∧ post ρ2 (l ++ m)
  | _, _ => False
def wRep (wa wb : WE) : WN := fun ρ post => wa ρ fun ρ1 x => wb ρ1 fun ρ2 y => match x, y with
  | .lst l, .int k => (k ≤ 1000000 ∧ -1000000 ≤ k ∧ l.length * k.toNat ≤ 1000000) ∧ post ρ2 (List.replicate k.toNat l).flatten
  | _, _ => False
theorem dn_cat (ha : DE X a wa) (hb : DE X b wb) : DN X (.BinOp a .Add b pos) (wCat wa wb) := by
  obtain ⟨ta, a1, a2⟩ := ha.ex
  obtain ⟨tb, b1, b2⟩ := hb.ex
  refine .of ⟨_, pe_op op_cat a1 b1, fun bs σ H F ρ post I h Q q => a2 bs σ H F ρ _ I h _ fun x H1 F1 ρ1 d1 s1 I1 at1 h1 => b2 bs σ H1 F1 ρ1 _ I1 h1 _ fun y H2 F2 ρ2 d2 s2 I2 at2 h2 => ?_⟩
  split at h2
  · cases at1 with
    | @lst r1 vs1 _ hs1 ha1 =>
      cases at2 with
      | @lst r2 vs2 _ hs2 ha2 =>
        refine ⟨r1, r2, vs1, vs2, rfl, rfl, I2.fb.sub _ _ (s2 _ _ hs1), I2.fb.sub _ _ hs2, ?_, fun p hp => ?_⟩
        · rw [← ha1.length, ← ha2.length]; exact sz h2.1
        · obtain ⟨I4, f1, f2, f3⟩ := new_list (vs := vs1 ++ vs2) I2 hp
          exact q p _ _ F2 ρ2 _ (s1.trans s2) I4 upd_same f1 f2 f3 ((ha1.up s2).append ha2) h2.2
  · exact h2.elim
theorem dn_rep (ha : DE X a wa) (hb : DE X b wb) : DN X (.BinOp a .Mult b pos) (wRep wa wb) := by
  obtain ⟨ta, a1, a2⟩ := ha.ex
  obtain ⟨tb, b1, b2⟩ := hb.ex
  refine .of ⟨_, pe_op op_rep a1 b1, fun bs σ H F ρ post I h Q q => a2 bs σ H F ρ _ I h _ fun x H1 F1 ρ1 d1 s1 I1 at1 h1 => b2 bs σ H1 F1 ρ1 _ I1 h1 _ fun y H2 F2 ρ2 d2 s2 I2 at2 h2 => ?_⟩
  split at h2
  · cases at1 with
    | @lst r1 vs1 _ hs1 ha1 =>
      cases at2
      obtain ⟨⟨g1, g2, g3⟩, h2⟩ := h2
      refine ⟨r1, _, vs1, rfl, rfl, I2.fb.sub _ _ (s2 _ _ hs1), by omega, by omega, ?_, fun p hp => ?_⟩
      · rw [← ha1.length]; exact sz g3
      · obtain ⟨I4, f1, f2, f3⟩ := new_list (vs := _) I2 hp
        exact q p _ _ F2 ρ2 _ (s1.trans s2) I4 upd_same f1 f2 f3 ((ha1.up s2).rep _) h2
  · exact h2.elim
/-- list(range(..)) -/
def intsD (lo hi : Int) : List D := (List.range (hi - lo).toNat).map fun i => .int (lo + (i : Nat))
theorem intsD_at {K : PySem.W.Frag} {F : Hp} (lo : Int) : ∀ n : Nat, AtL K F ((List.range n).map fun i => .int (lo + (i : Nat))) ((List.range n).map fun i => V.int (lo + (i : Nat)))
  | 0 => .nil
  | n + 1 => by
    rw [List.range_succ, List.map_append, List.map_append]
    exact (intsD_at lo n).append (.cons (.int _) .nil)
end
end DL

set_option Elab.async false
set_option linter.all false
set_option maxRecDepth 100000
set_option maxHeartbeats 4000000
namespace DL
open PySem PySem.Spec PyProof.Rows L2

/-! ### targets -/
abbrev WG := D → Env → (Env → Prop) → Prop
abbrev WGs := List D → Env → (Env → Prop) → Prop
/-- slots that are set, forgotten again -/
def Only (ts : List Nat) (σ σ' : L2.St) : Prop := σ'.length = σ.length ∧ ∀ i, i ∉ ts → σ'[i]? = σ[i]?
theorem Only.refl {ts : List Nat} {σ : L2.St} : Only ts σ σ := ⟨rfl, fun _ _ => rfl⟩
theorem Only.trans {ts us : List Nat} {σ σ1 σ2 : L2.St} (a : Only ts σ σ1) (b : Only us σ1 σ2) : Only (ts ++ us) σ σ2 :=
  ⟨b.1.trans a.1, fun i h => (b.2 i fun z => h (List.mem_append_right _ z)).trans (a.2 i fun z => h (List.mem_append_left _ z))⟩
theorem wipe_get (σ : L2.St) : ∀ (vs : List Nat) (i : Nat), (wipe σ vs)[i]? = if i ∈ vs then (if i < σ.length then some none else none) else σ[i]?
  | [], i => by simp [wipe]
  | v :: vs, i => by
    have ih := wipe_get σ vs i
    unfold wipe
    by_cases h : v = i
    · subst h
      have hm : v ∈ v :: vs := List.mem_cons_self
      rw [if_pos hm]
      by_cases hl : v < σ.length
      · rw [if_pos hl, List.getElem?_set_self (by rw [wipe_length]; exact hl)]
      · rw [if_neg hl, List.getElem?_eq_none (by rw [List.length_set, wipe_length]; omega)]
    · rw [List.getElem?_set_ne h, ih]
      by_cases hm : i ∈ vs
      · rw [if_pos hm, if_pos (List.mem_cons_of_mem _ hm)]
      · rw [if_neg hm, if_neg (fun z => by rcases List.mem_cons.mp z with z | z; exact h z.symm; exact hm z)]
theorem Only.wipe {ts vs : List Nat} {σ σ' : L2.St} (o : Only ts σ σ') (h : ∀ i ∈ ts, i ∈ vs) : L2.wipe σ' vs = L2.wipe σ vs := by
  apply List.ext_getElem?
  intro i
  rw [wipe_get, wipe_get, o.1]
  by_cases hm : i ∈ vs
  · rw [if_pos hm, if_pos hm]
  · rw [if_neg hm, if_neg hm, o.2 i fun z => hm (h i z)]
def canG (K : PySem.W.Frag) (ts : List Nat) (w : WG) : TG := fun v σ H Q => ∃ (b : Bs) (F : Hp) (ρ : Env) (d : D) (k : Env → Prop), StOk K b σ H F ρ ∧ At K F d v ∧ w d ρ k ∧ ∀ σ' H' F' ρ', Same F F' → StOk K b σ' H' F' ρ' → Only ts σ σ' → k ρ' → Q σ' H'
def canGs (K : PySem.W.Frag) (ts : List Nat) (w : WGs) : TGs := fun vs σ H Q => ∃ (b : Bs) (F : Hp) (ρ : Env) (ds : List D) (k : Env → Prop), StOk K b σ H F ρ ∧ AtL K F ds vs ∧ w ds ρ k ∧ ∀ σ' H' F' ρ', Same F F' → StOk K b σ' H' F' ρ' → Only ts σ σ' → k ρ' → Q σ' H'
structure DG (X : Cx) (e : Expr) (ts : List Nat) (w : WG) : Prop where
  run : PG X e (canG X.K ts w)
structure DGs (X : Cx) (es : List Expr) (ts : List Nat) (w : WGs) : Prop where
  run : PGs X es (canGs X.K ts w)
def gN (i : Nat) : WG := fun d ρ k => k (ρ.set i (.val d))
def gsN : WGs := fun ds ρ k => match ds with
  | [] => k ρ
  | _ => False
def gsC (g : WG) (r : WGs) : WGs := fun ds ρ k => match ds with
  | d :: ds => g d ρ fun ρ1 => r ds ρ1 k
  | [] => False
def gT (n : Nat) (r : WGs) : WG := fun d ρ k => match d with
  | .tup l => l.length = n ∧ r l ρ k
  | _ => False
theorem only_set {i : Nat} {σ : L2.St} {x : Option V} : Only [i] σ (σ.set i x) := ⟨List.length_set, fun j h => List.getElem?_set_ne fun z => h (by rw [z]; exact List.mem_cons_self)⟩
section
variable {X : Cx} {pos : Pos} {e : Expr} {es : List Expr} {ts us : List Nat}
theorem dg_name (i : Nat) {x : Str} (hN : X.N.Nodup) (hi : X.N[i]? = some x := by rfl) (hx : Loc X.env.scope x := by first | exact .inl rfl | exact .inr rfl) (hf : X.fn x = true ∨ X.env.scope.names.lookup x = some .local := by first | exact .inl rfl | exact .inr rfl) : DG X (.Name x pos) [i] (gN i) :=
  ⟨⟨fun pins s σ H v u Q I r ⟨b, F, ρ, d, k, hI, ha, hw, q⟩ => (pg_name hN hi hx hf).run pins s σ H v u Q I r (q _ H F _ (Same.refl _) (hI.setVal ha) only_set hw)⟩⟩
theorem dgs_nil : DGs X [] [] gsN := ⟨⟨fun pins s σ H vs us Q I r ⟨b, F, ρ, ds, k, hI, ha, hw, q⟩ => by
  cases ha with
  | nil => exact pgs_nil.run pins s σ H [] us Q I r ⟨rfl, q σ H F ρ (Same.refl _) hI .refl hw⟩
  | cons _ _ => exact hw.elim⟩⟩
theorem dgs_cons {g : WG} {r : WGs} (h1 : DG X e ts g) (h2 : DGs X es us r) (hs : (assignEach (e :: es) X.env).map (·.2) = assign e X.env :: (assignEach es X.env).map (·.2) := by rfl) : DGs X (e :: es) (ts ++ us) (gsC g r) :=
  ⟨⟨fun pins s σ H vs us Q I rv ⟨b, F, ρ, ds, k, hI, ha, hw, q⟩ => by
    cases ha with
    | nil => exact hw.elim
    | cons a al =>
      refine (pgs_cons h1.run h2.run hs).run pins s σ H _ us Q I rv ⟨_, _, rfl, b, F, ρ, _, _, hI, a, hw, fun σ1 H1 F1 ρ1 s1 I1 o1 h => ?_⟩
      exact ⟨b, F1, ρ1, _, k, I1, al.up s1, h, fun σ2 H2 F2 ρ2 s2 I2 o2 h2 => q σ2 H2 F2 ρ2 (s1.trans s2) I2 (o1.trans o2) h2⟩⟩⟩
theorem dg_tup {k n : Nat} {r : WGs} (hc : X.calm = true) (h : DGs X es ts r) (hn : (assignEach es X.env).length = n := by rfl) (hst : (assignEach es X.env).findIdx? (·.1) = none := by rfl) : DG X (.Tuple es k pos) ts (gT n r) :=
  ⟨⟨fun pins s σ H v u Q I rv ⟨b, F, ρ, d, kk, hI, ha, hw, q⟩ => by
    unfold gT at hw
    split at hw
    · cases ha with
      | @tup a vs _ hs al =>
        exact (pg_tup hc h.run hn hst).run pins s σ H _ u Q I rv ⟨a, vs, rfl, same_t hI.fb.sub hs, by rw [← al.length]; exact hw.1, b, F, ρ, _, kk, hI, al, hw.2, q⟩
    · exact hw.elim⟩⟩
end

/-! ### what is walked -/
def canI (K : PySem.W.Frag) (w : WN) : TI := fun σ H R => ∃ (b : Bs) (F : Hp) (ρ : Env) (post : Env → List D → Prop), StOk K b σ H F ρ ∧ w ρ post ∧
  ∀ J H' F' ρ' ds G Y, Same F F' → StOk K b σ H' F' ρ' → post ρ' ds → ds.length ≤ sizeLine → Walk J ds.length G Y → (∀ F2 H2 : Hp, Same F' F2 → Same F2 H2 → G H2) →
    (∀ i d F2 H2 x H3, ds[i]? = some d → Same F' F2 → Same F2 H2 → Y i H2 x H3 → ∃ F3, Grow F2 H2 F3 H3 ∧ At K F3 d x) → R J H'
structure DI (X : Cx) (tg e : Expr) (w : WN) : Prop where
  run : PI X tg e (canI X.K w)
/-- the items of a list or a tuple -/
def wSeqI (w : WE) : WN := fun ρ post => w ρ fun ρ1 d => match items d with
  | some l => post ρ1 l
  | none => False
def itS (k : Bool) (K : PySem.W.Frag) (a : Addr) : It := match k with
  | true => Itt K a
  | false => Itl K a
section
variable {X : Cx} {tg e e2 a : Expr} {es : List Expr} {w : WE} {p pos tpos : Pos} {elts : List Expr} {kk : Nat}
theorem pi_seq {tl : TE} (hl : PE X e tl) : PI X tg e (fun σ H R => tl σ H fun x H1 => ∃ k a xs, x = .ref a ∧ SqK k X.K H1 a xs ∧ (xs.length ≤ sizeLine → R (itS k X.K a) H1)) := by
  refine ⟨fun pins s σ H R I h => ?_⟩
  refine thn (hl.run pins s σ H _ I h) fun v s1 ⟨x, H1, I1, r1, k, a, xs, ex, hq, q⟩ => ?_
  subst ex
  cases r1
  cases k with
  | true =>
    obtain ⟨its, rv, pp, hz⟩ := I1.tuple hq
    refine wpAny_pyIter_tuple (show s1.heap.IsTuple a its.toArray from pp) ?_
    refine ⟨s1.heap.objs.size, [s1.heap.objs.size], _, _, H1, rfl, I1.kept (t' := s1.toks) fun b o e => Heap.get?_push_of_some _ e, turn_tuple a _, ⟨_, Heap.get?_push_size _ rfl, rfl, rfl⟩, fun b hb => ?_, q hz⟩
    have eb : b = s1.heap.objs.size := by simpa using hb
    subst eb
    exact I1.fpOk (Nat.le_refl _) (I1.hok.fresh (Nat.le_refl _))
  | false =>
    obtain ⟨its, rv, pp, hz⟩ := I1.list hq
    refine wpAny_pyIter_list pp.isList ?_
    refine ⟨s1.heap.objs.size, [s1.heap.objs.size], _, _, H1, rfl, I1.kept (t' := s1.toks) fun b o e => Heap.get?_push_of_some _ e, turn_list a _, ⟨_, Heap.get?_push_size _ rfl, rfl, rfl⟩, fun b hb => ?_, q hz⟩
    have eb : b = s1.heap.objs.size := by simpa using hb
    subst eb
    exact I1.fpOk (Nat.le_refl _) (I1.hok.fresh (Nat.le_refl _))
theorem walk_S {k : Bool} {K : PySem.W.Frag} {a : Addr} {xs : List V} : Walk (itS k K a) xs.length (fun H => SqK k K H a xs) (YAt xs) := by
  cases k with
  | true => exact walk_tup
  | false => exact walk_list
theorem di_seq (h : DE X e w) : DI X tg e (wSeqI w) := ⟨⟨fun pins s σ H R I ⟨b, F, ρ, post, hI, hw, q⟩ => by
  obtain ⟨t, h1, h2⟩ := h.ex
  refine (pi_seq h1).run pins s σ H R I (h2 b σ H F ρ _ hI hw _ fun v H1 F1 ρ1 d s1 I1 a1 h1 => ?_)
  split at h1
  · rename_i l el
    obtain ⟨k, r, vs, rfl, al, sq⟩ := seq_at a1 el
    refine ⟨k, r, vs, rfl, sq F1 H1 (Same.refl _) I1.fb.sub, fun hz => ?_⟩
    have hl := al.length
    refine q _ H1 F1 ρ1 l _ (YAt vs) s1 I1 h1 (by omega) (hl ▸ walk_S) (fun F2 H2 => sq F2 H2) fun i d F2 H2 x H3 ed s2 s3 y => ?_
    obtain ⟨rfl, ex⟩ := y
    obtain ⟨u, eu, au⟩ := al.get ed
    rw [eu] at ex
    cases ex
    exact ⟨F2, Grow.refl s3, au.up s2⟩
  · exact h1.elim⟩⟩
def zipD : List D → List D → List D
  | x :: r, y :: s => .tup [x, y] :: zipD r s
  | _, _ => []
theorem zipD_length : ∀ l m : List D, (zipD l m).length = min l.length m.length
  | [], _ => by simp [zipD]
  | _ :: _, [] => by simp [zipD]
  | x :: r, y :: s => by
    simp only [zipD, List.length_cons, zipD_length r s]
    omega
theorem zipD_get : ∀ (l m : List D) (i : Nat) (d : D), (zipD l m)[i]? = some d → ∃ x y, l[i]? = some x ∧ m[i]? = some y ∧ d = .tup [x, y]
  | [], _, i, d, h => by simp [zipD] at h
  | _ :: _, [], i, d, h => by simp [zipD] at h
  | x :: r, y :: s, 0, d, h => by
    simp [zipD] at h
    exact ⟨x, y, rfl, rfl, h.symm⟩
  | x :: r, y :: s, i + 1, d, h => by
    simp [zipD] at h
    obtain ⟨u, v, h1, h2, h3⟩ := zipD_get r s i d h
    exact ⟨u, v, by simpa using h1, by simpa using h2, h3⟩
theorem walk_zipK {K : PySem.W.Frag} {k1 k2 : Bool} {a b : Addr} {xs ys : List V} {n : Nat} (hn : n = min xs.length ys.length) : Walk (ItzK K k1 a k2 b) n (fun H => SqK k1 K H a xs ∧ SqK k2 K H b ys) (YPair (fun i => xs[i]?) (fun i => ys[i]?)) := by
  refine ⟨fun i H hi h => ?_, fun H h => ?_, fun i H x H' hi h y => ?_⟩
  · have h1 : i < xs.length := by omega
    have h2 : i < ys.length := by omega
    exact ⟨xs, ys, xs[i], ys[i], h.1, h.2, List.getElem?_eq_getElem h1, List.getElem?_eq_getElem h2⟩
  · exact ⟨xs, ys, h.1, h.2, by omega, by omega, by omega⟩
  · obtain ⟨T, u, v, e1, e2, e3, e4, e5⟩ := y
    exact ⟨T, u, v, e1, e2, e3, e4 xs h.1, e5 ys h.2⟩
def wZipI (wa : WN) : WN := fun ρ post => wa ρ fun ρ1 ds => match ds with
  | [d, e] => (match items d, items e with
    | some l, some m => post ρ1 (zipD l m)
    | _, _ => False)
  | _ => False
theorem di_zip {wa : WN} (hg : Gl X "zip") (hm : X.mg "zip" = none) (h : DA X [e, e2] wa)
    (hs : starEach [e, e2] X.env = (false, eval e X.env) :: starEach [e2] X.env := by rfl) (hpl : (backTo pos (starEach [e2] X.env)).any (·.1) = false := by rfl) :
    DI X (.Tuple elts kk tpos) (.Call (.Name "zip" p) [e, e2] [] pos) (wZipI wa) := ⟨⟨fun pins s σ H R I ⟨b, F, ρ, post, hI, hw, q⟩ => by
  obtain ⟨t, h1, h2⟩ := h.ex
  refine (pi_zipK hg hm h1 hs hpl).run pins s σ H R I (h2 b σ H F ρ _ hI hw _ fun vs H1 F1 ρ1 ds s1 I1 a1 h1 => ?_)
  unfold wZipI at hw
  split at h1
  · obtain ⟨v, u, rfl, b1, b2⟩ := a1.two
    split at h1
    · rename_i l m el em
      obtain ⟨k, r, vs, rfl, al, sq⟩ := seq_at b1 el
      obtain ⟨k', r', us, rfl, am, sq'⟩ := seq_at b2 em
      refine ⟨k, r, k', r', vs, us, rfl, sq F1 H1 (Same.refl _) I1.fb.sub, sq' F1 H1 (Same.refl _) I1.fb.sub, fun hz => ?_⟩
      have hl := al.length
      have hl' := am.length
      have hn := zipD_length l m
      refine q _ H1 F1 ρ1 (zipD l m) _ _ s1 I1 h1 (by omega) (walk_zipK (by omega)) (fun F2 H2 z1 z2 => ⟨sq F2 H2 z1 z2, sq' F2 H2 z1 z2⟩) fun i d F2 H2 x H3 ed s2 s3 y => ?_
      obtain ⟨T, u, w, rfl, nT, rfl, eu, ew⟩ := y
      obtain ⟨x1, y1, f1, f2, rfl⟩ := zipD_get l m i d ed
      obtain ⟨u', eu', au⟩ := al.get f1
      obtain ⟨w', ew', aw⟩ := am.get f2
      have eu2 : vs[i]? = some u := eu
      have ew2 : us[i]? = some w := ew
      rw [eu'] at eu2
      rw [ew'] at ew2
      cases eu2
      cases ew2
      have g := Grow.add (o := .tup [u, w]) s3 nT
      exact ⟨_, g, .tup (.inl (.inl upd_same)) (.cons ((au.up s2).up g.f) (.cons ((aw.up s2).up g.f) .nil))⟩
    · exact h1.elim
  · exact h1.elim⟩⟩
def enumD (l : List D) : List D := l.zipIdx.map fun p => .tup [.int (p.2 : Nat), p.1]
theorem enumD_length (l : List D) : (enumD l).length = l.length := by simp [enumD]
theorem enumD_get {l : List D} {i : Nat} {d : D} (h : (enumD l)[i]? = some d) : ∃ x, l[i]? = some x ∧ d = .tup [.int (i : Nat), x] := by
  unfold enumD at h
  rw [List.getElem?_map, List.getElem?_zipIdx] at h
  cases e : l[i]? with
  | none => rw [e] at h; simp at h
  | some x =>
    rw [e] at h
    simp at h
    exact ⟨x, rfl, h.symm⟩
theorem walk_enumK {K : PySem.W.Frag} {k : Bool} {a : Addr} {xs : List V} : Walk (IteK K k a) xs.length (fun H => SqK k K H a xs) (YPair (fun i => some (.int (i : Nat))) (fun i => xs[i]?)) := by
  refine ⟨fun i H hi h => ⟨xs, xs[i], h, List.getElem?_eq_getElem hi⟩, fun H h => ⟨xs, h, rfl⟩, fun i H x H' hi h y => ?_⟩
  obtain ⟨T, u, e1, e2, e3, e4⟩ := y
  exact ⟨T, _, u, e1, e2, e3, rfl, e4 xs h⟩
def wEnumI (wa : WN) : WN := fun ρ post => wa ρ fun ρ1 ds => match ds with
  | [d] => (match items d with
    | some l => post ρ1 (enumD l)
    | none => False)
  | _ => False
theorem di_enum {wa : WN} (hg : Gl X "enumerate") (hm : X.mg "enumerate" = none) (h : DA X [e] wa) (hs : starEach [e] X.env = [(false, eval e X.env)] := by rfl) :
    DI X (.Tuple elts kk tpos) (.Call (.Name "enumerate" p) [e] [] pos) (wEnumI wa) := ⟨⟨fun pins s σ H R I ⟨b, F, ρ, post, hI, hw, q⟩ => by
  obtain ⟨t, h1, h2⟩ := h.ex
  refine (pi_enumK hg hm h1 hs).run pins s σ H R I (h2 b σ H F ρ _ hI hw _ fun vs H1 F1 ρ1 ds s1 I1 a1 h1 => ?_)
  split at h1
  · obtain ⟨v, rfl, b1⟩ := a1.one
    split at h1
    · rename_i l el
      obtain ⟨k, r, vs, rfl, al, sq⟩ := seq_at b1 el
      refine ⟨k, r, vs, rfl, sq F1 H1 (Same.refl _) I1.fb.sub, fun hz => ?_⟩
      have hl := al.length
      have hn := enumD_length l
      refine q _ H1 F1 ρ1 (enumD l) _ _ s1 I1 h1 (by omega) (by rw [hn, hl]; exact walk_enumK) (fun F2 H2 z1 z2 => sq F2 H2 z1 z2) fun i d F2 H2 x H3 ed s2 s3 y => ?_
      obtain ⟨T, u, w, rfl, nT, rfl, eu, ew⟩ := y
      obtain ⟨y1, f2, rfl⟩ := enumD_get ed
      obtain ⟨w', ew', aw⟩ := al.get f2
      have ew2 : vs[i]? = some w := ew
      rw [ew'] at ew2
      cases eu
      cases ew2
      have g := Grow.add (o := .tup [.int (i : Nat), w]) s3 nT
      exact ⟨_, g, .tup (.inl (.inl upd_same)) (.cons (.int _) (.cons ((aw.up s2).up g.f) .nil))⟩
    · exact h1.elim
  · exact h1.elim⟩⟩
def wRng1 (wa : WN) : WN := fun ρ post => wa ρ fun ρ1 ds => match ds with
  | [.int j] => j ≤ 1000000 ∧ -1000000 ≤ j ∧ post ρ1 (intsD 0 j)
  | _ => False
def wRng2 (wa : WN) : WN := fun ρ post => wa ρ fun ρ1 ds => match ds with
  | [.int i, .int j] => (j ≤ 1000000 ∧ -1000000 ≤ j ∧ i ≤ 1000000 ∧ -1000000 ≤ i) ∧ post ρ1 (intsD i j)
  | _ => False
theorem intsD_length (i j : Int) : (intsD i j).length = (j - i).toNat := by simp [intsD]
theorem intsD_get {i j : Int} {n : Nat} {d : D} (h : (intsD i j)[n]? = some d) : d = .int (i + (n : Nat)) := by
  unfold intsD at h
  rw [List.getElem?_map] at h
  cases e : (List.range (j - i).toNat)[n]? with
  | none => rw [e] at h; simp at h
  | some x =>
    rw [e] at h
    have hx : x = n := by
      have := List.getElem?_range (n := (j - i).toNat) (i := n)
      have hl := (List.getElem?_eq_some_iff.mp e).1
      rw [List.getElem?_eq_getElem hl] at e
      simpa using (Option.some.inj e).symm
    subst hx
    simpa using h.symm
theorem one_int {K : PySem.W.Frag} {F : Hp} {i : Int} {vs : List V} (h : AtL K F [.int i] vs) : vs = [.int i] := by
  obtain ⟨v, rfl, a⟩ := h.one
  cases a
  rfl
theorem two_int {K : PySem.W.Frag} {F : Hp} {i j : Int} {vs : List V} (h : AtL K F [.int i, .int j] vs) : vs = [.int i, .int j] := by
  obtain ⟨v, u, rfl, a, b⟩ := h.two
  cases a
  cases b
  rfl
theorem mil {n : Nat} (h : n ≤ 2000000) : n ≤ sizeLine := Nat.le_trans h (by decide)
theorem di_range1 {wa : WN} (hg : Gl X "range") (hm : X.mg "range" = none) (h : DA X [e] wa) (hs : starEach [e] X.env = [(false, eval e X.env)] := by rfl) : DI X tg (.Call (.Name "range" p) [e] [] pos) (wRng1 wa) := ⟨⟨fun pins s σ H R I ⟨b, F, ρ, post, hI, hw, q⟩ => by
  obtain ⟨t, h1, h2⟩ := h.ex
  refine (pi_range1 hg hm h1 hs).run pins s σ H R I (h2 b σ H F ρ _ hI hw _ fun vs H1 F1 ρ1 ds s1 I1 a1 h1 => ?_)
  split at h1
  · rename_i j
    rw [one_int a1]
    have hn := intsD_length 0 j
    refine ⟨j, rfl, by omega, by omega, q _ H1 F1 ρ1 (intsD 0 j) (fun _ => True) _ s1 I1 h1.2.2 (mil (by omega)) (by rw [hn, Int.sub_zero]; exact walk_range) (fun _ _ _ _ => trivial) fun i d F2 H2 x H3 ed s2 s3 y => ?_⟩
    obtain ⟨rfl, rfl⟩ := y
    rw [intsD_get ed]
    exact ⟨F2, Grow.refl s3, .int _⟩
  · exact h1.elim⟩⟩
theorem di_range2 {wa : WN} (hg : Gl X "range") (hm : X.mg "range" = none) (h : DA X [e, e2] wa) (hs : starEach [e, e2] X.env = [(false, eval e X.env), (false, eval e2 X.env)] := by rfl) (hs2 : starEach [e2] X.env = [(false, eval e2 X.env)] := by rfl) : DI X tg (.Call (.Name "range" p) [e, e2] [] pos) (wRng2 wa) := ⟨⟨fun pins s σ H R I ⟨b, F, ρ, post, hI, hw, q⟩ => by
  obtain ⟨t, h1, h2⟩ := h.ex
  refine (pi_range2 hg hm h1 hs hs2).run pins s σ H R I (h2 b σ H F ρ _ hI hw _ fun vs H1 F1 ρ1 ds s1 I1 a1 h1 => ?_)
  split at h1
  · rename_i i j
    rw [two_int a1]
    have hn := intsD_length i j
    refine ⟨i, j, rfl, ⟨by omega, by omega, by omega, by omega⟩, q _ H1 F1 ρ1 (intsD i j) (fun _ => True) _ s1 I1 h1.2 (mil (by omega)) (by rw [hn]; exact walk_range) (fun _ _ _ _ => trivial) fun i d F2 H2 x H3 ed s2 s3 y => ?_⟩
    obtain ⟨rfl, rfl⟩ := y
    rw [intsD_get ed]
    exact ⟨F2, Grow.refl s3, .int _⟩
  · exact h1.elim⟩⟩
/-- list(range(..)) -/
def wLstR (wr : WN) : WN := wr
theorem dn_listR1 {wa : WE} {p2 pos2 : Pos} (hc : X.calm = true) (hg : Gl X "list") (hm : X.mg "list" = none) (hg2 : Gl X "range") (hm2 : X.mg "range" = none) (h : DE X e wa)
    (na : starEach [.Call (.Name "range" p2) [e] [] pos2] X.env = (false, eval (.Call (.Name "range" p2) [e] [] pos2) X.env) :: starEach [] X.env := by rfl) (nb : starEach [e] X.env = (false, eval e X.env) :: starEach [] X.env := by rfl) :
    DN X (.Call (.Name "list" p) [.Call (.Name "range" p2) [e] [] pos2] [] pos) (wRng1 (wCons wa wNil)) := by
  obtain ⟨t, h1, h2⟩ := h.ex
  refine .of ⟨_, pe_listRg hc hg hm (prg_1 hg2 hm2 h1 nb) na, fun b σ H F ρ post I hw Q q => h2 b σ H F ρ _ I hw _ fun v H1 F1 ρ1 d s1 I1 a1 h1 => ?_⟩
  have h1' : (match [d] with
    | [.int j] => j ≤ 1000000 ∧ -1000000 ≤ j ∧ post ρ1 (intsD 0 j)
    | _ => False) := h1
  cases d with
  | int j =>
    cases a1
    have h1'' : j ≤ 1000000 ∧ -1000000 ≤ j ∧ post ρ1 (intsD 0 j) := h1'
    refine ⟨j, rfl, ⟨by omega, by omega, by omega, by omega, by omega⟩, fun r hr => ?_⟩
    obtain ⟨I2, f1, f2, f3⟩ := new_list (vs := rgV 0 j) I1 hr
    exact q r _ _ F1 ρ1 _ s1 I2 upd_same f1 f2 f3 (intsD_at 0 _) h1''.2.2
  | _ => exact h1'.elim
end
end DL

set_option Elab.async false
set_option linter.all false
set_option maxRecDepth 100000
set_option maxHeartbeats 4000000
namespace DL
open PySem PySem.Spec PyProof.Rows L2

/-! ### a block's names -/
def memN : Nat → List Nat → Bool
  | _, [] => false
  | k, v :: r => Nat.beq k v || memN k r
theorem memN_iff {k : Nat} : ∀ {vs : List Nat}, memN k vs = true ↔ k ∈ vs
  | [] => by simp [memN]
  | v :: r => by
    unfold memN
    rw [Bool.or_eq_true, memN_iff (vs := r), List.mem_cons, Nat.beq_eq]
def wipeB (ρ : Env) : List Nat → Env
  | [] => ρ
  | v :: vs => (wipeB ρ vs).set v .un
/-- what stood in the block's names stands again -/
def mrg : Nat → List Nat → Env → Env → Env
  | k, vs, x :: r, y :: s => (match memN k vs with
    | true => (match mine x with
      | true => B.un
      | false => x)
    | false => y) :: mrg (k + 1) vs r s
  | _, _, _, _ => []
theorem mrg_length : ∀ (k : Nat) (vs : List Nat) (r s : Env), r.length = s.length → (mrg k vs r s).length = r.length
  | _, _, [], [], _ => rfl
  | k, vs, x :: r, y :: s, h => by
    simp only [mrg, List.length_cons]
    rw [mrg_length (k + 1) vs r s (by simpa using h)]
theorem mrg_get : ∀ (k : Nat) (vs : List Nat) (r s : Env) (i : Nat) (z : B), (mrg k vs r s)[i]? = some z →
    (k + i ∈ vs ∧ ∃ x, r[i]? = some x ∧ ((mine x = true ∧ z = .un) ∨ (mine x = false ∧ z = x))) ∨ (k + i ∉ vs ∧ s[i]? = some z)
  | _, _, [], _, i, z, h => by simp [mrg] at h
  | _, _, _ :: _, [], i, z, h => by simp [mrg] at h
  | k, vs, x :: r, y :: s, 0, z, h => by
    simp only [mrg, List.getElem?_cons_zero, Option.some.injEq] at h
    by_cases m : memN k vs = true
    · rw [m] at h
      refine .inl ⟨memN_iff.mp m, x, rfl, ?_⟩
      cases e : mine x with
      | true => rw [e] at h; exact .inl ⟨rfl, h.symm⟩
      | false => rw [e] at h; exact .inr ⟨rfl, h.symm⟩
    · rw [Bool.not_eq_true] at m
      rw [m] at h
      exact .inr ⟨fun q => (by rw [memN_iff.mpr (by simpa using q)] at m; cases m), by simpa using h⟩
  | k, vs, x :: r, y :: s, i + 1, z, h => by
    simp only [mrg, List.getElem?_cons_succ] at h
    rcases mrg_get (k + 1) vs r s i z h with ⟨h1, x', h2, h3⟩ | ⟨h1, h2⟩
    · exact .inl ⟨by rw [show k + (i + 1) = k + 1 + i by omega]; exact h1, x', by simpa using h2, h3⟩
    · exact .inr ⟨by rw [show k + (i + 1) = k + 1 + i by omega]; exact h1, by simpa using h2⟩
section
variable {K : PySem.W.Frag} {b : Bs} {σ : L2.St} {H F H' F' : Hp} {ρ ρ' : Env}
theorem StOk.wipe (h : StOk K b σ H F ρ) : ∀ vs : List Nat, StOk K b (L2.wipe σ vs) H F (wipeB ρ vs)
  | [] => h
  | v :: vs => (StOk.wipe h vs).setUn
theorem StOk.merge {vs : List Nat} (h : StOk K b σ H F ρ) (s : Same F F') (h' : StOk K b (L2.wipe σ vs) H' F' ρ') : StOk K b σ H' F' (mrg 0 vs ρ ρ') := by
  have hl : ρ.length = ρ'.length := by rw [h.len, h'.len, wipe_length]
  have sg : ∀ {i : Nat}, i ∉ vs → (L2.wipe σ vs)[i]? = σ[i]? := fun {i} hi => by rw [wipe_get, if_neg hi]
  refine ⟨h'.fb, by rw [mrg_length 0 vs ρ ρ' hl]; exact h.len, fun i x y e1 e2 => ?_, fun i j x y p n e1 e2 m1 m2 s1 s2 => ?_⟩
  · rcases mrg_get 0 vs ρ ρ' i x e1 with ⟨hi, x', ex, z⟩ | ⟨hi, ex⟩
    · rcases z with ⟨_, rfl⟩ | ⟨mx, rfl⟩
      · trivial
      · have sl := h.slot i _ _ ex e2
        cases x with
        | un => trivial
        | val d => obtain ⟨v, e, a⟩ := sl; exact ⟨v, e, a.up s⟩
        | own _ => cases mx
        | ins _ _ _ _ => cases mx
        | pen _ _ => cases mx
    · rw [Nat.zero_add] at hi
      exact h'.slot i x y ex ((sg hi).trans e2)
  · have mm : ∀ {i : Nat} {x : B}, (mrg 0 vs ρ ρ')[i]? = some x → mine x = true → i ∉ vs ∧ ρ'[i]? = some x := fun {i x} e m => by
      rcases mrg_get 0 vs ρ ρ' i x e with ⟨hi, x', ex, z⟩ | ⟨hi, ex⟩
      · rcases z with ⟨_, rfl⟩ | ⟨mx, rfl⟩
        · cases m
        · rw [mx] at m; cases m
      · rw [Nat.zero_add] at hi
        exact ⟨hi, ex⟩
    obtain ⟨i1, f1⟩ := mm e1 m1
    obtain ⟨j1, f2⟩ := mm e2 m2
    exact h'.sep i j x y p n f1 f2 m1 m2 ((sg i1).trans s1) ((sg j1).trans s2)
theorem Apart.merge {vs : List Nat} {p : Addr} (a : Apart (L2.wipe σ vs) ρ' p) : Apart σ (mrg 0 vs ρ ρ') p := fun i x e m s => by
  rcases mrg_get 0 vs ρ ρ' i x e with ⟨hi, x', ex, z⟩ | ⟨hi, ex⟩
  · rcases z with ⟨_, rfl⟩ | ⟨mx, rfl⟩
    · cases m
    · rw [mx] at m; cases m
  · rw [Nat.zero_add] at hi
    refine a i x ex m ?_
    rw [wipe_get, if_neg hi]
    exact s
/-- a new list, apart from what is mine, grows -/
theorem StOk.writeApart {p : Addr} {o o' : HO} (h : StOk K b σ H F ρ) (hp : H p = some o) (fp : F p = none) (bp : b.H0 p = none) (ap : Apart σ ρ p) : StOk K b σ (upd H p o') F ρ := by
  refine ⟨⟨fun a u e => ?_, h.fb.ext, h.fb.new, fun a u e m => ?_, fun a e => ?_⟩, h.len, fun i x y e1 e2 => ?_, h.sep⟩
  · have np : a ≠ p := fun z => by subst z; rw [fp] at e; cases e
    rw [upd_ne np]; exact h.fb.sub _ _ e
  · have np : a ≠ p := fun z => by subst z; rw [bp] at e; cases e
    rw [upd_ne np]; exact h.fb.keep _ _ e m
  · have np : a ≠ p := fun z => by subst z; rw [upd_same] at e; cases e
    rw [upd_ne np] at e; exact h.fb.there _ e
  · have sl := h.slot i x y e1 e2
    have nq : ∀ {r : Addr}, mine x = true → y = some (.ref r) → r ≠ p := fun {r} m e z => by
      subst z; subst e
      exact ap i x e1 m e2
    cases x with
    | un => trivial
    | val d => exact sl
    | own l' => obtain ⟨r, ws, e, g1, g2⟩ := sl; exact ⟨r, ws, e, by rw [upd_ne (nq rfl e)]; exact g1, g2⟩
    | ins r C ns l' => obtain ⟨e, m, g1, dx, fs, g2, g3⟩ := sl; exact ⟨e, m, g1, dx, fs, by rw [upd_ne (nq rfl e)]; exact g2, g3⟩
    | pen r k => obtain ⟨e, m, c, cells, a, r', g1, g2⟩ := sl; exact ⟨e, m, c, cells, a, r', by rw [upd_ne (nq rfl e)]; exact g1, g2⟩
end

/-! ### a block's tests -/
structure DTs (X : Cx) (ifs : List Expr) (w : WT) : Prop where
  run : PTs X ifs (canT X.K w)
def wYes : WT := fun ρ post => post ρ true
theorem dts_nil {X : Cx} : DTs X [] wYes := ⟨⟨fun pins s σ H Q I ⟨b, F, ρ, post, i, hw, q⟩ => pts_nil.run pins s σ H Q I (q true H F ρ (Same.refl _) i hw)⟩⟩
theorem dts_one {X : Cx} {c : Expr} {w : WT} (h : DT X c w) : DTs X [c] w := ⟨pts_one h.run⟩

/-! ### list comprehensions -/
/-- where a block's own list lies at D -/
structure LcAt (K : PySem.W.Frag) (b : Bs) (σ : L2.St) (D : Addr) (F1 : Hp) (H F : Hp) (ρ : Env) (acc : List DL.D) : Prop where
  st : StOk K b σ H F ρ
  same : Same F1 F
  at' : ∃ accV, H D = some (.lst accV) ∧ AtL K F acc accV
  free : F D = none
  apart : Apart σ ρ D
theorem LcAt.move {K : PySem.W.Frag} {b : Bs} {σ σ' : L2.St} {D : Addr} {F1 H F H' F' : Hp} {ρ ρ' : Env} {acc : List DL.D} (L : LcAt K b σ D F1 H F ρ acc) (h : StOk K (now σ ρ H F) σ' H' F' ρ') : LcAt K b σ' D F1 H' F' ρ' acc := by
  obtain ⟨accV, e, a⟩ := L.at'
  obtain ⟨g1, g2, g3⟩ := held_of L.st h
  obtain ⟨k1, k2, k3⟩ := g3 D _ e L.apart
  exact ⟨g1, L.same.trans g2, ⟨accV, k1, a.up g2⟩, k2 L.free, k3⟩
theorem LcAt.grow {K : PySem.W.Frag} {b : Bs} {σ : L2.St} {D : Addr} {F1 H F H' F' : Hp} {ρ : Env} {acc : List DL.D} (L : LcAt K b σ D F1 H F ρ acc) (g : Grow F H F' H') : LcAt K b σ D F1 H' F' ρ acc := by
  obtain ⟨accV, e, a⟩ := L.at'
  exact ⟨L.st.grow g, L.same.trans g.f, ⟨accV, g.h _ _ e, a.up g.f⟩, g.none e L.free, L.apart⟩
theorem LcAt.wipe {K : PySem.W.Frag} {b : Bs} {σ : L2.St} {D : Addr} {F1 H F : Hp} {ρ : Env} {acc : List DL.D} (L : LcAt K b σ D F1 H F ρ acc) (vs : List Nat) : LcAt K b (L2.wipe σ vs) D F1 H F (wipeB ρ vs) acc := by
  obtain ⟨accV, e, a⟩ := L.at'
  refine ⟨L.st.wipe vs, L.same, ⟨accV, e, a⟩, L.free, ?_⟩
  induction vs with
  | nil => exact L.apart
  | cons v vs ih =>
    intro i x e1 m s
    unfold wipeB at e1
    unfold L2.wipe at s
    by_cases h : v = i
    · subst h
      by_cases hl : v < (wipeB ρ vs).length
      · rw [List.getElem?_set_self hl] at e1; cases e1; cases m
      · rw [List.getElem?_eq_none (by rw [List.length_set]; omega)] at e1; cases e1
    · rw [List.getElem?_set_ne h] at e1 s
      exact ih i x e1 m s
/-- one more is put behind -/
theorem LcAt.push {K : PySem.W.Frag} {b : Bs} {σ : L2.St} {D : Addr} {F1 H F : Hp} {ρ : Env} {acc : List DL.D} {x : DL.D} {y : V} (L : LcAt K b σ D F1 H F ρ acc) (bp : b.H0 D = none) (a : At K F x y) :
    ∃ accV, H D = some (.lst accV) ∧ accV.length = acc.length ∧ LcAt K b σ D F1 (upd H D (.lst (accV ++ [y]))) F ρ (acc ++ [x]) := by
  obtain ⟨accV, e, al⟩ := L.at'
  exact ⟨accV, e, al.length.symm, L.st.writeApart e L.free bp L.apart, L.same, ⟨_, upd_same, al.append (.cons a .nil)⟩, L.free, L.apart⟩
def wLc (wi : WN) (vs : List Nat) (g : WG) (tt : WT) (te : WE) : WN := fun ρ post => wi ρ fun ρ1 ds => ∃ Iv : Nat → List D → Env → Prop, Iv 0 [] (wipeB ρ1 vs) ∧
  (∀ i d acc ρ, ds[i]? = some d → Iv i acc ρ → g d ρ fun ρ2 => tt ρ2 fun ρ3 k => match k with
    | true => te ρ3 fun ρ4 x => Iv (i + 1) (acc ++ [x]) (wipeB ρ4 vs)
    | false => Iv (i + 1) acc (wipeB ρ3 vs)) ∧
  ∀ acc ρ, Iv ds.length acc ρ → post (mrg 0 vs ρ1 ρ) acc
theorem snd_lc {K : PySem.W.Frag} {wi : WN} {ts vs : List Nat} {g : WG} {tt : WT} {te : WE} (hts : ∀ i ∈ ts, i ∈ vs) : SndN K (tLc (canI K wi) (canG K ts g) (canT K tt) (canE K te) vs) (wLc wi vs g tt te) := fun b σ H F ρ post I hw Q q =>
  ⟨b, F, ρ, _, I, hw, fun J H1 F1 ρ1 ds G Y s1 I1 ⟨Iv, h0, hstep, hend⟩ hz wk hG hY D hD => by
    have bD : b.H0 D = none := I1.fb.there D hD
    obtain ⟨I1', fD, _, apD⟩ := new_list (vs := []) I1 hD
    have L0 : LcAt K b σ D F1 (upd H1 D (.lst [])) F1 ρ1 [] := ⟨I1', Same.refl _, ⟨[], upd_same, .nil⟩, fD, apD⟩
    refine lc_it wk (fun i H2 => ∃ F2 ρ2 acc, LcAt K b (L2.wipe σ vs) D F1 H2 F2 ρ2 acc ∧ acc.length ≤ i ∧ Iv i acc ρ2) ⟨F1, _, [], L0.wipe vs, Nat.le_refl _, h0⟩
      (fun i H2 _ ⟨F2, ρ2, acc, L, _, _⟩ => hG F2 H2 L.same L.st.fb.sub) (fun i x H2 H3 hi ⟨F2, ρ2, acc, L, hl, iv⟩ y => ?_) (fun H2 ⟨F2, ρ2, acc, L, hl, iv⟩ => ?_)
    · have ed : ds[i]? = some ds[i] := List.getElem?_eq_getElem hi
      obtain ⟨F3, g3, a3⟩ := hY i _ F2 H2 x H3 ed L.same L.st.fb.sub y
      have L3 := L.grow g3
      refine ⟨_, F3, ρ2, _, _, L3.st.now, a3, hstep i _ acc ρ2 ed iv, fun σ4 H4 F4 ρ4 s4 I4 o4 h4 => ?_⟩
      have L4 := L3.move I4
      have ew : L2.wipe σ4 vs = L2.wipe σ vs := by
        rw [o4.wipe hts]
        apply List.ext_getElem?
        intro j
        by_cases hm : j ∈ vs <;> simp [wipe_get, wipe_length, hm]
      refine ⟨ew, _, F4, ρ4, _, L4.st.now, h4, fun k H5 F5 ρ5 s5 I5 h5 => ?_⟩
      have L5 := L4.move I5
      cases k with
      | false =>
        refine iteF ?_
        have L6 := L5.wipe vs
        rw [ew] at L6
        exact ⟨F5, _, acc, L6, by omega, h5⟩
      | true =>
        refine iteT ?_
        refine ⟨_, F5, ρ5, _, L5.st.now, h5, fun v H6 F6 ρ6 d s6 I6 a6 h6 => ?_⟩
        have L6 := L5.move I6
        obtain ⟨accV, e, el, L7⟩ := L6.push bD a6
        have L8 := L7.wipe vs
        rw [ew] at L8
        exact ⟨accV, e, by rw [el]; omega, F6, _, _, L8, by rw [List.length_append, List.length_singleton]; omega, h6⟩
    · obtain ⟨accV, e, al⟩ := L.at'
      exact q D accV H2 F2 _ acc (s1.trans L.same) (I1.merge L.same L.st) e L.free bD L.apart.merge al (hend acc ρ2 iv)⟩
section
variable {X : Cx} {elt tg iter tg1 iter1 : Expr} {ifs ifs1 : List Expr} {scope : Scope} {own : List (Str × Nat)} {pos : Pos} {wi wi1 : WN} {ts ts1 vs1 : List Nat} {g g1 : WG} {tt tt1 : WT} {te : WE}
theorem dn_lc (own : List (Str × Nat)) (hc : X.calm = true) (hN : X.N.Nodup) (hi : DI X tg iter wi) (ok : BlkOk X.N X.env.scope scope own) (hts : ∀ i ∈ ts, i ∈ own.map (·.2))
    (hg : ∀ (s : Shared) (H : Hp) (C : Addr) (cl : List (Str × Addr)) (fp : List Addr), DG (X.blk s H scope (compEnvC scope cl C X.env) fp) tg ts g) (ht : ∀ (s : Shared) (H : Hp) (C : Addr) (cl : List (Str × Addr)) (fp : List Addr), DTs (X.blk s H scope (compEnvC scope cl C X.env) fp) ifs tt)
    (he : ∀ (s : Shared) (H : Hp) (C : Addr) (cl : List (Str × Addr)) (fp : List Addr), DE (X.blk s H scope (compEnvC scope cl C X.env) fp) elt te) (hs : ∀ x, foldedSetIterable iter X.env x = pure x := by intro _; rfl) :
    DN X (.ListComp elt [⟨tg, iter, ifs, 0⟩] scope pos) (wLc wi (own.map (·.2)) g tt te) :=
  .of ⟨_, pe_lc hc hN hi.run ok (fun s H C cl fp => (hg s H C cl fp).run) (fun s H C cl fp => (ht s H C cl fp).run) (fun s H C cl fp => (he s H C cl fp).run) hs, snd_lc hts⟩
end
/-! ### two clauses -/
def wLc2 (wi : WN) (vs : List Nat) (g : WG) (tt : WT) (wi1 : WN) (vs1 : List Nat) (g1 : WG) (tt1 : WT) (te : WE) : WN := fun ρ post => wi ρ fun ρ1 ds => ∃ Iv : Nat → List D → Env → Prop, Iv 0 [] (wipeB ρ1 vs) ∧
  (∀ i d acc ρ, ds[i]? = some d → Iv i acc ρ → g d ρ fun ρ2 => tt ρ2 fun ρ3 k => match k with
    | true => wi1 ρ3 fun ρ4 es => ∃ Iw : Nat → List D → Env → Prop, Iw 0 acc (wipeB ρ4 vs1) ∧
      (∀ j e acc ρ, es[j]? = some e → Iw j acc ρ → g1 e ρ fun ρ5 => tt1 ρ5 fun ρ6 k => match k with
        | true => te ρ6 fun ρ7 x => acc.length < 1000000 ∧ Iw (j + 1) (acc ++ [x]) (wipeB ρ7 vs1)
        | false => Iw (j + 1) acc (wipeB ρ6 vs1)) ∧
      ∀ acc ρ, Iw es.length acc ρ → Iv (i + 1) acc (wipeB ρ vs)
    | false => Iv (i + 1) acc (wipeB ρ3 vs)) ∧
  ∀ acc ρ, Iv ds.length acc ρ → post (mrg 0 vs ρ1 ρ) acc
theorem wipe_wipe {σ : L2.St} {vs1 vs : List Nat} (h : ∀ i ∈ vs1, i ∈ vs) : L2.wipe (L2.wipe σ vs1) vs = L2.wipe σ vs := by
  apply List.ext_getElem?
  intro j
  by_cases hm : j ∈ vs
  · simp [wipe_get, wipe_length, hm]
  · have h1 : j ∉ vs1 := fun z => hm (h j z)
    simp [wipe_get, wipe_length, hm, h1]
theorem snd_lc2 {K : PySem.W.Frag} {wi wi1 : WN} {ts vs ts1 vs1 : List Nat} {g g1 : WG} {tt tt1 : WT} {te : WE} (hts : ∀ i ∈ ts, i ∈ vs) (hts1 : ∀ i ∈ ts1, i ∈ vs1) (hv : ∀ i ∈ vs1, i ∈ vs) :
    SndN K (tLc2 (canI K wi) (canG K ts g) (canT K tt) (canI K wi1) (canG K ts1 g1) (canT K tt1) (canE K te) vs vs1) (wLc2 wi vs g tt wi1 vs1 g1 tt1 te) := fun b σ H F ρ post I hw Q q =>
  ⟨b, F, ρ, _, I, hw, fun J H1 F1 ρ1 ds G Y s1 I1 ⟨Iv, h0, hstep, hend⟩ hz wk hG hY D hD => by
    have bD : b.H0 D = none := I1.fb.there D hD
    obtain ⟨I1', fD, _, apD⟩ := new_list (vs := []) I1 hD
    have L0 : LcAt K b σ D F1 (upd H1 D (.lst [])) F1 ρ1 [] := ⟨I1', Same.refl _, ⟨[], upd_same, .nil⟩, fD, apD⟩
    refine ⟨fun i m H2 => m = ds.length - i ∧ i ≤ ds.length ∧ ∃ F2 ρ2 acc, LcAt K b (L2.wipe σ vs) D F1 H2 F2 ρ2 acc ∧ Iv i acc ρ2, ⟨ds.length, by simp, Nat.zero_le _, F1, _, [], L0.wipe vs, h0⟩, ?_⟩
    rintro i m H2 ⟨rfl, hi, F2, ρ2, acc, L, iv⟩
    by_cases hlt : i < ds.length
    · refine .inr ⟨wk.goes i H2 hlt (hG F2 H2 L.same L.st.fb.sub), fun H' => ∃ F2 ρ2 acc, LcAt K b (L2.wipe σ vs) D F1 H' F2 ρ2 acc ∧ Iv (i + 1) acc ρ2, fun H' p' => ⟨ds.length - (i + 1), by omega, rfl, hlt, p'⟩, fun x H3 y0 => ?_⟩
      have y := wk.yields i H2 x H3 hlt (hG F2 H2 L.same L.st.fb.sub) y0
      have ed : ds[i]? = some ds[i] := List.getElem?_eq_getElem hlt
      obtain ⟨F3, g3, a3⟩ := hY i _ F2 H2 x H3 ed L.same L.st.fb.sub y
      have L3 := L.grow g3
      refine ⟨_, F3, ρ2, _, _, L3.st.now, a3, hstep i _ acc ρ2 ed iv, fun σ4 H4 F4 ρ4 s4 I4 o4 h4 => ?_⟩
      have L4 := L3.move I4
      have ew : L2.wipe σ4 vs = L2.wipe σ vs := by
        rw [o4.wipe hts]
        exact wipe_wipe fun _ h => h
      refine ⟨ew, _, F4, ρ4, _, L4.st.now, h4, fun k H5 F5 ρ5 s5 I5 h5 => ?_⟩
      have L5 := L4.move I5
      cases k with
      | false =>
        refine iteF ?_
        have L6 := L5.wipe vs
        rw [ew] at L6
        exact ⟨F5, _, acc, L6, h5⟩
      | true =>
        refine iteT ?_
        refine ⟨_, F5, ρ5, _, L5.st.now, h5, fun J1 H6 F6 ρ6 es G1 Y1 s6 I6 ⟨Iw, w0, wstep, wend⟩ hz1 wk1 hG1 hY1 => ?_⟩
        have L6 := L5.move I6
        have bk : ∀ {F7 : Hp}, Same F6 F7 → ∀ H7 : Hp, Same F7 H7 → G1 H7 := fun {F7} a H7 c => hG1 F7 H7 a c
        have L6' : LcAt K b σ4 D F6 H6 F6 ρ6 acc := ⟨L6.st, Same.refl _, L6.at', L6.free, L6.apart⟩
        refine ⟨fun j m H7 => m = es.length - j ∧ j ≤ es.length ∧ ∃ F7 ρ7 acc, LcAt K b (L2.wipe σ4 vs1) D F6 H7 F7 ρ7 acc ∧ Iw j acc ρ7, ⟨es.length, by simp, Nat.zero_le _, F6, _, acc, L6'.wipe vs1, w0⟩, ?_⟩
        rintro j m H7 ⟨rfl, hj, F7, ρ7, acc7, L7, iw⟩
        by_cases hlt1 : j < es.length
        · refine .inr ⟨wk1.goes j H7 hlt1 (hG1 F7 H7 L7.same L7.st.fb.sub), fun H' => ∃ F7 ρ7 acc, LcAt K b (L2.wipe σ4 vs1) D F6 H' F7 ρ7 acc ∧ Iw (j + 1) acc ρ7, fun H' p' => ⟨es.length - (j + 1), by omega, rfl, hlt1, p'⟩, fun x1 H8 y1 => ?_⟩
          have yy := wk1.yields j H7 x1 H8 hlt1 (hG1 F7 H7 L7.same L7.st.fb.sub) y1
          have ed1 : es[j]? = some es[j] := List.getElem?_eq_getElem hlt1
          obtain ⟨F8, g8, a8⟩ := hY1 j _ F7 H7 x1 H8 ed1 L7.same L7.st.fb.sub yy
          have L8 := L7.grow g8
          refine ⟨_, F8, ρ7, _, _, L8.st.now, a8, wstep j _ acc7 ρ7 ed1 iw, fun σ9 H9 F9 ρ9 s9 I9 o9 h9 => ?_⟩
          have L9 := L8.move I9
          have ew1 : L2.wipe σ9 vs1 = L2.wipe σ4 vs1 := by
            rw [o9.wipe hts1]
            exact wipe_wipe fun _ h => h
          refine ⟨ew1, _, F9, ρ9, _, L9.st.now, h9, fun k Ha Fa ρa sa Ia ha => ?_⟩
          have La := L9.move Ia
          cases k with
          | false =>
            refine iteF ?_
            have Lb := La.wipe vs1
            rw [ew1] at Lb
            exact ⟨Fa, _, acc7, Lb, ha⟩
          | true =>
            refine iteT ?_
            refine ⟨_, Fa, ρa, _, La.st.now, ha, fun v Hb Fb ρb d sb Ib ab hb => ?_⟩
            have Lb := La.move Ib
            obtain ⟨accV, e, el, Lc⟩ := Lb.push bD ab
            have Ld := Lc.wipe vs1
            rw [ew1] at Ld
            exact ⟨accV, e, by rw [el]; exact Nat.lt_of_lt_of_le hb.1 (by decide), Fb, _, _, Ld, hb.2⟩
        · have ej : j = es.length := by omega
          subst ej
          refine .inl ⟨wk1.stops H7 (hG1 F7 H7 L7.same L7.st.fb.sub), F7, _, acc7, ?_, wend acc7 ρ7 iw⟩
          have Lz := L7.wipe vs
          rw [wipe_wipe hv, ew] at Lz
          exact ⟨Lz.st, L6.same.trans L7.same, Lz.at', Lz.free, Lz.apart⟩
    · have ei : i = ds.length := by omega
      subst ei
      obtain ⟨accV, e, al⟩ := L.at'
      exact .inl ⟨wk.stops H2 (hG F2 H2 L.same L.st.fb.sub), q D accV H2 F2 _ acc (s1.trans L.same) (I1.merge L.same L.st) e L.free bD L.apart.merge al (hend acc ρ2 iv)⟩⟩
section
variable {X : Cx} {elt tg iter tg1 iter1 : Expr} {ifs ifs1 : List Expr} {scope : Scope} {own : List (Str × Nat)} {pos : Pos} {wi wi1 : WN} {ts ts1 vs1 : List Nat} {g g1 : WG} {tt tt1 : WT} {te : WE}
theorem dn_lc2 (own : List (Str × Nat)) (vs1 : List Nat) (hc : X.calm = true) (hN : X.N.Nodup) (hi : DI X tg iter wi) (ok : BlkOk X.N X.env.scope scope own) (hv : ∀ i ∈ vs1, i ∈ own.map (·.2)) (hts : ∀ i ∈ ts, i ∈ own.map (·.2)) (hts1 : ∀ i ∈ ts1, i ∈ vs1)
    (hg : ∀ (s : Shared) (H : Hp) (C : Addr) (cl : List (Str × Addr)) (fp : List Addr), DG (X.blk s H scope (compEnvC scope cl C X.env) fp) tg ts g) (ht : ∀ (s : Shared) (H : Hp) (C : Addr) (cl : List (Str × Addr)) (fp : List Addr), DTs (X.blk s H scope (compEnvC scope cl C X.env) fp) ifs tt)
    (hi1 : ∀ (s : Shared) (H : Hp) (C : Addr) (cl : List (Str × Addr)) (fp : List Addr), DI (X.blk s H scope (compEnvC scope cl C X.env) fp) tg1 iter1 wi1)
    (hg1 : ∀ (s : Shared) (H : Hp) (C : Addr) (cl : List (Str × Addr)) (fp : List Addr), DG (X.blk s H scope (compEnvC scope cl C X.env) fp) tg1 ts1 g1) (ht1 : ∀ (s : Shared) (H : Hp) (C : Addr) (cl : List (Str × Addr)) (fp : List Addr), DTs (X.blk s H scope (compEnvC scope cl C X.env) fp) ifs1 tt1)
    (he : ∀ (s : Shared) (H : Hp) (C : Addr) (cl : List (Str × Addr)) (fp : List Addr), DE (X.blk s H scope (compEnvC scope cl C X.env) fp) elt te) (hs : ∀ x, foldedSetIterable iter X.env x = pure x := by intro _; rfl) (hs1 : ∀ env x, foldedSetIterable iter1 env x = pure x := by intro _ _; rfl) :
    DN X (.ListComp elt [⟨tg, iter, ifs, 0⟩, ⟨tg1, iter1, ifs1, 0⟩] scope pos) (wLc2 wi (own.map (·.2)) g tt wi1 vs1 g1 tt1 te) :=
  .of ⟨_, pe_lc2 hc hN hi.run ok hv (fun s H C cl fp => (hg s H C cl fp).run) (fun s H C cl fp => (ht s H C cl fp).run) (fun s H C cl fp => (hi1 s H C cl fp).run) (fun s H C cl fp => (hg1 s H C cl fp).run) (fun s H C cl fp => (ht1 s H C cl fp).run) (fun s H C cl fp => (he s H C cl fp).run) hs hs1, snd_lc2 hts hts1 hv⟩
end
end DL

set_option Elab.async false
set_option linter.all false
set_option maxRecDepth 100000
set_option maxHeartbeats 4000000
namespace DL
open PySem PySem.Spec PyProof.Rows L2

/-! ### statements -/
structure DEnds where
  nx : Env → Prop
  rt : Env → D → Prop
  bk : Env → Prop := fun _ => False
  ct : Env → Prop := fun _ => False
abbrev WS := DEnds → Env → Prop
structure Meets (K : PySem.W.Frag) (b : Bs) (F : Hp) (De : DEnds) (D : Ends) : Prop where
  nx : ∀ σ' H' F' ρ', Same F F' → StOk K b σ' H' F' ρ' → De.nx ρ' → D.nx σ' H'
  rt : ∀ v σ' H' F' ρ' d, Same F F' → StOk K b σ' H' F' ρ' → At K F' d v → De.rt ρ' d → D.rt v H'
  bk : ∀ σ' H' F' ρ', Same F F' → StOk K b σ' H' F' ρ' → De.bk ρ' → D.bk σ' H'
  ct : ∀ σ' H' F' ρ', Same F F' → StOk K b σ' H' F' ρ' → De.ct ρ' → D.ct σ' H'
theorem Meets.up {K : PySem.W.Frag} {b : Bs} {F F' : Hp} {De : DEnds} {D : Ends} (m : Meets K b F De D) (s : Same F F') : Meets K b F' De D :=
  ⟨fun σ' H' F2 ρ' s2 => m.nx σ' H' F2 ρ' (s.trans s2), fun v σ' H' F2 ρ' d s2 => m.rt v σ' H' F2 ρ' d (s.trans s2), fun σ' H' F2 ρ' s2 => m.bk σ' H' F2 ρ' (s.trans s2), fun σ' H' F2 ρ' s2 => m.ct σ' H' F2 ρ' (s.trans s2)⟩
def canS (K : PySem.W.Frag) (w : WS) : TS := fun D σ H => ∃ (b : Bs) (F : Hp) (ρ : Env) (De : DEnds), StOk K b σ H F ρ ∧ w De ρ ∧ Meets K b F De D
structure DS (X : Cx) (st : Stmt) (w : WS) : Prop where
  run : PS X st (canS X.K w)
structure DSs (X : Cx) (st : List Stmt) (w : WS) : Prop where
  run : PSs X st (canS X.K w)
def SndS (K : PySem.W.Frag) (t : TS) (w : WS) : Prop := ∀ (b : Bs) (σ : L2.St) (H F : Hp) (ρ : Env) (De : DEnds) (D : Ends), StOk K b σ H F ρ → w De ρ → Meets K b F De D → t D σ H
theorem DS.of {X : Cx} {st : Stmt} {w : WS} (h : ∃ t, PS X st t ∧ SndS X.K t w) : DS X st w := by
  obtain ⟨t, h1, h2⟩ := h
  exact ⟨⟨fun pins s σ H D I ⟨b, F, ρ, De, i, hw, m⟩ => h1.run pins s σ H D I (h2 b σ H F ρ De D i hw m)⟩⟩
theorem DSs.of {X : Cx} {st : List Stmt} {w : WS} (h : ∃ t, PSs X st t ∧ SndS X.K t w) : DSs X st w := by
  obtain ⟨t, h1, h2⟩ := h
  exact ⟨⟨fun pins s σ H D I ⟨b, F, ρ, De, i, hw, m⟩ => h1.run pins s σ H D I (h2 b σ H F ρ De D i hw m)⟩⟩
def wNext : WS := fun De ρ => De.nx ρ
def wSeq (w u : WS) : WS := fun De ρ => w { De with nx := u De } ρ
def wSet (i : Nat) (w : WE) : WS := fun De ρ => w ρ fun ρ1 d => De.nx (ρ1.set i (.val d))
def wSetN (i : Nat) (w : WN) : WS := fun De ρ => w ρ fun ρ1 l => De.nx (ρ1.set i (.own l))
def wAsg (w : WE) (g : WG) : WS := fun De ρ => w ρ fun ρ1 d => g d ρ1 De.nx
def wRet (w : WE) : WS := fun De ρ => w ρ De.rt
def wRetN : WS := fun De ρ => De.rt ρ .non
def wExp (w : WE) : WS := fun De ρ => w ρ fun ρ1 _ => De.nx ρ1
def wIfS (w : WT) (a b : WS) : WS := fun De ρ => w ρ fun ρ1 k => match k with
  | true => a De ρ1
  | false => b De ρ1
def wNever : WS := fun _ _ => False
def wFor (wi : WN) (g : WG) (tb : WS) : WS := fun De ρ => wi ρ fun ρ1 ds => ∃ Iv : Nat → Env → Prop, Iv 0 ρ1 ∧
  (∀ i d ρ, ds[i]? = some d → Iv i ρ → g d ρ fun ρ2 => tb { De with nx := Iv (i + 1), ct := Iv (i + 1), bk := De.nx } ρ2) ∧ ∀ ρ, Iv ds.length ρ → De.nx ρ
def wApp (i : Nat) (w : WE) : WS := fun De ρ => match nth ρ i with
  | .own _ => w ρ fun ρ1 d => (match nth ρ1 i with
    | .own l => l.length < 1000000 ∧ De.nx (ρ1.set i (.own (l ++ [d])))
    | _ => False)
  | _ => False
def wExt (i : Nat) (w : WE) : WS := fun De ρ => match nth ρ i with
  | .own _ => w ρ fun ρ1 d => (match nth ρ1 i, items d with
    | .own l, some m => l.length + m.length ≤ 1000000 ∧ De.nx (ρ1.set i (.own (l ++ m)))
    | _, _ => False)
  | _ => False
section
variable {X : Cx} {st : Stmt} {rest body : List Stmt} {e iter tg c o : Expr} {a b : List Stmt} {w u : WS} {we : WE} {wn wi : WN} {g : WG} {ts : List Nat} {pos pos' apos : Pos} {x : Str}
theorem dss_nil : DSs X [] wNext := .of ⟨_, pss_nil, fun b σ H F ρ De D I hw m => m.nx σ H F ρ (Same.refl _) I hw⟩
theorem dss_cons (h1 : DS X st w) (h2 : DSs X rest u) : DSs X (st :: rest) (wSeq w u) := .of ⟨_, pss_cons h1.run h2.run, fun b σ H F ρ De D I hw m =>
  ⟨b, F, ρ, _, I, hw, fun σ' H' F' ρ' s I' h => ⟨b, F', ρ', De, I', h, m.up s⟩, m.rt, m.bk, m.ct⟩⟩
theorem dss_one (h : DS X st w) : DSs X [st] w := ⟨pss_one h.run⟩
theorem ds_never : DS X st wNever := .of ⟨_, ps_never, fun _ _ _ _ _ _ _ _ h _ => h.elim⟩
theorem dss_never : DSs X rest wNever := .of ⟨_, pss_never, fun _ _ _ _ _ _ _ _ h _ => h.elim⟩
theorem ds_pass : DS X (.Pass pos) wNext := .of ⟨_, ps_pass, fun b σ H F ρ De D I hw m => m.nx σ H F ρ (Same.refl _) I hw⟩
theorem ds_set (i : Nat) (hN : X.N.Nodup) (he : DE X e we) (hi : X.N[i]? = some x := by rfl) (hx : Loc X.env.scope x := by first | exact .inl rfl | exact .inr rfl) (hs : swapsWith e (some (.Name x pos')) pos.line X.env = pure false := by rfl) (hf : X.fn x = true ∨ X.env.scope.names.lookup x = some .local := by first | exact .inl rfl | exact .inr rfl) :
    DS X (.Assign [.Name x pos'] e pos) (wSet i we) := .of ⟨_, ps_set hN hi hx he.run hs hf, fun b σ H F ρ De D I hw m => snd_canE b σ H F ρ _ I hw _ fun v H1 F1 ρ1 d s1 I1 a1 h1 => m.nx _ H1 F1 _ s1 (I1.setVal a1) h1⟩
theorem set_new {K : PySem.W.Frag} {b : Bs} {σ : L2.St} {H F : Hp} {ρ : Env} {p : Addr} {vs : List V} {l : List D} {i : Nat} (I : StOk K b σ H F ρ) (h1 : H p = some (.lst vs)) (h2 : F p = none) (h3 : b.H0 p = none) (ap : Apart σ ρ p) (a : AtL K F l vs) :
    StOk K b (σ.set i (some (.ref p))) H F (ρ.set i (.own l)) := I.setMine ⟨p, vs, rfl, h1, h2, .inl h3, a⟩ fun j y _ e m s => ap j y e m s
theorem ds_setN (i : Nat) (hN : X.N.Nodup) (he : DN X e wn) (hi : X.N[i]? = some x := by rfl) (hx : Loc X.env.scope x := by first | exact .inl rfl | exact .inr rfl) (hs : swapsWith e (some (.Name x pos')) pos.line X.env = pure false := by rfl) (hf : X.fn x = true ∨ X.env.scope.names.lookup x = some .local := by first | exact .inl rfl | exact .inr rfl) :
    DS X (.Assign [.Name x pos'] e pos) (wSetN i wn) := .of ⟨_, ps_set hN hi hx he.run hs hf, fun b σ H F ρ De D I hw m => snd_canN b σ H F ρ _ I hw _ fun p vs H1 F1 ρ1 l s1 I1 h1 h2 h3 ap a1 h => m.nx _ H1 F1 _ s1 (set_new I1 h1 h2 h3 ap a1) h⟩
theorem ds_asg (he : DE X e we) (hg : DG X tg ts g) (hs : swapsWithSole [tg] e pos.line X.env = pure false := by rfl) (hw : swappedStores [tg] e X.env = pure none := by rfl)
    (h1 : (assignEach [tg] X.env).map (·.2) = [assign tg X.env] := by rfl) : DS X (.Assign [tg] e pos) (wAsg we g) :=
  .of ⟨_, ps_asg he.run hg.run hs hw h1, fun b σ H F ρ De D I hw m => snd_canE b σ H F ρ _ I hw _ fun v H1 F1 ρ1 d s1 I1 a1 h1 => ⟨b, F1, ρ1, d, _, I1, a1, h1, fun σ' H' F' ρ' s' I' _ h' => m.nx σ' H' F' ρ' (s1.trans s') I' h'⟩⟩
theorem ds_ret (he : DE X e we) : DS X (.Return (some e) pos) (wRet we) := .of ⟨_, ps_ret he.run, fun b σ H F ρ De D I hw m => snd_canE b σ H F ρ _ I hw _ fun v H1 F1 ρ1 d s1 I1 a1 h1 => m.rt v σ H1 F1 ρ1 d s1 I1 a1 h1⟩
theorem ds_retN : DS X (.Return none pos) wRetN := .of ⟨_, ps_retN, fun b σ H F ρ De D I hw m => m.rt .non σ H F ρ .non (Same.refl _) I .non hw⟩
theorem ds_exp (he : DE X e we) (hs : swapsWith e none pos.line X.env = pure false := by rfl) : DS X (.Expr e pos) (wExp we) := .of ⟨_, ps_expr he.run hs, fun b σ H F ρ De D I hw m => snd_canE b σ H F ρ _ I hw _ fun v H1 F1 ρ1 d s1 I1 a1 h1 => m.nx σ H1 F1 ρ1 s1 I1 h1⟩
theorem ds_if {wt : WT} (hc : DT X c wt) (ha : DSs X a w) (hb : DSs X b u) : DS X (.If c a b pos) (wIfS wt w u) := .of ⟨_, ps_if hc.run ha.run hb.run, fun b σ H F ρ De D I hw m => snd_canT b σ H F ρ _ I hw _ fun k H1 F1 ρ1 s1 I1 h1 => by
  cases k with
  | true => exact ⟨b, F1, ρ1, De, I1, h1, m.up s1⟩
  | false => exact ⟨b, F1, ρ1, De, I1, h1, m.up s1⟩⟩
theorem snd_for {K : PySem.W.Frag} : SndS K (tFor (canI K wi) (canG K ts g) (canS K w)) (wFor wi g w) := fun b σ H F ρ De D I hw m =>
  ⟨b, F, ρ, _, I, hw, fun J H1 F1 ρ1 ds G Y s1 I1 ⟨Iv, h0, hstep, hend⟩ hz wk hG hY => by
    refine for_it wk (fun i σ H => ∃ F2 ρ2, Same F1 F2 ∧ StOk K b σ H F2 ρ2 ∧ Iv i ρ2) ⟨F1, ρ1, Same.refl _, I1, h0⟩ (fun i σ2 H2 _ ⟨F2, ρ2, s2, I2, _⟩ => hG F2 H2 s2 I2.fb.sub) (fun i x σ2 H2 H3 hi ⟨F2, ρ2, s2, I2, iv⟩ y => ?_) (fun σ2 H2 ⟨F2, ρ2, s2, I2, iv⟩ => m.nx σ2 H2 F2 ρ2 (s1.trans s2) I2 (hend ρ2 iv))
    have ed : ds[i]? = some ds[i] := List.getElem?_eq_getElem hi
    obtain ⟨F3, g3, a3⟩ := hY i _ F2 H2 x H3 ed s2 I2.fb.sub y
    refine ⟨b, F3, ρ2, _, _, I2.grow g3, a3, hstep i _ ρ2 ed iv, fun σ4 H4 F4 ρ4 s4 I4 _ h4 => ⟨b, F4, ρ4, _, I4, h4, ?_⟩⟩
    have s14 : Same F1 F4 := (s2.trans g3.f).trans s4
    exact ⟨fun σ5 H5 F5 ρ5 s5 I5 h5 => ⟨F5, ρ5, s14.trans s5, I5, h5⟩, fun v σ5 H5 F5 ρ5 d s5 I5 a5 h5 => m.rt v σ5 H5 F5 ρ5 d (s1.trans (s14.trans s5)) I5 a5 h5, fun σ5 H5 F5 ρ5 s5 I5 h5 => m.nx σ5 H5 F5 ρ5 (s1.trans (s14.trans s5)) I5 h5, fun σ5 H5 F5 ρ5 s5 I5 h5 => ⟨F5, ρ5, s14.trans s5, I5, h5⟩⟩⟩
theorem ds_for (hp : PassesOwn (model X.prog X.w) X.A X.env X.xe) (hc : X.calm = true) (hi : DI X tg iter wi) (hg : DG X tg ts g) (hb : DSs X body w) (hs : ∀ x, foldedSetIterable iter X.env x = pure x := by intro _; rfl) : DS X (.For tg iter body [] pos) (wFor wi g w) :=
  .of ⟨_, ps_for hp hc hi.run hg.run hb.run hs, snd_for⟩
/-- the slot of a list of mine -/
theorem own_at {K : PySem.W.Frag} {b : Bs} {σ : L2.St} {H F : Hp} {ρ : Env} {i : Nat} {l : List D} (I : StOk K b σ H F ρ) (e : nth ρ i = .own l) : ∃ p vs, σ[i]? = some (some (.ref p)) ∧ ρ[i]? = some (.own l) ∧ H p = some (.lst vs) ∧ F p = none ∧ (b.H0 p = none ∨ b.M p) ∧ AtL K F l vs := by
  have e' := nth_some e (by intro z; cases z)
  obtain ⟨y, ey, p, vs, ev, h1, h2, h3, h4⟩ := slot_at I e'
  subst ev
  exact ⟨p, vs, ey, e', h1, h2, h3, h4⟩
theorem own_put {K : PySem.W.Frag} {b : Bs} {σ : L2.St} {H F : Hp} {ρ : Env} {i : Nat} {p : Addr} {l l' : List D} {vs' : List V} (I : StOk K b σ H F ρ) (hi : σ[i]? = some (some (.ref p))) (hr : ρ[i]? = some (.own l)) (a : AtL K F l' vs') : StOk K b σ (upd H p (.lst vs')) F (ρ.set i (.own l')) := by
  obtain ⟨q, vs, e, h1, h2, h3, h4⟩ := I.slot i _ _ hr hi
  cases e
  exact I.write hi ⟨_, hr, rfl⟩ ⟨p, vs', rfl, upd_same, h2, h3, a⟩
theorem ds_app (i : Nat) {xpos : Pos} (he : DE X e we) (hN : X.N[i]? = some x := by rfl) (hv : Vis X.env.scope x := by first | exact Or.inl rfl | exact Or.inr (Or.inl rfl) | exact Or.inr (Or.inr rfl)) (hd : (x == ("__debug__" : Str)) = false := by decide)
    (hcd : (x == ("__classdict__" : Str)) = false := by decide)
    (hbase : attributeBase (.Name x xpos) "append" X.env (eval (.Name x xpos) X.env) = eval (.Name x xpos) X.env := by rfl)
    (hfew : ((backTo pos' (starEach [e] X.env)).all (fun x => !x.1) && (backToKw pos' (keywordEach [] X.env)).all (fun x => x.1.isSome)
      && decide ([e].length + ([] : List Keyword).length + (if ([] : List Keyword).isEmpty then 0 else 1) < 30)) = true := by rfl)
    (hline : (apos.endLine == pos'.line) = true := by rfl) (hs : starEach [e] X.env = (false, eval e X.env) :: starEach [] X.env := by rfl) (hplain : (backTo pos' (starEach [] X.env)).any (·.1) = false := by rfl)
    (hsw : swapsWith (.Call (.Attribute (.Name x xpos) "append" apos) [e] [] pos') none pos.line X.env = pure false := by rfl) :
    DS X (.Expr (.Call (.Attribute (.Name x xpos) "append" apos) [e] [] pos') pos) (wApp i we) :=
  .of ⟨_, ps_expr (pe_bm PySem.F.plainAttrs_list PySem.F.slot_list_append PySem.F.type_list_append mt_append (pe_var hN hv hd hcd) (pa_cons he.run pa_nil hs) hbase hfew hline hs hplain) hsw, fun b σ H F ρ De D I hw m => by
    unfold wApp at hw
    split at hw
    · rename_i l0 e0
      obtain ⟨p, vs, ep, er, h1, h2, h3, h4⟩ := own_at I e0
      refine ⟨.ref p, ep, .inl ⟨rfl, vs, .inl (.inl h1)⟩, snd_canE b σ H F ρ _ I hw _ fun v H1 F1 ρ1 d s1 I1 a1 k1 => ?_⟩
      split at k1
      · rename_i l e1
        obtain ⟨p', vs', ep', er', g1, g2, g3, g4⟩ := own_at I1 e1
        rw [ep] at ep'
        cases ep'
        exact ⟨p, vs', v, rfl, rfl, g1, by rw [← g4.length]; exact Nat.lt_of_lt_of_le k1.1 (by decide), m.nx σ _ F1 _ s1 (own_put I1 ep er' (g4.append (.cons a1 .nil))) k1.2⟩
      · exact k1.elim
    · exact hw.elim⟩
theorem ds_ext (i : Nat) {xpos : Pos} (he : DE X e we) (hN : X.N[i]? = some x := by rfl) (hv : Vis X.env.scope x := by first | exact Or.inl rfl | exact Or.inr (Or.inl rfl) | exact Or.inr (Or.inr rfl)) (hd : (x == ("__debug__" : Str)) = false := by decide)
    (hcd : (x == ("__classdict__" : Str)) = false := by decide)
    (hbase : attributeBase (.Name x xpos) "extend" X.env (eval (.Name x xpos) X.env) = eval (.Name x xpos) X.env := by rfl)
    (hfew : ((backTo pos' (starEach [e] X.env)).all (fun x => !x.1) && (backToKw pos' (keywordEach [] X.env)).all (fun x => x.1.isSome)
      && decide ([e].length + ([] : List Keyword).length + (if ([] : List Keyword).isEmpty then 0 else 1) < 30)) = true := by rfl)
    (hline : (apos.endLine == pos'.line) = true := by rfl) (hs : starEach [e] X.env = (false, eval e X.env) :: starEach [] X.env := by rfl) (hplain : (backTo pos' (starEach [] X.env)).any (·.1) = false := by rfl)
    (hsw : swapsWith (.Call (.Attribute (.Name x xpos) "extend" apos) [e] [] pos') none pos.line X.env = pure false := by rfl) :
    DS X (.Expr (.Call (.Attribute (.Name x xpos) "extend" apos) [e] [] pos') pos) (wExt i we) :=
  .of ⟨_, ps_expr (pe_bm PySem.F.plainAttrs_list PySem.F.slot_list_extend PySem.F.type_list_extend mt_extendA (pe_var hN hv hd hcd) (pa_cons he.run pa_nil hs) hbase hfew hline hs hplain) hsw, fun b σ H F ρ De D I hw m => by
    unfold wExt at hw
    split at hw
    · rename_i l0 e0
      obtain ⟨p, vs, ep, er, h1, h2, h3, h4⟩ := own_at I e0
      refine ⟨.ref p, ep, .inl ⟨rfl, vs, .inl (.inl h1)⟩, snd_canE b σ H F ρ _ I hw _ fun v H1 F1 ρ1 d s1 I1 a1 k1 => ?_⟩
      split at k1
      · rename_i l m' e1 em
        obtain ⟨p', vs', ep', er', g1, g2, g3, g4⟩ := own_at I1 e1
        rw [ep] at ep'
        cases ep'
        have z : ∀ zs : List V, AtL X.K F1 m' zs → vs'.length + zs.length ≤ sizeLine := fun zs az => by
          rw [← g4.length, ← az.length]
          exact sz k1.1
        cases d with
        | tup ds =>
          cases em
          cases a1 with
          | @tup r us _ hs ha => exact .inr ⟨p, r, vs', us, rfl, rfl, g1, same_t I1.fb.sub hs, z us ha, m.nx σ _ F1 _ s1 (own_put I1 ep er' (g4.append ha)) k1.2⟩
        | lst ds =>
          cases em
          cases a1 with
          | @lst r us _ hs ha => exact .inl ⟨p, r, vs', us, rfl, rfl, g1, I1.fb.sub _ _ hs, z us ha, m.nx σ _ F1 _ s1 (own_put I1 ep er' (g4.append ha)) k1.2⟩
        | _ => cases em
      · exact k1.elim
    · exact hw.elim⟩
end
end DL

set_option Elab.async false
set_option linter.all false
set_option maxRecDepth 100000
set_option maxHeartbeats 4000000
namespace DL
open PySem PySem.Spec PyProof.Rows L2

/-! ### values some of which are new lists -/
inductive BsOk (K : PySem.W.Frag) (b : Bs) (σ : L2.St) (H F : Hp) (ρ : Env) : List V → List B → Prop where
  | nil : BsOk K b σ H F ρ [] []
  | val {d : D} {v : V} {vs : List V} {bs : List B} : At K F d v → BsOk K b σ H F ρ vs bs → BsOk K b σ H F ρ (v :: vs) (.val d :: bs)
  | own {l : List D} {p : Addr} {ws vs : List V} {bs : List B} : H p = some (.lst ws) → F p = none → b.H0 p = none → Apart σ ρ p → Apart (vs.map some) bs p → AtL K F l ws → BsOk K b σ H F ρ vs bs → BsOk K b σ H F ρ (.ref p :: vs) (.own l :: bs)
section
variable {K : PySem.W.Frag} {b : Bs} {σ : L2.St} {H F H' F' : Hp} {ρ ρ' : Env}
theorem BsOk.mine : ∀ {vs : List V} {bs : List B}, BsOk K b σ H F ρ vs bs → ∀ (i : Nat) (x : B) (q : Addr), bs[i]? = some x → DL.mine x = true → (vs.map some)[i]? = some (some (.ref q)) → b.H0 q = none ∧ ∃ ws, H q = some (.lst ws)
  | _, _, .nil, i, x, q, e, _, _ => by simp at e
  | _, _, .val _ _, 0, x, q, e, m, _ => by simp at e; subst e; cases m
  | _, _, .val _ h, i + 1, x, q, e, m, s => h.mine i x q (by simpa using e) m (by simpa using s)
  | _, _, .own h1 h2 h3 _ _ _ _, 0, x, q, e, m, s => by
    simp at s
    subst s
    exact ⟨h3, _, h1⟩
  | _, _, .own _ _ _ _ _ _ h, i + 1, x, q, e, m, s => h.mine i x q (by simpa using e) m (by simpa using s)
theorem BsOk.base {b' : Bs} (hb : ∀ p, b'.H0 p = none → b.H0 p = none) : ∀ {vs : List V} {bs : List B}, BsOk K b' σ H F ρ vs bs → BsOk K b σ H F ρ vs bs
  | _, _, .nil => .nil
  | _, _, .val a h => .val a (h.base hb)
  | _, _, .own h1 h2 h3 h4 h5 h6 h => .own h1 h2 (hb _ h3) h4 h5 h6 (h.base hb)
theorem BsOk.put {i : Nat} {v : V} {x : B} {vs : List V} {bs : List B} (h : BsOk K b σ H F ρ (v :: vs) (x :: bs)) (I : StOk K b σ H F ρ) : StOk K b (σ.set i (some v)) H F (ρ.set i x) ∧ BsOk K b (σ.set i (some v)) H F (ρ.set i x) vs bs := by
  cases h with
  | @val d _ _ _ a h =>
    refine ⟨I.setVal a, ?_⟩
    have ap : ∀ q, Apart σ ρ q → Apart (σ.set i (some v)) (ρ.set i (.val d)) q := fun q ap j y e m s => by
      by_cases hj : i = j
      · subst hj
        have l1 : i < ρ.length := by
          have := (List.getElem?_eq_some_iff.mp e).1
          simpa using this
        rw [List.getElem?_set_self l1] at e
        cases e; cases m
      · rw [List.getElem?_set_ne hj] at e s
        exact ap j y e m s
    clear a
    induction h with
    | nil => exact .nil
    | val a _ ih => exact .val a ih
    | own h1 h2 h3 h4 h5 h6 _ ih => exact .own h1 h2 h3 (ap _ h4) h5 h6 ih
  | @own l p ws _ _ h1 h2 h3 h4 h5 h6 h =>
    refine ⟨I.setMine ⟨p, ws, rfl, h1, h2, .inl h3, h6⟩ fun j y _ e m s => h4 j y e m s, ?_⟩
    have ap : ∀ q, q ≠ p → Apart σ ρ q → Apart (σ.set i (some (.ref p))) (ρ.set i (.own l)) q := fun q nq ap j y e m s => by
      by_cases hj : i = j
      · subst hj
        have l1 : i < ρ.length := by
          have := (List.getElem?_eq_some_iff.mp e).1
          simpa using this
        have l2 : i < σ.length := by rw [← I.len]; exact l1
        rw [List.getElem?_set_self l2] at s
        cases s
        exact nq rfl
      · rw [List.getElem?_set_ne hj] at e s
        exact ap j y e m s
    clear h1 h2 h3 h4 h6 I
    induction h with
    | nil => exact .nil
    | val a _ ih => exact .val a (ih fun j y e m s => h5 (j + 1) y (by simpa using e) m (by simpa using s))
    | own g1 g2 g3 g4 g5 g6 _ ih =>
      refine .own g1 g2 g3 (ap _ (fun z => ?_) g4) g5 g6 (ih fun j y e m s => h5 (j + 1) y (by simpa using e) m (by simpa using s))
      subst z
      exact h5 0 _ rfl rfl rfl
end
abbrev WO := Env → (Env → List B → Prop) → Prop
def canAo (K : PySem.W.Frag) (w : WO) : TA := fun σ H Q => ∃ (b : Bs) (F : Hp) (ρ : Env) (post : Env → List B → Prop), StOk K b σ H F ρ ∧ w ρ post ∧ ∀ vs H' F' ρ' bs, Same F F' → StOk K b σ H' F' ρ' → BsOk K b σ H' F' ρ' vs bs → post ρ' bs → Q vs H'
structure DAo (X : Cx) (es : List Expr) (w : WO) : Prop where
  run : PA X es (canAo X.K w)
def woNil : WO := fun ρ post => post ρ []
def woVal (we : WE) (wr : WO) : WO := fun ρ post => we ρ fun ρ1 d => wr ρ1 fun ρ2 bs => post ρ2 (.val d :: bs)
def woOwn (wn : WN) (wr : WO) : WO := fun ρ post => wn ρ fun ρ1 l => wr ρ1 fun ρ2 bs => post ρ2 (.own l :: bs)
section
variable {X : Cx} {a : Expr} {es : List Expr} {we : WE} {wn : WN} {wr : WO}
theorem dao_nil : DAo X [] woNil := ⟨⟨fun pos pins s σ H Q I ⟨b, F, ρ, post, i, hw, q⟩ => pa_nil.run pos pins s σ H Q I (q [] H F ρ [] (Same.refl _) i .nil hw)⟩⟩
theorem dao_val (ha : DE X a we) (hr : DAo X es wr) (hs : starEach (a :: es) X.env = (false, eval a X.env) :: starEach es X.env := by rfl) : DAo X (a :: es) (woVal we wr) :=
  ⟨⟨fun pos pins s σ H Q I ⟨b, F, ρ, post, i, hw, q⟩ => (pa_cons ha.run hr.run hs).run pos pins s σ H Q I (snd_canE b σ H F ρ _ i hw _ fun v H1 F1 ρ1 d s1 I1 a1 h1 =>
    ⟨b, F1, ρ1, _, I1, h1, fun vs H2 F2 ρ2 bs s2 I2 ok h2 => q _ H2 F2 ρ2 _ (s1.trans s2) I2 (.val (a1.up s2) ok) h2⟩)⟩⟩
theorem dao_own (ha : DN X a wn) (hr : DAo X es wr) (hs : starEach (a :: es) X.env = (false, eval a X.env) :: starEach es X.env := by rfl) : DAo X (a :: es) (woOwn wn wr) :=
  ⟨⟨fun pos pins s σ H Q I ⟨b, F, ρ, post, i, hw, q⟩ => (pa_cons ha.run hr.run hs).run pos pins s σ H Q I (snd_canN b σ H F ρ _ i hw _ fun p ws H1 F1 ρ1 l s1 I1 g1 g2 g3 ap a1 h1 =>
    ⟨_, F1, ρ1, _, I1.now, h1, fun vs H2 F2 ρ2 bs s2 I2 ok h2 => by
      obtain ⟨k1, k2, k3⟩ := held_of I1 I2
      obtain ⟨e1, e2, e3⟩ := k3 p _ g1 ap
      refine q _ H2 F2 ρ2 _ (s1.trans s2) k1 (.own e1 (e2 g2) g3 e3 (fun j y e m s => ?_) (a1.up s2) (ok.base fun z hz => I1.fb.there z hz)) h2
      have := (ok.mine j y p e m s).1
      have z : H1 p = none := this
      rw [g1] at z; cases z⟩)⟩⟩
/-- a, b = x, y with plain local names -/
def wPar (i j : Nat) (w : WO) : WS := fun De ρ => w ρ fun ρ1 bs => match bs with
  | [x, y] => De.nx ((ρ1.set i x).set j y)
  | _ => False
def wPar3 (i j l : Nat) (w : WO) : WS := fun De ρ => w ρ fun ρ1 bs => match bs with
  | [x, y, z] => De.nx (((ρ1.set i x).set j y).set l z)
  | _ => False
theorem BsOk.cons_inv {K : PySem.W.Frag} {b : Bs} {σ : L2.St} {H F : Hp} {ρ : Env} {vs : List V} {x : B} {bs : List B} (h : BsOk K b σ H F ρ vs (x :: bs)) : ∃ v us, vs = v :: us := by
  cases h with
  | val _ _ => exact ⟨_, _, rfl⟩
  | own _ _ _ _ _ _ _ => exact ⟨_, _, rfl⟩
theorem BsOk.nil_inv {K : PySem.W.Frag} {b : Bs} {σ : L2.St} {H F : Hp} {ρ : Env} {vs : List V} (h : BsOk K b σ H F ρ vs []) : vs = [] := by
  cases h
  rfl
theorem ds_par (i j : Nat) {x y : Str} {e1 e2 : Expr} {w : WO} {px py pt pos : Pos} {kt k2 pt2} (hc : X.calm = true) (hN : X.N.Nodup) (ha : DAo X [e1, e2] w)
    (hw : swappedStores [.Tuple [.Name x px, .Name y py] kt pt] (.Tuple [e1, e2] k2 pt2) X.env = pure (some [x, y]) := by rfl)
    (hi : X.N[i]? = some x := by rfl) (hj : X.N[j]? = some y := by rfl) (hij : i ≠ j := by decide)
    (hx : X.env.scope.names.lookup x = some .local := by rfl) (hy : X.env.scope.names.lookup y = some .local := by rfl)
    (hs : swapsWithSole [.Tuple [.Name x px, .Name y py] kt pt] (.Tuple [e1, e2] k2 pt2) pos.line X.env = pure false := by rfl) :
    DS X (.Assign [.Tuple [.Name x px, .Name y py] kt pt] (.Tuple [e1, e2] k2 pt2) pos) (wPar i j w) :=
  .of ⟨_, ps_par hc hN hi hj hij hx hy ha.run hw hs, fun b σ H F ρ De D I hw m => ⟨b, F, ρ, _, I, hw, fun vs H1 F1 ρ1 bs s1 I1 ok h1 => by
    split at h1
    · rename_i x1 y1
      obtain ⟨v, us, rfl⟩ := ok.cons_inv
      obtain ⟨I2, ok2⟩ := ok.put (i := i) I1
      obtain ⟨v2, us, rfl⟩ := ok2.cons_inv
      obtain ⟨I3, ok3⟩ := ok2.put (i := j) I2
      cases ok3.nil_inv
      exact ⟨v, v2, rfl, m.nx _ H1 F1 _ s1 I3 h1⟩
    · exact h1.elim⟩⟩
theorem ds_par3 (i j l : Nat) {x y z : Str} {e1 e2 e3 : Expr} {w : WO} {px py pz pt pos : Pos} {kt k2 pt2} (hc : X.calm = true) (hN : X.N.Nodup) (ha : DAo X [e1, e2, e3] w)
    (hw : swappedStores [.Tuple [.Name x px, .Name y py, .Name z pz] kt pt] (.Tuple [e1, e2, e3] k2 pt2) X.env = pure (some [x, y, z]) := by rfl)
    (hi : X.N[i]? = some x := by rfl) (hj : X.N[j]? = some y := by rfl) (hl : X.N[l]? = some z := by rfl) (hij : i ≠ j := by decide) (hil : i ≠ l := by decide) (hjl : j ≠ l := by decide)
    (hx : X.env.scope.names.lookup x = some .local := by rfl) (hy : X.env.scope.names.lookup y = some .local := by rfl) (hz : X.env.scope.names.lookup z = some .local := by rfl)
    (hs : swapsWithSole [.Tuple [.Name x px, .Name y py, .Name z pz] kt pt] (.Tuple [e1, e2, e3] k2 pt2) pos.line X.env = pure false := by rfl) :
    DS X (.Assign [.Tuple [.Name x px, .Name y py, .Name z pz] kt pt] (.Tuple [e1, e2, e3] k2 pt2) pos) (wPar3 i j l w) :=
  .of ⟨_, ps_par3 hc hN hi hj hl hij hil hjl hx hy hz ha.run hw hs, fun b σ H F ρ De D I hw m => ⟨b, F, ρ, _, I, hw, fun vs H1 F1 ρ1 bs s1 I1 ok h1 => by
    split at h1
    · rename_i x1 y1 z1
      obtain ⟨v, us, rfl⟩ := ok.cons_inv
      obtain ⟨I2, ok2⟩ := ok.put (i := i) I1
      obtain ⟨v2, us, rfl⟩ := ok2.cons_inv
      obtain ⟨I3, ok3⟩ := ok2.put (i := j) I2
      obtain ⟨v3, us, rfl⟩ := ok3.cons_inv
      obtain ⟨I4, ok4⟩ := ok3.put (i := l) I3
      cases ok4.nil_inv
      exact ⟨v, v2, v3, rfl, m.nx _ H1 F1 _ s1 I4 h1⟩
    · exact h1.elim⟩⟩
/-- the same by a tuple that is made and unpacked: where a name is a cell -/
def tgN : List Nat → TGs
  | [] => gNil
  | i :: r => gCons (gName i) (tgN r)
structure DNs (X : Cx) (es : List Expr) (is : List Nat) : Prop where
  run : PGs X es (tgN is)
theorem dns_nil : DNs X [] [] := ⟨pgs_nil⟩
theorem dns_cons (i : Nat) {x : Str} {pos : Pos} {es : List Expr} {is : List Nat} (hN : X.N.Nodup) (h : DNs X es is) (hi : X.N[i]? = some x := by rfl) (hx : Loc X.env.scope x := by first | exact .inl rfl | exact .inr rfl) (hf : X.fn x = true ∨ X.env.scope.names.lookup x = some .local := by first | exact .inl rfl | exact .inr rfl)
    (hs : (assignEach (.Name x pos :: es) X.env).map (·.2) = assign (.Name x pos) X.env :: (assignEach es X.env).map (·.2) := by rfl) : DNs X (.Name x pos :: es) (i :: is) := ⟨pgs_cons (pg_name hN hi hx hf) h.run hs⟩
def setAll : List Nat → List B → Env → Option Env
  | [], [], ρ => some ρ
  | i :: is, x :: bs, ρ => setAll is bs (ρ.set i x)
  | _, _, _ => none
def wUnp (is : List Nat) (w : WO) : WS := fun De ρ => w ρ fun ρ1 bs => bs.length ≤ 100 ∧ (match setAll is bs ρ1 with
  | some ρ2 => De.nx ρ2
  | none => False)
theorem put_all {K : PySem.W.Frag} {b : Bs} {H F : Hp} : ∀ {is : List Nat} {bs : List B} {vs : List V} {σ : L2.St} {ρ ρ2 : Env} {Q : L2.St → Hp → Prop}, BsOk K b σ H F ρ vs bs → StOk K b σ H F ρ → setAll is bs ρ = some ρ2 → (∀ σ', StOk K b σ' H F ρ2 → Q σ' H) → tgN is vs σ H Q
  | [], [], _, σ, ρ, ρ2, Q, ok, I, e, q => by
    cases ok.nil_inv
    cases e
    exact ⟨rfl, q σ I⟩
  | [], _ :: _, _, _, _, _, _, _, _, e, _ => by cases e
  | _ :: _, [], _, _, _, _, _, _, _, e, _ => by cases e
  | i :: is, x :: bs, vs, σ, ρ, ρ2, Q, ok, I, e, q => by
    obtain ⟨v, us, rfl⟩ := ok.cons_inv
    obtain ⟨I2, ok2⟩ := ok.put (i := i) I
    exact ⟨v, us, rfl, put_all ok2 I2 e q⟩
theorem BsOk.length {K : PySem.W.Frag} {b : Bs} {σ : L2.St} {H F : Hp} {ρ : Env} {vs : List V} {bs : List B} (h : BsOk K b σ H F ρ vs bs) : vs.length = bs.length := by
  induction h with
  | nil => rfl
  | val _ _ ih => rw [List.length_cons, List.length_cons, ih]
  | own _ _ _ _ _ _ _ ih => rw [List.length_cons, List.length_cons, ih]
theorem BsOk.tmp {K : PySem.W.Frag} {b : Bs} {σ : L2.St} {H F H' : Hp} {ρ : Env} {vs : List V} {bs : List B} (h : BsOk K b σ H F ρ vs bs) (s : Same H H') : BsOk K b σ H' F ρ vs bs := by
  induction h with
  | nil => exact .nil
  | val a _ ih => exact .val a ih
  | own h1 h2 h3 h4 h5 h6 _ ih => exact .own (s _ _ h1) h2 h3 h4 h5 h6 ih
theorem setAll_len : ∀ {is : List Nat} {bs : List B} {ρ ρ2 : Env}, setAll is bs ρ = some ρ2 → is.length = bs.length
  | [], [], _, _, _ => rfl
  | [], _ :: _, _, _, e => by cases e
  | _ :: _, [], _, _, e => by cases e
  | i :: is, x :: bs, ρ, ρ2, e => by rw [List.length_cons, List.length_cons, setAll_len (is := is) (bs := bs) e]
theorem ds_unp {tes es : List Expr} {is : List Nat} {w : WO} {k1 k2 : Nat} {pos p1 p2 : Pos} (hc : X.calm = true) (hg : DNs X tes is) (ha : DAo X es w) (hn : (assignEach tes X.env).length = is.length := by rfl) (hst : (assignEach tes X.env).findIdx? (·.1) = none := by rfl)
    (hs : swapsWithSole [.Tuple tes k1 p1] (.Tuple es k2 p2) pos.line X.env = pure false := by rfl) (hw : swappedStores [.Tuple tes k1 p1] (.Tuple es k2 p2) X.env = pure none := by rfl)
    (h1 : (assignEach [.Tuple tes k1 p1] X.env).map (·.2) = [assign (.Tuple tes k1 p1) X.env] := by rfl) :
    DS X (.Assign [.Tuple tes k1 p1] (.Tuple es k2 p2) pos) (wUnp is w) :=
  .of ⟨_, ps_asg (pe_tup ha.run) (pg_tup hc hg.run hn hst) hs hw h1, fun b σ H F ρ De D I hw m => ⟨b, F, ρ, _, I, hw, fun vs H1 F1 ρ1 bs s1 I1 ok h1 => by
    obtain ⟨hl, h1⟩ := h1
    split at h1
    · rename_i ρ2 e2
      have el := ok.length
      have ei := setAll_len e2
      refine ⟨by rw [el]; exact Nat.le_trans hl (by decide), fun p hp => ⟨p, vs, rfl, .inl (.inl upd_same), by omega, ?_⟩⟩
      have g := Grow.tmp (o := .tup vs) I1.fb.sub hp
      exact put_all (ok.tmp g.h) (I1.grow g) e2 fun σ' I' => m.nx σ' _ F1 ρ2 s1 I' h1
    · exact h1.elim⟩⟩
end
end DL

set_option Elab.async false
set_option linter.all false
set_option maxRecDepth 100000
set_option maxHeartbeats 4000000
namespace DL
open PySem PySem.Spec PyProof.Rows L2

/-! ### defs by their promise on data -/
/-- a promise: from the arguments and what is wanted of the arguments behind and of the value -/
abbrev WF := List B → (List B → D → Prop) → Prop
def mOf (bs : List B) : Addr → Prop := fun p => ∃ (i : Nat) (x : B), bs[i]? = some x ∧ ((∃ k, x = .pen p k) ∨ ∃ C ns l, x = .ins p C ns l)
def atCall (bs : List B) (H F : Hp) : Bs := ⟨H, F, mOf bs⟩
def spOf (K : PySem.W.Frag) (n : Nat) (wf : WF) : Sp := fun vs H Q _ => ∃ (F : Hp) (bs : List B) (post : List B → D → Prop), StOk K (atCall bs H F) (vs.map some) H F bs ∧ bs.length = n ∧ wf bs post ∧
  ∀ v H' F' bs' d, Same F F' → StOk K (atCall bs H F) (vs.map some) H' F' bs' → At K F' d v → post bs' d → Q v H'
/-- the same thing at the same place -/
def sameAt : B → B → Prop
  | .pen p _, .pen q _ => p = q
  | .ins p _ _ _, .ins q _ _ _ => p = q
  | _, _ => False
/-- the arguments as they are behind the body -/
def finOk : List B → Env → Prop
  | [], _ => True
  | x :: r, y :: s => (match mine x with
    | true => sameAt x y
    | false => True) ∧ finOk r s
  | _ :: _, [] => False
def finB : List B → Env → List B
  | [], _ => []
  | x :: r, y :: s => (match mine x with
    | true => y
    | false => x) :: finB r s
  | _ :: _, [] => []
theorem fin_get : ∀ {bs : List B} {ρ : Env} {i : Nat} {z : B}, finOk bs ρ → (finB bs ρ)[i]? = some z → ∃ x y, bs[i]? = some x ∧ ρ[i]? = some y ∧ ((DL.mine x = true ∧ z = y ∧ sameAt x y) ∨ (DL.mine x = false ∧ z = x))
  | [], _, i, z, _, e => by simp [finB] at e
  | x :: r, y :: s, 0, z, ok, e => by
    simp only [finB, List.getElem?_cons_zero, Option.some.injEq] at e
    refine ⟨x, y, rfl, rfl, ?_⟩
    have ok1 := ok.1
    cases m : DL.mine x with
    | true =>
      rw [m] at e ok1
      exact .inl ⟨rfl, e.symm, ok1⟩
    | false =>
      rw [m] at e
      exact .inr ⟨rfl, e.symm⟩
  | x :: r, y :: s, i + 1, z, ok, e => by
    simp only [finB, List.getElem?_cons_succ] at e
    obtain ⟨x', y', h1, h2, h3⟩ := fin_get ok.2 e
    exact ⟨x', y', by simpa using h1, by simpa using h2, h3⟩
  | _ :: _, [], i, z, ok, _ => ok.elim
theorem fin_len : ∀ {bs : List B} {ρ : Env}, finOk bs ρ → (finB bs ρ).length = bs.length
  | [], _, _ => rfl
  | x :: r, y :: s, ok => by
    simp only [finB, List.length_cons]
    rw [fin_len ok.2]
  | _ :: _, [], ok => ok.elim
def startB (n : Nat) (bs : List B) : Env := bs ++ List.replicate (n - bs.length) .un
section
variable {K : PySem.W.Frag} {b : Bs} {σ σ' : L2.St} {H F H' F' : Hp} {ρ : Env}
theorem sameAt_addr {x y : B} {u : Option V} (h : sameAt x y) (s : SlotOk K b H F u x) (u' : Option V) (s' : SlotOk K b H' F' u' y) : u' = u ∧ DL.mine y = true := by
  cases x with
  | pen p k =>
    cases y with
    | pen q k' => have e : p = q := h; subst e; exact ⟨s'.1.trans s.1.symm, rfl⟩
    | _ => exact h.elim
  | ins p C ns l =>
    cases y with
    | ins q C' ns' l' => have e : p = q := h; subst e; exact ⟨s'.1.trans s.1.symm, rfl⟩
    | _ => exact h.elim
  | _ => exact h.elim
/-- back at the caller: the arguments as they stand there -/
theorem StOk.leave {vs : List V} {bs : List B} (I0 : StOk K b (vs.map some) H F bs) (I : StOk K b σ' H' F' ρ) (s : Same F F') (ok : finOk bs ρ) : StOk K b (vs.map some) H' F' (finB bs ρ) := by
  have key : ∀ (i : Nat) (z : B) (u : Option V), (finB bs ρ)[i]? = some z → (vs.map some)[i]? = some u → SlotOk K b H' F' u z ∧ (DL.mine z = true → ∃ x, bs[i]? = some x ∧ DL.mine x = true) := fun i z u e1 e2 => by
    obtain ⟨x, y, h1, h2, h3⟩ := fin_get ok e1
    have s0 := I0.slot i x u h1 e2
    rcases h3 with ⟨m, rfl, sa⟩ | ⟨m, rfl⟩
    · obtain ⟨u', eu, su⟩ := slot_at I h2
      obtain ⟨e, my⟩ := sameAt_addr sa s0 u' su
      subst e
      exact ⟨su, fun _ => ⟨x, h1, m⟩⟩
    · refine ⟨?_, fun q => by rw [m] at q; cases q⟩
      cases z with
      | un => trivial
      | val d => obtain ⟨v, e, a⟩ := s0; exact ⟨v, e, a.up s⟩
      | own _ => cases m
      | ins _ _ _ _ => cases m
      | pen _ _ => cases m
  refine ⟨I.fb, by rw [fin_len ok]; exact I0.len, fun i z u e1 e2 => (key i z u e1 e2).1, fun i j x y p n e1 e2 m1 m2 s1 s2 => ?_⟩
  obtain ⟨x', f1, g1⟩ := (key i x _ e1 s1).2 m1
  obtain ⟨y', f2, g2⟩ := (key j y _ e2 s2).2 m2
  exact I0.sep i j x' y' p n f1 f2 g1 g2 s1 s2
theorem StOk.enter {vs : List V} {bs : List B} (I0 : StOk K b (vs.map some) H F bs) (N : List Str) : StOk K b (L2.start N vs) H F (startB N.length bs) := by
  have hl : bs.length = vs.length := by rw [I0.len, List.length_map]
  have gb : ∀ (i : Nat) (x : B), (startB N.length bs)[i]? = some x → (i < bs.length ∧ bs[i]? = some x) ∨ x = .un := fun i x e => by
    unfold startB at e
    by_cases h : i < bs.length
    · rw [List.getElem?_append_left h] at e
      exact .inl ⟨h, e⟩
    · rw [List.getElem?_append_right (by omega)] at e
      have := List.mem_of_getElem? e
      exact .inr (List.eq_of_mem_replicate this)
  have gs : ∀ (i : Nat), i < bs.length → (L2.start N vs)[i]? = (vs.map some)[i]? := fun i h => by
    unfold L2.start
    rw [List.getElem?_append_left (by rw [List.length_map]; omega)]
  refine ⟨I0.fb, ?_, fun i x y e1 e2 => ?_, fun i j x y p n e1 e2 m1 m2 s1 s2 => ?_⟩
  · unfold startB L2.start
    simp only [List.length_append, List.length_replicate, List.length_map]
    omega
  · rcases gb i x e1 with ⟨h, e⟩ | e
    · exact I0.slot i x y e (by rw [← gs i h]; exact e2)
    · subst e; trivial
  · rcases gb i x e1 with ⟨h, e⟩ | e
    · rcases gb j y e2 with ⟨h', e'⟩ | e'
      · exact I0.sep i j x y p n e e' m1 m2 (by rw [← gs i h]; exact s1) (by rw [← gs j h']; exact s2)
      · subst e'; cases m2
    · subst e; cases m1
end
section
variable {P : Program} {w : World} {K : PySem.W.Frag} {mg : Str → Option Value} {base : Heap}
/-- THE RULE for a def that raises nothing: its body's reading on data -/
theorem dfn {x qual : Str} {st : Stmt} {f : Addr} {fd : FuncData} {N ps : List Str} {k n : Nat} {wf : WF} (F : Fun K x qual st f fd) (S : FnScope N ps (defScope st)) (hn : ps.length = n)
    (hbody : ∀ (cdv : Value) (A : Around) (outer : List PySem.Env) (s : Shared) (H : Hp) (E : XK), Room k (A.deeper (envOfC qual (defScope st) s.heap.objs.size f cdv)) →
      ∃ wb, DSs (cxOf CX0 P w K mg base N qual (defScope st) f cdv A outer s H E).nox (defBody st) wb ∧
        ∀ bs post, bs.length = n → wf bs post → wb ⟨fun ρ => finOk bs ρ ∧ post (finB bs ρ) .non, fun ρ d => finOk bs ρ ∧ post (finB bs ρ) d, fun _ => False, fun _ => False⟩ (startB N.length bs)) :
    FnOk P w K mg base CX0 (k + 1) f fd ps (spOf K n wf) := by
  refine F.ok S (fun vs H Q E h => ?_) (fun cdv A outer s H vs Q E hr h => ?_)
  · obtain ⟨Fz, bs, post, I, hl, _⟩ := h
    have := I.len
    rw [List.length_map] at this
    omega
  · obtain ⟨Fz, bs, post, I, hl, hw, q⟩ := h
    obtain ⟨wb, h1, h2⟩ := hbody cdv A outer s H E hr
    refine ⟨_, h1.run, atCall bs H Fz, Fz, _, _, I.enter N, h2 bs post hl hw, fun σ' H' F' ρ' s' I' h => ?_, fun v σ' H' F' ρ' d s' I' a h => ?_, fun _ _ _ _ _ _ h => h.elim, fun _ _ _ _ _ _ h => h.elim⟩
    · exact q .non H' F' _ .non s' (I.leave I' s' h.1) .non h.2
    · exact q v H' F' _ d s' (I.leave I' s' h.1) a h.2
end

/-! ### a call of a def -/
theorem vals_st {K : PySem.W.Frag} {H F : Hp} {ds : List D} {vs : List V} (s : Same F H) (a : AtL K F ds vs) : StOk K (atCall (ds.map .val) H F) (vs.map some) H F (ds.map .val) := by
  have hv : ∀ (i : Nat) (x : B), (ds.map B.val)[i]? = some x → ∃ d, ds[i]? = some d ∧ x = .val d := fun i x e => by
    rw [List.getElem?_map] at e
    cases q : ds[i]? with
    | none => rw [q] at e; simp at e
    | some d => rw [q] at e; simp at e; exact ⟨d, rfl, e.symm⟩
  refine ⟨⟨s, Same.refl _, fun a o e => .inl e, fun a o e _ => e, fun a e => e⟩, by rw [List.length_map, List.length_map, a.length], fun i x y e1 e2 => ?_, fun i j x y p n e1 e2 m1 m2 s1 s2 => ?_⟩
  · obtain ⟨d, ed, rfl⟩ := hv i x e1
    obtain ⟨v, ev, av⟩ := a.get ed
    rw [List.getElem?_map, ev] at e2
    simp at e2
    exact ⟨v, e2.symm, av⟩
  · obtain ⟨d, _, rfl⟩ := hv i x e1
    cases m1
theorem no_mOf {ds : List D} {p : Addr} : ¬ mOf (ds.map .val) p := fun ⟨i, x, e, h⟩ => by
  rw [List.getElem?_map] at e
  cases q : ds[i]? with
  | none => rw [q] at e; simp at e
  | some d =>
    rw [q] at e
    simp at e
    subst e
    rcases h with ⟨k, z⟩ | ⟨C, ns, l, z⟩
    · cases z
    · cases z
theorem grow_back {K : PySem.W.Frag} {H F H' F' : Hp} {ds : List D} {σ : L2.St} {ρ : Env} (I : StOk K (atCall (ds.map .val) H F) σ H' F' ρ) : Grow F H F' H' :=
  ⟨I.fb.ext, fun a o e => I.fb.keep a o e no_mOf, I.fb.sub, fun a o e => by
    rcases I.fb.new a o e with h | h | h
    · exact .inl h
    · exact .inr h
    · exact (no_mOf h).elim⟩
def wCall (n : Nat) (wf : WF) (dds : List D) (wa : WN) : WE := fun ρ post => wa ρ fun ρ1 ds => ds.length + dds.length = n ∧ wf (ds.map .val ++ dds.map .val) fun _ d => post ρ1 d
theorem snd_call {K : PySem.W.Frag} {n : Nat} {wf : WF} {dds : List D} {dvs : List V} {wa : WN} {E : XK} (hd : ∀ F, AtL K F dds dvs) : SndE K (tCall (spOf K n wf) dvs E (canA K wa)) (wCall n wf dds wa) := fun b σ H F ρ post I hw Q q =>
  ⟨b, F, ρ, _, I, hw, fun vs H1 F1 ρ1 ds s1 I1 a1 h1 => by
    have hw' := h1.2
    rw [← List.map_append] at hw'
    refine ⟨F1, (ds ++ dds).map .val, fun _ d => post ρ1 d, vals_st I1.fb.sub (a1.append (hd F1)), by rw [List.length_map, List.length_append]; exact h1.1, hw', fun v H' F' bs' d s' I' a h => ?_⟩
    have g := grow_back I'
    exact q v H' F' ρ1 d (s1.trans s') (I1.grow g) a h⟩
section
variable {X : Cx} {CX : CXT} {k n : Nat} {f C : Addr} {fd : FuncData} {ps : List Str} {wf : WF} {dds : List D} {dvs : List V} {ds : List Value} {E : XK} {x : Str} {p pos : Pos} {e : Expr} {es : List Expr} {wa : WN}
theorem d_call (F : FnOk X.prog X.w X.K X.mg X.base CX k f fd ps (spOf X.K n wf)) (hr : Room k X.A) (hg : Gl X x) (hm : X.mg x = some (.ref f)) (hk : PySem.W.keepIn X.K (.ref f) = true) (hb : Binds X.K fd ps ds) (hd : Vals dvs ds) (hdd : ∀ F, AtL X.K F dds dvs) (hx : Passes CX X E)
    (ha : DA X (e :: es) wa) (hdb : (x == ("__debug__" : Str)) = false := by decide) (he : starEach (e :: es) X.env = (false, eval e X.env) :: starEach es X.env := by rfl) (hpl : (backTo pos (starEach es X.env)).any (·.1) = false := by rfl) :
    DE X (.Call (.Name x p) (e :: es) [] pos) (wCall n wf dds wa) := .of ⟨_, pe_call F hr hg hm hk hb hd hx ha.run hdb he hpl, snd_call hdd⟩
theorem d_call0 (F : FnOk X.prog X.w X.K X.mg X.base CX k f fd ps (spOf X.K n wf)) (hr : Room k X.A) (hg : Gl X x) (hm : X.mg x = some (.ref f)) (hk : PySem.W.keepIn X.K (.ref f) = true) (hb : Binds X.K fd ps ds) (hd : Vals dvs ds) (hdd : ∀ F, AtL X.K F dds dvs) (hx : Passes CX X E)
    (hdb : (x == ("__debug__" : Str)) = false := by decide) : DE X (.Call (.Name x p) [] [] pos) (wCall n wf dds wNil) := .of ⟨_, pe_call0 F hr hg hm hk hb hd hx hdb, fun b σ H F ρ post I hw Q q =>
      snd_call (E := E) hdd b σ H F ρ post I hw Q q |> fun h => by
        obtain ⟨b', F', ρ', post', I', hw', q'⟩ := h
        exact q' [] H F' ρ' [] (Same.refl _) I' .nil hw'⟩
end

/-! ### a call that hands on what draws -/
theorem StOk.penBack {K : PySem.W.Frag} {b : Bs} {σ : L2.St} {H F H' F' : Hp} {ρ : Env} {i : Nat} {p : Addr} {k k' : Nat} (I : StOk K b σ H F ρ) (hi : ρ[i]? = some (.pen p k)) (sub : Same F' H') (ext : Same F F') (new : ∀ a o, F' a = some o → F a = some o ∨ H a = none ∨ a = p)
    (keep : ∀ a o, H a = some o → a ≠ p → H' a = some o) (there : ∀ a, H' a = none → H a = none) (pen : PenAt H' F' p k') : StOk K b σ H' F' (ρ.set i (.pen p k')) := by
  obtain ⟨y, ey, sl⟩ := slot_at I hi
  have e0 : y = some (.ref p) := sl.1
  subst e0
  have M : (DL.now σ ρ H F).M p := ⟨i, _, hi, rfl, ey⟩
  have l1 : i < ρ.length := (List.getElem?_eq_some_iff.mp hi).1
  have ne : ∀ {j : Nat} {x : B} {q : Addr}, j ≠ i → ρ[j]? = some x → mine x = true → σ[j]? = some (some (.ref q)) → q ≠ p := fun {j x q} n e m s z => by
    subst z
    exact I.sep j i x _ q n e hi m rfl s ey
  suffices h : StOk K (DL.now σ ρ H F) σ H' F' (ρ.set i (.pen p k')) from (I.back h).1
  refine ⟨⟨sub, ext, fun a o e => ?_, fun a o e m => keep a o e fun z => m (by subst z; exact M), there⟩, by rw [List.length_set]; exact I.len, fun j x y e1 e2 => ?_, fun j l x y q n e1 e2 m1 m2 s1 s2 => ?_⟩
  · rcases new a o e with h | h | h
    · exact .inl h
    · exact .inr (.inl h)
    · subst h; exact .inr (.inr M)
  · by_cases hj : i = j
    · subst hj
      rw [List.getElem?_set_self l1] at e1
      cases e1
      rw [ey] at e2
      cases e2
      exact ⟨rfl, .inr M, pen⟩
    · rw [List.getElem?_set_ne hj] at e1
      have sl := I.slot j x y e1 e2
      have fn : ∀ {q : Addr} {o : HO}, q ≠ p → H q = some o → F q = none → F' q = none := fun {q o} n h1 h2 => by
        cases e : F' q with
        | none => rfl
        | some u =>
          rcases new q u e with z | z | z
          · rw [h2] at z; cases z
          · rw [h1] at z; cases z
          · exact (n z).elim
      cases x with
      | un => trivial
      | val d => obtain ⟨v, e, a⟩ := sl; exact ⟨v, e, a.up ext⟩
      | own l =>
        obtain ⟨q, ws, e, h1, h2, h3, h4⟩ := sl
        subst e
        have n := ne (Ne.symm hj) e1 rfl e2
        exact ⟨q, ws, rfl, keep q _ h1 n, fn n h1 h2, .inr ⟨j, _, e1, rfl, e2⟩, h4.up ext⟩
      | ins q C ns l =>
        obtain ⟨e, m, h1, dx, fs, h2, h3, h4⟩ := sl
        subst e
        have n := ne (Ne.symm hj) e1 rfl e2
        exact ⟨rfl, .inr ⟨j, _, e1, rfl, e2⟩, fn n h2 h1, dx, fs, keep q _ h2 n, h3, h4.up ext⟩
      | pen q k2 =>
        obtain ⟨e, m, c, cells, a, r, h1, h2, h3, h4⟩ := sl
        subst e
        have n := ne (Ne.symm hj) e1 rfl e2
        exact ⟨rfl, .inr ⟨j, _, e1, rfl, e2⟩, c, cells, a, r, keep q _ h1 n, fn n h1 h2, ext _ _ h3, h4⟩
  · have back : ∀ {z : Nat} {t : B}, (ρ.set i (.pen p k'))[z]? = some t → mine t = true → ∃ t', ρ[z]? = some t' ∧ mine t' = true := fun {z t} e m => by
      by_cases q' : i = z
      · subst q'; exact ⟨_, hi, rfl⟩
      · rw [List.getElem?_set_ne q'] at e; exact ⟨t, e, m⟩
    obtain ⟨t1, f1, g1⟩ := back e1 m1
    obtain ⟨t2, f2, g2⟩ := back e2 m2
    exact I.sep j l t1 t2 q n f1 f2 g1 g2 s1 s2
def wCallP (i n : Nat) (wf : WF) (wa : WN) : WE := fun ρ post => match nth ρ i with
  | .pen _ _ => wa ρ fun ρ1 ds => (match nth ρ1 i with
    | .pen p k => ds.length + 1 = n ∧ wf (.pen p k :: ds.map .val) fun bs' d => (match bs' with
      | .pen q k2 :: _ => q = p ∧ post (ρ1.set i (.pen p k2)) d
      | _ => False)
    | _ => False)
  | _ => False
theorem pen_at {K : PySem.W.Frag} {b : Bs} {σ : L2.St} {H F : Hp} {ρ : Env} {i k : Nat} {p : Addr} (I : StOk K b σ H F ρ) (e : nth ρ i = .pen p k) : σ[i]? = some (some (.ref p)) ∧ ρ[i]? = some (.pen p k) ∧ PenAt H F p k := by
  have e' := nth_some e (by intro z; cases z)
  obtain ⟨y, ey, ev, _, pa⟩ := slot_at I e'
  subst ev
  exact ⟨ey, e', pa⟩
theorem penvals_st {K : PySem.W.Frag} {H F : Hp} {ds : List D} {vs : List V} {p : Addr} {k : Nat} (s : Same F H) (a : AtL K F ds vs) (pa : PenAt H F p k) : StOk K (atCall (.pen p k :: ds.map .val) H F) ((V.ref p :: vs).map some) H F (.pen p k :: ds.map .val) := by
  have hv : ∀ (i : Nat) (x : B), (ds.map B.val)[i]? = some x → ∃ d, ds[i]? = some d ∧ x = .val d := fun i x e => by
    rw [List.getElem?_map] at e
    cases q : ds[i]? with
    | none => rw [q] at e; simp at e
    | some d => rw [q] at e; simp at e; exact ⟨d, rfl, e.symm⟩
  have hm : ∀ (i : Nat) (x : B), (B.pen p k :: ds.map B.val)[i]? = some x → mine x = true → i = 0 := fun i x e m => by
    cases i with
    | zero => rfl
    | succ i =>
      obtain ⟨d, _, rfl⟩ := hv i x (by simpa using e)
      cases m
  refine ⟨⟨s, Same.refl _, fun a o e => .inl e, fun a o e _ => e, fun a e => e⟩, by simp [a.length], fun i x y e1 e2 => ?_, fun i j x y p n e1 e2 m1 m2 s1 s2 => ?_⟩
  · cases i with
    | zero =>
      simp at e1 e2
      subst e1 e2
      exact ⟨rfl, .inr ⟨0, _, rfl, .inl ⟨k, rfl⟩⟩, pa⟩
    | succ i =>
      obtain ⟨d, ed, rfl⟩ := hv i x (by simpa using e1)
      obtain ⟨v, ev, av⟩ := a.get ed
      have e2' : (vs.map some)[i]? = some y := by simpa using e2
      rw [List.getElem?_map, ev] at e2'
      simp at e2'
      exact ⟨v, e2'.symm, av⟩
  · exact n ((hm i x e1 m1).trans (hm j y e2 m2).symm)
theorem mOf_pen {ds : List D} {p q : Addr} {k : Nat} (h : mOf (.pen p k :: ds.map .val) q) : q = p := by
  obtain ⟨i, x, e, h⟩ := h
  cases i with
  | zero =>
    simp at e
    subst e
    rcases h with ⟨k, z⟩ | ⟨C, ns, l, z⟩
    · cases z; rfl
    · cases z
  | succ i => exact (no_mOf ⟨i, x, by simpa using e, h⟩).elim
theorem snd_callP {K : PySem.W.Frag} {i n : Nat} {wf : WF} {wa : WN} {E : XK} : SndE K (tCall (spOf K n wf) [] E (tCons (tVar i) (canA K wa))) (wCallP i n wf wa) := fun b σ H F ρ post I hw Q q => by
  unfold wCallP at hw
  split at hw
  · rename_i p0 k0 e0
    obtain ⟨es, er, pa0⟩ := pen_at I e0
    refine ⟨.ref p0, es, b, F, ρ, _, I, hw, fun vs H1 F1 ρ1 ds s1 I1 a1 h1 => ?_⟩
    split at h1
    · rename_i p k e1
      obtain ⟨es1, er1, pa⟩ := pen_at I1 e1
      rw [es] at es1
      cases es1
      refine ⟨F1, _, _, ?_, by simp [h1.1], h1.2, fun v H' F' bs' d s' I' a h => ?_⟩
      · rw [List.append_nil]
        exact penvals_st I1.fb.sub a1 pa
      · split at h
        · rename_i q' k2 r
          obtain ⟨rfl, h⟩ := h
          have sl := I'.slot 0 _ _ rfl rfl
          refine q v H' F' _ d (s1.trans s') (I1.penBack er1 I'.fb.sub s' (fun a o e => ?_) (fun a o e n => I'.fb.keep a o e fun m => n (mOf_pen m)) I'.fb.there sl.2.2) a h
          rcases I'.fb.new a o e with z | z | z
          · exact .inl z
          · exact .inr (.inl z)
          · exact .inr (.inr (mOf_pen z))
        · exact h.elim
    · exact h1.elim
  · exact hw.elim
section
variable {X : Cx} {CX : CXT} {k n : Nat} {f C : Addr} {fd : FuncData} {ps : List Str} {wf : WF} {E : XK} {x y : Str} {p pos p2 : Pos} {e : Expr} {es : List Expr} {wa : WN}
theorem d_callP (i : Nat) (F : FnOk X.prog X.w X.K X.mg X.base CX k f fd ps (spOf X.K n wf)) (hr : Room k X.A) (hg : Gl X x) (hm : X.mg x = some (.ref f)) (hk : PySem.W.keepIn X.K (.ref f) = true) (hb : Binds X.K fd ps []) (hx : Passes CX X E)
    (ha : DA X es wa) (hN : X.N[i]? = some y := by rfl) (hv : Vis X.env.scope y := by first | exact Or.inl rfl | exact Or.inr (Or.inl rfl) | exact Or.inr (Or.inr rfl)) (hd : (y == ("__debug__" : Str)) = false := by decide) (hcd : (y == ("__classdict__" : Str)) = false := by decide)
    (hdb : (x == ("__debug__" : Str)) = false := by decide) (he : starEach (.Name y p2 :: es) X.env = (false, eval (.Name y p2) X.env) :: starEach es X.env := by rfl) (hpl : (backTo pos (starEach es X.env)).any (·.1) = false := by rfl) :
    DE X (.Call (.Name x p) (.Name y p2 :: es) [] pos) (wCallP i n wf wa) := .of ⟨_, pe_call F hr hg hm hk hb .nil hx (pa_cons (pe_var hN hv hd hcd) ha.run he) hdb he hpl, snd_callP⟩
end
end DL

set_option Elab.async false
set_option linter.all false
set_option maxRecDepth 100000
set_option maxHeartbeats 4000000
namespace DL
open PySem PySem.Spec PyProof.Rows L2

/-! ### an object is made -/
theorem insvals_st {K : PySem.W.Frag} {H F : Hp} {ds : List D} {vs : List V} {p dx C : Addr} (s : Same F H) (a : AtL K F ds vs) (hp : H p = some (.ins C dx [])) (fp : F p = none) : StOk K (atCall (.ins p C [] [] :: ds.map .val) H F) ((V.ref p :: vs).map some) H F (.ins p C [] [] :: ds.map .val) := by
  have hv : ∀ (i : Nat) (x : B), (ds.map B.val)[i]? = some x → ∃ d, ds[i]? = some d ∧ x = .val d := fun i x e => by
    rw [List.getElem?_map] at e
    cases q : ds[i]? with
    | none => rw [q] at e; simp at e
    | some d => rw [q] at e; simp at e; exact ⟨d, rfl, e.symm⟩
  have hm : ∀ (i : Nat) (x : B), (B.ins p C [] [] :: ds.map B.val)[i]? = some x → mine x = true → i = 0 := fun i x e m => by
    cases i with
    | zero => rfl
    | succ i =>
      obtain ⟨d, _, rfl⟩ := hv i x (by simpa using e)
      cases m
  refine ⟨⟨s, Same.refl _, fun a o e => .inl e, fun a o e _ => e, fun a e => e⟩, by simp [a.length], fun i x y e1 e2 => ?_, fun i j x y p n e1 e2 m1 m2 s1 s2 => ?_⟩
  · cases i with
    | zero =>
      simp at e1 e2
      subst e1 e2
      exact ⟨rfl, .inr ⟨0, _, rfl, .inr ⟨C, [], [], rfl⟩⟩, fp, dx, [], hp, rfl, .nil⟩
    | succ i =>
      obtain ⟨d, ed, rfl⟩ := hv i x (by simpa using e1)
      obtain ⟨v, ev, av⟩ := a.get ed
      have e2' : (vs.map some)[i]? = some y := by simpa using e2
      rw [List.getElem?_map, ev] at e2'
      simp at e2'
      exact ⟨v, e2'.symm, av⟩
  · exact n ((hm i x e1 m1).trans (hm j y e2 m2).symm)
theorem mOf_ins {ds : List D} {p q C : Addr} (h : mOf (.ins p C [] [] :: ds.map .val) q) : q = p := by
  obtain ⟨i, x, e, h⟩ := h
  cases i with
  | zero =>
    simp at e
    subst e
    rcases h with ⟨k, z⟩ | ⟨C, ns, l, z⟩
    · cases z
    · cases z; rfl
  | succ i => exact (no_mOf ⟨i, x, by simpa using e, h⟩).elim
def wMake (C : Addr) (n : Nat) (wf : WF) (dds : List D) (wa : WN) : WE := fun ρ post => wa ρ fun ρ1 ds => ds.length + dds.length + 1 = n ∧ ∀ p, wf (.ins p C [] [] :: (ds.map .val ++ dds.map .val)) fun bs' d => match d, bs' with
  | .non, .ins q C' ns l :: _ => q = p ∧ post ρ1 (.obj C' ns l)
  | _, _ => False
theorem snd_make {K : PySem.W.Frag} {C : Addr} {n : Nat} {wf : WF} {dds : List D} {dvs : List V} {wa : WN} {E : XK} (hd : ∀ F, AtL K F dds dvs) : SndE K (tMake C (spOf K n wf) dvs E (canA K wa)) (wMake C n wf dds wa) := fun b σ H F ρ post I hw Q q =>
  ⟨b, F, ρ, _, I, hw, fun vs H1 F1 ρ1 ds s1 I1 a1 h1 x dx nx ndx nex => by
    have hw' := h1.2 x
    rw [← List.map_append] at hw'
    have g0 : Same H1 (upd (upd H1 dx (.own x)) x (.ins C dx [])) := (same_new ndx).trans (same_new (by rw [upd_ne (fun z => nex z.symm)]; exact nx))
    have fx : F1 x = none := I1.fb.sub.free nx
    refine ⟨F1, _, _, insvals_st (I1.fb.sub.trans g0) (a1.append (hd F1)) upd_same fx, ?_, hw', fun v H' F' bs' d s' I' a h => ?_⟩
    · simp only [List.length_cons, List.length_map, List.length_append]
      exact h1.1
    · split at h
      · rename_i q' C' ns l r
        obtain ⟨rfl, h⟩ := h
        cases a
        refine ⟨rfl, ?_⟩
        obtain ⟨_, _, fq, dx', fs, e1, e2, e3⟩ := I'.slot 0 _ _ rfl rfl
        have sf : Same F' (upd F' q' (.ins C' dx' fs)) := same_new fq
        have g : Grow F1 H1 (upd F' q' (.ins C' dx' fs)) H' := by
          refine ⟨s'.trans sf, fun z o e => I'.fb.keep z o (g0 z o e) fun m => ?_, fun z o e => ?_, fun z o e => ?_⟩
          · have := mOf_ins m
            subst this
            rw [nx] at e; cases e
          · by_cases hz : z = q'
            · subst hz; rw [upd_same] at e; cases e; exact e1
            · rw [upd_ne hz] at e; exact I'.fb.sub _ _ e
          · by_cases hz : z = q'
            · subst hz; exact .inr nx
            · rw [upd_ne hz] at e
              rcases I'.fb.new z o e with k | k | k
              · exact .inl k
              · exact .inr (g0.free k)
              · exact (hz (mOf_ins k)).elim
        exact q _ H' _ ρ1 _ (s1.trans g.f) (I1.grow g) (.obj upd_same e2 (e3.up sf)) h
      · exact h.elim⟩
section
variable {X : Cx} {CX : CXT} {k n : Nat} {f C : Addr} {fd : FuncData} {ps : List Str} {wf : WF} {dds : List D} {dvs : List V} {ds : List Value} {E : XK} {x : Str} {p pos : Pos} {e : Expr} {es : List Expr} {wa : WN}
theorem d_make (M : Mk X.K C f) (F : FnOk X.prog X.w X.K X.mg X.base CX k f fd ps (spOf X.K n wf)) (hr : Room (k + 1) X.A) (hg : Gl X x) (hm : X.mg x = some (.ref C)) (hb : Binds X.K fd ps ds) (hd : Vals dvs ds) (hdd : ∀ F, AtL X.K F dds dvs) (hx : Passes CX X E)
    (ha : DA X (e :: es) wa) (hdb : (x == ("__debug__" : Str)) = false := by decide) (he : starEach (e :: es) X.env = (false, eval e X.env) :: starEach es X.env := by rfl) (hpl : (backTo pos (starEach es X.env)).any (·.1) = false := by rfl) :
    DE X (.Call (.Name x p) (e :: es) [] pos) (wMake C n wf dds wa) := .of ⟨_, pe_make M F hr hg hm hb hd hx ha.run hdb he hpl, snd_make hdd⟩
end

/-! ### self.f = e -/
theorem putF_new {f : Str} {v : V} : ∀ {fs : List (Str × V)}, (∀ p ∈ fs, p.1 ≠ f) → putF f v fs = fs ++ [(f, v)]
  | [], _ => rfl
  | (g, x) :: r, h => by
    have h1 : g ≠ f := h _ List.mem_cons_self
    show (if g = f then (g, v) :: r else (g, x) :: putF f v r) = (g, x) :: (r ++ [(f, v)])
    rw [if_neg h1, putF_new fun p hp => h p (List.mem_cons_of_mem _ hp)]
def wFldS (i : Nat) (f : Str) (w : WE) : WS := fun De ρ => w ρ fun ρ1 d => match nth ρ1 i with
  | .ins p C ns l => (ns.length < 900 ∧ ∀ g ∈ ns, g ≠ f) ∧ De.nx (ρ1.set i (.ins p C (ns ++ [f]) (l ++ [d])))
  | _ => False
section
variable {X : Cx} {value : Expr} {f x : Str} {we : WE} {pos pos' xpos : Pos}
theorem ds_fld (i : Nat) (c : ∀ (b : Bs) (σ : L2.St) (H F : Hp) (ρ : Env) (p C : Addr) (ns : List Str) (l : List D), StOk X.K b σ H F ρ → nth ρ i = .ins p C ns l → Cls X.K C ∧ NoAttr X.K C f) (hv : DE X value we)
    (hN : X.N[i]? = some x := by rfl) (hvis : Vis X.env.scope x := by first | exact Or.inl rfl | exact Or.inr (Or.inl rfl) | exact Or.inr (Or.inr rfl)) (hd : (x == ("__debug__" : Str)) = false := by decide) (hcd : (x == ("__classdict__" : Str)) = false := by decide)
    (hs : swapsWith value (some (.Attribute (.Name x xpos) f pos')) pos.line X.env = pure false := by rfl) : DS X (.Assign [.Attribute (.Name x xpos) f pos'] value pos) (wFldS i f we) :=
  .of ⟨_, ps_fld (pe_var hN hvis hd hcd) hv.run hs, fun b σ H F ρ De D I hw m => snd_canE b σ H F ρ _ I hw _ fun v H1 F1 ρ1 d s1 I1 a1 h1 => by
    split at h1
    · rename_i p C ns l e
      obtain ⟨⟨hl, hn⟩, h1⟩ := h1
      obtain ⟨hcl, hna⟩ := c b σ H1 F1 ρ1 p C ns l I1 e
      have e' := nth_some e (by intro z; cases z)
      obtain ⟨y, ey, ev, mm, fp, dx, fs, g1, g2, g3⟩ := slot_at I1 e'
      subst ev
      refine ⟨.ref p, ey, p, C, dx, fs, rfl, g1, hcl, hna, ?_, ?_⟩
      · have := congrArg List.length g2
        rw [List.length_map] at this
        omega
      · have hp : putF f v fs = fs ++ [(f, v)] := putF_new fun q hq z => hn q.1 (by rw [← g2]; exact List.mem_map_of_mem hq) z
        rw [hp]
        refine m.nx σ _ F1 _ s1 (I1.write (x := .ins p C (ns ++ [f]) (l ++ [d])) ey ⟨_, e', rfl⟩ ⟨rfl, mm, fp, dx, _, upd_same, ?_, ?_⟩) h1
        · rw [List.map_append, g2]; rfl
        · rw [List.map_append]; exact g3.append (.cons a1 .nil)
    · exact h1.elim⟩
end

/-! ### isinstance -/
def tyD : D → Value
  | .non => .type "NoneType"
  | .bl _ => .type "bool"
  | .int _ => .type "int"
  | .str _ => .type "str"
  | .tup _ => .type "tuple"
  | .lst _ => .type "list"
  | .obj C _ _ => .ref C
/-- what isinstance asks of a class of the text -/
structure InsC (K : PySem.W.Frag) (C : Addr) : Prop where
  cl : Cls K C
  ha : PySem.W.findIn K (.ref C) "__class__" = some (some (.builtin "object.__class__"))
  hn : PySem.W.specialIn K (.builtin "object.__class__") "__get__" = some (some (.builtin "getset_descriptor.__get__"))
  htk : PySem.W.takesIn K (.builtin "object.__class__") = some true
  hm : PySem.W.mroIn K C (.type "object") = some true
def isObj : D → Option Addr
  | .obj C _ _ => some C
  | _ => none
theorem tyx_at {K : PySem.W.Frag} {F H : Hp} {d : D} {v : V} (s : Same F H) (a : At K F d v) (ho : ∀ C, isObj d = some C → InsC K C) : TyX K H v (tyD d) := by
  cases a with
  | non => exact .base .non
  | bl b => exact .base (.bl b)
  | int i => exact .base (.int i)
  | str x => exact .base (.str x)
  | tup hs _ =>
    rcases same_t s hs with (h | ⟨o, h⟩) | ⟨o, its, n, h, hc, _⟩
    · exact .base (.tup h)
    · exact .fTuple h
    · exact .kTuple h hc
  | lst hs _ => exact .base (.lst (s _ _ hs))
  | obj hs _ _ =>
    have q := ho _ rfl
    exact .base (.ins (s _ _ hs) q.cl q.ha q.hn q.htk q.hm)
/-- isinstance(e, c): the answer by a table -/
def wIsi (tab : D → Option Bool) (w : WE) : WE := fun ρ post => w ρ fun ρ1 d => match tab d with
  | some k => post ρ1 (.bl k)
  | none => False
section
variable {X : Cx} {e : Expr} {w : WE} {x : Str} {p pos p2 : Pos} {tab : D → Option Bool}
theorem d_isiT (T : String) (hg : Gl X "isinstance") (hm : X.mg "isinstance" = none) (hgT : Gl X x) (hmT : X.mg x = none) (hv : bootBuiltins x = some (.type T)) (he : DE X e w)
    (htab : ∀ d k, tab d = some k → PySem.W.kitOne X.K (tyD d) (.type T) = some k ∧ ∀ C, isObj d = some C → InsC X.K C)
    (hb : bootBuiltins "isinstance" = some (.builtin "isinstance")) (hn : x ≠ "__name__" := by decide) (hd : (x == ("__debug__" : Str)) = false := by decide)
    (hs : starEach [e, .Name x p2] X.env = (false, eval e X.env) :: starEach [.Name x p2] X.env := by rfl) (hs2 : starEach [.Name x p2] X.env = (false, eval (.Name x p2) X.env) :: starEach [] X.env := by rfl) (hpl : (backTo pos (starEach [.Name x p2] X.env)).any (·.1) = false := by rfl) :
    DE X (.Call (.Name "isinstance" p) [e, .Name x p2] [] pos) (wIsi tab w) := by
  refine .of ⟨_, pe_callB call_isi hg hm hb (pa_cons he.run (pa_cons (pe_bltn (v := .ty T) hgT hmT hv rfl hn hd) pa_nil hs2) hs) (by decide) (by decide) hs hpl, fun b σ H F ρ post I hw Q q => snd_canE (w := w) b σ H F ρ _ I hw _ fun v H1 F1 ρ1 d s1 I1 a1 h1 => ?_⟩
  split at h1
  · rename_i k ek
    obtain ⟨h2, h3⟩ := htab d k ek
    exact ⟨v, .ty T, tyD d, .type T, k, rfl, .ty T, tyx_at I1.fb.sub a1 h3, h2, q _ H1 F1 ρ1 _ s1 I1 (.bl k) h1⟩
  · exact h1.elim
theorem d_isiC (C : Addr) (hg : Gl X "isinstance") (hm : X.mg "isinstance" = none) (hgT : Gl X x) (hmT : X.mg x = some (.ref C)) (he : DE X e w)
    (htab : ∀ d k, tab d = some k → PySem.W.kitOne X.K (tyD d) (.ref C) = some k ∧ ∀ C, isObj d = some C → InsC X.K C)
    (hb : bootBuiltins "isinstance" = some (.builtin "isinstance")) (hd : (x == ("__debug__" : Str)) = false := by decide)
    (hs : starEach [e, .Name x p2] X.env = (false, eval e X.env) :: starEach [.Name x p2] X.env := by rfl) (hs2 : starEach [.Name x p2] X.env = (false, eval (.Name x p2) X.env) :: starEach [] X.env := by rfl) (hpl : (backTo pos (starEach [.Name x p2] X.env)).any (·.1) = false := by rfl) :
    DE X (.Call (.Name "isinstance" p) [e, .Name x p2] [] pos) (wIsi tab w) := by
  refine .of ⟨_, pe_callB call_isi hg hm hb (pa_cons he.run (pa_cons (pe_glob (v := .ref C) hgT hmT rfl hd) pa_nil hs2) hs) (by decide) (by decide) hs hpl, fun b σ H F ρ post I hw Q q => snd_canE (w := w) b σ H F ρ _ I hw _ fun v H1 F1 ρ1 d s1 I1 a1 h1 => ?_⟩
  split at h1
  · rename_i k ek
    obtain ⟨h2, h3⟩ := htab d k ek
    exact ⟨v, .ref C, tyD d, .ref C, k, rfl, .own C, tyx_at I1.fb.sub a1 h3, h2, q _ H1 F1 ρ1 _ s1 I1 (.bl k) h1⟩
  · exact h1.elim
/-- isinstance(e, (T1, T2)) of two built-in types -/
theorem d_isi2 (T1 T2 : String) {x1 x2 : Str} {q1 q2 tp : Pos} {kk : Nat} (hg : Gl X "isinstance") (hm : X.mg "isinstance" = none) (hg1 : Gl X x1) (hm1 : X.mg x1 = none) (hv1 : bootBuiltins x1 = some (.type T1)) (hg2 : Gl X x2) (hm2 : X.mg x2 = none) (hv2 : bootBuiltins x2 = some (.type T2)) (he : DE X e w)
    (htab : ∀ d k, tab d = some k → PySem.W.kitAny X.K (tyD d) [.type T1, .type T2] = some k ∧ ∀ C, isObj d = some C → InsC X.K C)
    (hb : bootBuiltins "isinstance" = some (.builtin "isinstance")) (hn1 : x1 ≠ "__name__" := by decide) (hd1 : (x1 == ("__debug__" : Str)) = false := by decide) (hn2 : x2 ≠ "__name__" := by decide) (hd2 : (x2 == ("__debug__" : Str)) = false := by decide)
    (hs : starEach [e, .Tuple [.Name x1 q1, .Name x2 q2] kk tp] X.env = (false, eval e X.env) :: starEach [.Tuple [.Name x1 q1, .Name x2 q2] kk tp] X.env := by rfl) (hs2 : starEach [.Tuple [.Name x1 q1, .Name x2 q2] kk tp] X.env = (false, eval (.Tuple [.Name x1 q1, .Name x2 q2] kk tp) X.env) :: starEach [] X.env := by rfl) (hpl : (backTo pos (starEach [.Tuple [.Name x1 q1, .Name x2 q2] kk tp] X.env)).any (·.1) = false := by rfl)
    (hs3 : starEach [.Name x1 q1, .Name x2 q2] X.env = (false, eval (.Name x1 q1) X.env) :: starEach [.Name x2 q2] X.env := by rfl) (hs4 : starEach [.Name x2 q2] X.env = (false, eval (.Name x2 q2) X.env) :: starEach [] X.env := by rfl) :
    DE X (.Call (.Name "isinstance" p) [e, .Tuple [.Name x1 q1, .Name x2 q2] kk tp] [] pos) (wIsi tab w) := by
  refine .of ⟨_, pe_callB call_isiT hg hm hb (pa_cons he.run (pa_cons (pe_tup (pa_cons (pe_bltn (v := .ty T1) hg1 hm1 hv1 rfl hn1 hd1) (pa_cons (pe_bltn (v := .ty T2) hg2 hm2 hv2 rfl hn2 hd2) pa_nil hs4) hs3)) pa_nil hs2) hs) (by decide) (by decide) hs hpl, fun b σ H F ρ post I hw Q q => snd_canE (w := w) b σ H F ρ _ I hw _ fun v H1 F1 ρ1 d s1 I1 a1 h1 => ?_⟩
  split at h1
  · rename_i k ek
    obtain ⟨h2, h3⟩ := htab d k ek
    refine ⟨(by decide : 2 ≤ sizeLine), fun r hr => ?_⟩
    have g := Grow.tmp (o := .tup [.ty T1, .ty T2]) I1.fb.sub hr
    exact ⟨v, r, [.ty T1, .ty T2], tyD d, [.type T1, .type T2], k, rfl, upd_same, .cons (.ty T1) (.cons (.ty T2) .nil), tyx_at g.sub a1 h3, h2, q _ _ F1 ρ1 _ s1 (I1.grow g) (.bl k) h1⟩
  · exact h1.elim
end
/-- the tables of the built-in types (objects: not asked) -/
def tInt : D → Option Bool
  | .int _ => some true
  | .bl _ => some true
  | .obj _ _ _ => none
  | _ => some false
def tBool : D → Option Bool
  | .bl _ => some true
  | .obj _ _ _ => none
  | _ => some false
def tStr : D → Option Bool
  | .str _ => some true
  | .obj _ _ _ => none
  | _ => some false
def tSeq : D → Option Bool
  | .tup _ => some true
  | .lst _ => some true
  | .obj _ _ _ => none
  | _ => some false
theorem tInt_ok {K : PySem.W.Frag} : ∀ d k, tInt d = some k → PySem.W.kitOne K (tyD d) (.type "int") = some k ∧ ∀ C, isObj d = some C → InsC K C := fun d k h => by
  cases d <;> first
    | (cases h; exact ⟨kit_ty (by decide +kernel), fun C z => by cases z⟩)
    | cases h
theorem tBool_ok {K : PySem.W.Frag} : ∀ d k, tBool d = some k → PySem.W.kitOne K (tyD d) (.type "bool") = some k ∧ ∀ C, isObj d = some C → InsC K C := fun d k h => by
  cases d <;> first
    | (cases h; exact ⟨kit_ty (by decide +kernel), fun C z => by cases z⟩)
    | cases h
theorem tStr_ok {K : PySem.W.Frag} : ∀ d k, tStr d = some k → PySem.W.kitOne K (tyD d) (.type "str") = some k ∧ ∀ C, isObj d = some C → InsC K C := fun d k h => by
  cases d <;> first
    | (cases h; exact ⟨kit_ty (by decide +kernel), fun C z => by cases z⟩)
    | cases h
theorem kit2 {K : PySem.W.Frag} {t a b : Value} {x y : Bool} (h1 : PySem.W.kitOne K t a = some x) (h2 : PySem.W.kitOne K t b = some y) : PySem.W.kitAny K t [a, b] = some (x || y) := by
  cases x with
  | true => exact kitAny_cons (r := true) h1 (fun z => by cases z) (fun _ => rfl)
  | false =>
    refine kitAny_cons h1 (fun _ => ?_) (fun z => by cases z)
    cases y with
    | true => exact kitAny_cons (r := true) h2 (fun z => by cases z) (fun _ => rfl)
    | false => exact kitAny_cons h2 (fun _ => kitAny_nil) (fun z => by cases z)
theorem tSeq_ok {K : PySem.W.Frag} : ∀ d k, tSeq d = some k → PySem.W.kitAny K (tyD d) [.type "list", .type "tuple"] = some k ∧ ∀ C, isObj d = some C → InsC K C := fun d k h => by
  cases d with
  | obj _ _ _ => cases h
  | tup _ => cases h; exact ⟨kit2 (x := false) (y := true) (kit_ty (by decide +kernel)) (kit_ty (by decide +kernel)), fun C z => by cases z⟩
  | lst _ => cases h; exact ⟨kit2 (x := true) (y := false) (kit_ty (by decide +kernel)) (kit_ty (by decide +kernel)), fun C z => by cases z⟩
  | _ => cases h; exact ⟨kit2 (x := false) (y := false) (kit_ty (by decide +kernel)) (kit_ty (by decide +kernel)), fun C z => by cases z⟩
/-- an own class: its own objects are of it -/
def tOwn (C : Addr) : D → Option Bool
  | .obj C' _ _ => if C' = C then some true else none
  | _ => none
theorem tOwn_ok {K : PySem.W.Frag} {C : Addr} (q : InsC K C) : ∀ d k, tOwn C d = some k → PySem.W.kitOne K (tyD d) (.ref C) = some k ∧ ∀ C, isObj d = some C → InsC K C := fun d k h => by
  cases d with
  | obj C' ns l =>
    have h' : (if C' = C then some true else none) = some k := h
    by_cases e : C' = C
    · subst e
      rw [if_pos rfl] at h'
      cases h'
      refine ⟨?_, fun C z => by cases z; exact q⟩
      show (if (Value.ref C' == Value.ref C') = true then some true else _) = some true
      rw [if_pos (by simp)]
    · rw [if_neg e] at h'; cases h'
  | _ => cases h
end DL

set_option Elab.async false
set_option linter.all false
set_option maxRecDepth 100000
set_option maxHeartbeats 4000000
namespace DL
open PySem PySem.Spec PyProof.Rows L2

/-- a name that may hold a list of mine: then it is handed on -/
def wvz (i : Nat) : WE := fun ρ post => match nth ρ i with
  | .own l => post (ρ.set i (.val (.lst l))) (.lst l)
  | .val d => post ρ d
  | _ => False
theorem snd_vz {K : PySem.W.Frag} {i : Nat} : SndE K (tVar i) (wvz i) := fun b σ H F ρ post I h Q q => by
  unfold wvz at h
  split at h
  · rename_i l e
    exact snd_z b σ H F ρ post I (by unfold wz; rw [e]; exact h) Q q
  · rename_i d e
    exact snd_v b σ H F ρ post I (by unfold wv; rw [e]; exact h) Q q
  · exact h.elim
/-- an item of a list of mine -/
def wIxO (i : Nat) (wb : WE) : WE := fun ρ post => match nth ρ i with
  | .own _ => wb ρ fun ρ1 y => (match nth ρ1 i, y with
    | .own l, .int k => (match atI l k with
      | some d => post ρ1 d
      | none => False)
    | _, _ => False)
  | _ => False
def wLenO (i : Nat) : WE := fun ρ post => match nth ρ i with
  | .own l => post ρ (.int l.length)
  | _ => False
section
variable {X : Cx} {b : Expr} {wb : WE} {x : Str} {pos p2 p : Pos}
theorem dvz (i : Nat) (hN : X.N[i]? = some x := by rfl) (hv : Vis X.env.scope x := by first | exact Or.inl rfl | exact Or.inr (Or.inl rfl) | exact Or.inr (Or.inr rfl)) (hd : (x == ("__debug__" : Str)) = false := by decide)
    (hcd : (x == ("__classdict__" : Str)) = false := by decide) : DE X (.Name x pos) (wvz i) := .of ⟨_, pe_var hN hv hd hcd, snd_vz⟩
theorem d_ixO (i : Nat) (hb : DE X b wb) (hN : X.N[i]? = some x := by rfl) (hv : Vis X.env.scope x := by first | exact Or.inl rfl | exact Or.inr (Or.inl rfl) | exact Or.inr (Or.inr rfl)) (hd : (x == ("__debug__" : Str)) = false := by decide)
    (hcd : (x == ("__classdict__" : Str)) = false := by decide) (hs : PlainIx b := by exact fun _ _ => rfl) : DE X (.Subscript (.Name x p2) b pos) (wIxO i wb) :=
  .of ⟨_, pe_ix ix_list (pe_var hN hv hd hcd) hb.run hs, fun bs σ H F ρ post I h Q q => by
    unfold wIxO at h
    split at h
    · rename_i l0 e0
      obtain ⟨r, vs, ep, er, h1, h2, h3, h4⟩ := own_at I e0
      refine ⟨.ref r, ep, snd_canE (w := wb) bs σ H F ρ _ I h _ fun v H1 F1 ρ1 d s1 I1 a1 k1 => ?_⟩
      split at k1
      · rename_i l k e1
        obtain ⟨r', vs', ep', er', g1, g2, g3, g4⟩ := own_at I1 e1
        rw [ep] at ep'
        cases ep'
        split at k1
        · rename_i d ed
          cases a1
          obtain ⟨u, eu, au⟩ := atI_at g4 ed
          exact ⟨r, vs', k, u, rfl, rfl, .inl (.inl g1), eu, q u H1 F1 ρ1 d s1 I1 au k1⟩
        · exact k1.elim
      · exact k1.elim
    · exact h.elim⟩
theorem d_lenO (i : Nat) (hg : Gl X "len") (hm : X.mg "len" = none) (hv0 : bootBuiltins "len" = some (.builtin "len")) (hN : X.N[i]? = some x := by rfl) (hv : Vis X.env.scope x := by first | exact Or.inl rfl | exact Or.inr (Or.inl rfl) | exact Or.inr (Or.inr rfl)) (hd : (x == ("__debug__" : Str)) = false := by decide)
    (hcd : (x == ("__classdict__" : Str)) = false := by decide)
    (he : starEach [.Name x p2] X.env = (false, eval (.Name x p2) X.env) :: starEach [] X.env := by rfl) (hpl : (backTo pos (starEach [] X.env)).any (·.1) = false := by rfl) : DE X (.Call (.Name "len" p) [.Name x p2] [] pos) (wLenO i) :=
  .of ⟨_, pe_callB call_len_seq hg hm hv0 (pa_cons (pe_var hN hv hd hcd) pa_nil he) (by decide) (by decide) he hpl, fun bs σ H F ρ post I h Q q => by
    unfold wLenO at h
    split at h
    · rename_i l0 e0
      obtain ⟨r, vs, ep, er, h1, h2, h3, h4⟩ := own_at I e0
      refine ⟨.ref r, ep, r, vs, rfl, .inl (.inl (.inl h1)), q _ H F ρ (.int l0.length) (Same.refl _) I ?_ h⟩
      rw [h4.length]
      exact .int _
    · exact h.elim⟩
end
section
variable {X : Cx} {elt tg iter tg1 iter1 : Expr} {ifs ifs1 : List Expr} {scope : Scope} {own : List (Str × Nat)} {pos spos py : Pos} {wi wi1 : WN} {ts ts1 vs1 : List Nat} {g g1 : WG} {tt tt1 : WT} {te : WE} {y : Str}
/-- y = [..] on one line, y a plain local name: the list is mine, or does not change -/
theorem snd_setN {K : PySem.W.Frag} {t : TE} {w : WN} (i : Nat) (h : SndN K t w) : SndS K (tAsg t (gName i)) (wSetN i w) := fun b σ H F ρ De D I hw m => h b σ H F ρ _ I hw _ fun p vs H1 F1 ρ1 l s1 I1 h1 h2 h3 ap a1 h => m.nx _ H1 F1 _ s1 (set_new I1 h1 h2 h3 ap a1) h
theorem snd_setF {K : PySem.W.Frag} {t : TE} {w : WN} (i : Nat) (h : SndN K t w) : SndS K (tAsg t (gName i)) (wSet i (wFz w)) := fun b σ H F ρ De D I hw m => h b σ H F ρ _ I hw _ fun p vs H1 F1 ρ1 l s1 I1 h1 h2 h3 ap a1 h => by
  obtain ⟨sf, I2, at'⟩ := frz_new I1 h1 h2 h3 ap a1
  exact m.nx _ H1 _ _ (s1.trans sf) (I2.setVal at') h
theorem ds_setLcN (i : Nat) (own : List (Str × Nat)) (hc : X.calm = true) (hN : X.N.Nodup) (hi : DI X tg iter wi) (ok : BlkOk X.N X.env.scope scope own) (hts : ∀ i ∈ ts, i ∈ own.map (·.2))
    (hg : ∀ (s : Shared) (H : Hp) (C : Addr) (cl : List (Str × Addr)) (fp : List Addr), DG (X.blk s H scope (compEnvC scope cl C X.env) fp) tg ts g) (ht : ∀ (s : Shared) (H : Hp) (C : Addr) (cl : List (Str × Addr)) (fp : List Addr), DTs (X.blk s H scope (compEnvC scope cl C X.env) fp) ifs tt)
    (he : ∀ (s : Shared) (H : Hp) (C : Addr) (cl : List (Str × Addr)) (fp : List Addr), DE (X.blk s H scope (compEnvC scope cl C X.env) fp) elt te)
    (hsw : swapsWith (.ListComp elt [⟨tg, iter, ifs, 0⟩] scope pos) (some (.Name y py)) spos.line X.env = pure true) (hy : X.N[i]? = some y := by rfl) (hyl : X.env.scope.names.lookup y = some .local := by rfl) (hs : ∀ x, foldedSetIterable iter X.env x = pure x := by intro _; rfl) :
    DS X (.Assign [.Name y py] (.ListComp elt [⟨tg, iter, ifs, 0⟩] scope pos) spos) (wSetN i (wLc wi (own.map (·.2)) g tt te)) :=
  .of ⟨_, ps_setLc hc hN hy hyl hsw hi.run ok (fun s H C cl fp => (hg s H C cl fp).run) (fun s H C cl fp => (ht s H C cl fp).run) (fun s H C cl fp => (he s H C cl fp).run) hs, snd_setN i (snd_lc hts)⟩
theorem ds_setLc (i : Nat) (own : List (Str × Nat)) (hc : X.calm = true) (hN : X.N.Nodup) (hi : DI X tg iter wi) (ok : BlkOk X.N X.env.scope scope own) (hts : ∀ i ∈ ts, i ∈ own.map (·.2))
    (hg : ∀ (s : Shared) (H : Hp) (C : Addr) (cl : List (Str × Addr)) (fp : List Addr), DG (X.blk s H scope (compEnvC scope cl C X.env) fp) tg ts g) (ht : ∀ (s : Shared) (H : Hp) (C : Addr) (cl : List (Str × Addr)) (fp : List Addr), DTs (X.blk s H scope (compEnvC scope cl C X.env) fp) ifs tt)
    (he : ∀ (s : Shared) (H : Hp) (C : Addr) (cl : List (Str × Addr)) (fp : List Addr), DE (X.blk s H scope (compEnvC scope cl C X.env) fp) elt te)
    (hsw : swapsWith (.ListComp elt [⟨tg, iter, ifs, 0⟩] scope pos) (some (.Name y py)) spos.line X.env = pure true) (hy : X.N[i]? = some y := by rfl) (hyl : X.env.scope.names.lookup y = some .local := by rfl) (hs : ∀ x, foldedSetIterable iter X.env x = pure x := by intro _; rfl) :
    DS X (.Assign [.Name y py] (.ListComp elt [⟨tg, iter, ifs, 0⟩] scope pos) spos) (wSet i (wFz (wLc wi (own.map (·.2)) g tt te))) :=
  .of ⟨_, ps_setLc hc hN hy hyl hsw hi.run ok (fun s H C cl fp => (hg s H C cl fp).run) (fun s H C cl fp => (ht s H C cl fp).run) (fun s H C cl fp => (he s H C cl fp).run) hs, snd_setF i (snd_lc hts)⟩
end
end DL

set_option Elab.async false
set_option linter.all false
set_option maxRecDepth 100000
set_option maxHeartbeats 4000000
namespace DL
open PySem PySem.Spec PyProof.Rows L2
section
variable {P : Program} {w : World} {K : PySem.W.Frag} {mg : Str → Option Value} {base : Heap}
/-- THE RULE for a def that raises nothing: its body's reading on data -/
theorem dfnD {x qual : Str} {st : Stmt} {f : Addr} {fd : FuncData} {N ps : List Str} {k n : Nat} {wf : WF} {dvs : List V} (F : FunD K x qual (defArgs st) (defBody st) (defScope st) dvs [] f fd) (S : FnScope N ps (defScope st)) (hn : ps.length = n)
    (hbody : ∀ (cdv : Value) (A : Around) (outer : List PySem.Env) (s : Shared) (H : Hp) (E : XK), Room k (A.deeper (envOfC qual (defScope st) s.heap.objs.size f cdv)) →
      ∃ wb, DSs (cxOf CX0 P w K mg base N qual (defScope st) f cdv A outer s H E).nox (defBody st) wb ∧
        ∀ bs post, bs.length = n → wf bs post → wb ⟨fun ρ => finOk bs ρ ∧ post (finB bs ρ) .non, fun ρ d => finOk bs ρ ∧ post (finB bs ρ) d, fun _ => False, fun _ => False⟩ (startB N.length bs)) :
    FnOk P w K mg base CX0 (k + 1) f fd ps (spOf K n wf) := by
  refine F.ok S (fun vs H Q E h => ?_) (fun cdv A outer s H vs Q E hr h => ?_)
  · obtain ⟨Fz, bs, post, I, hl, _⟩ := h
    have := I.len
    rw [List.length_map] at this
    omega
  · obtain ⟨Fz, bs, post, I, hl, hw, q⟩ := h
    obtain ⟨wb, h1, h2⟩ := hbody cdv A outer s H E hr
    refine ⟨_, h1.run.nox, atCall bs H Fz, Fz, _, _, I.enter N, h2 bs post hl hw, fun σ' H' F' ρ' s' I' h => ?_, fun v σ' H' F' ρ' d s' I' a h => ?_, fun _ _ _ _ _ _ h => h.elim, fun _ _ _ _ _ _ h => h.elim⟩
    · exact q .non H' F' _ .non s' (I.leave I' s' h.1) .non h.2
    · exact q v H' F' _ d s' (I.leave I' s' h.1) a h.2
end
section
variable {X : Cx} {value : Expr} {f x : Str} {we : WE} {pos pos' xpos : Pos} {C : Addr}
theorem d_gI {x : Str} {i : Int} {pos : Pos} (hg : Gl X x) (hm : ∃ t, X.mg x = some (.int i t)) (hd : (x == ("__debug__" : Str)) = false := by decide) : DE X (.Name x pos) (wC (.int i)) := d_glI hg hm.choose_spec hd
theorem d_gS {x y : Str} {pos : Pos} (hg : Gl X x) (hm : ∃ t, X.mg x = some (.str y t)) (hd : (x == ("__debug__" : Str)) = false := by decide) : DE X (.Name x pos) (wC (.str y)) := d_glS hg hm.choose_spec hd
/-- self.f = e, self of the class at C -/
def wFldC (C : Addr) (i : Nat) (f : Str) (w : WE) : WS := fun De ρ => w ρ fun ρ1 d => match nth ρ1 i with
  | .ins p C' ns l => (C' = C ∧ ns.length < 900 ∧ ∀ g ∈ ns, g ≠ f) ∧ De.nx (ρ1.set i (.ins p C' (ns ++ [f]) (l ++ [d])))
  | _ => False
theorem ds_fldC (i : Nat) (hcl : Cls X.K C) (hna : NoAttr X.K C f) (hv : DE X value we)
    (hN : X.N[i]? = some x := by rfl) (hvis : Vis X.env.scope x := by first | exact Or.inl rfl | exact Or.inr (Or.inl rfl) | exact Or.inr (Or.inr rfl)) (hd : (x == ("__debug__" : Str)) = false := by decide) (hcd : (x == ("__classdict__" : Str)) = false := by decide)
    (hs : swapsWith value (some (.Attribute (.Name x xpos) f pos')) pos.line X.env = pure false := by rfl) : DS X (.Assign [.Attribute (.Name x xpos) f pos'] value pos) (wFldC C i f we) :=
  .of ⟨_, ps_fld (pe_var hN hvis hd hcd) hv.run hs, fun b σ H F ρ De D I hw m => snd_canE (w := we) b σ H F ρ _ I hw _ fun v H1 F1 ρ1 d s1 I1 a1 h1 => by
    split at h1
    · rename_i p C' ns l e
      obtain ⟨⟨rfl, hl, hn⟩, h1⟩ := h1
      have e' := nth_some e (by intro z; cases z)
      obtain ⟨y, ey, ev, mm, fp, dx, fs, g1, g2, g3⟩ := slot_at I1 e'
      subst ev
      refine ⟨.ref p, ey, p, C', dx, fs, rfl, g1, hcl, hna, ?_, ?_⟩
      · have := congrArg List.length g2
        rw [List.length_map] at this
        omega
      · have hp : putF f v fs = fs ++ [(f, v)] := putF_new fun q hq z => hn q.1 (by rw [← g2]; exact List.mem_map_of_mem hq) z
        rw [hp]
        refine m.nx σ _ F1 _ s1 (I1.write (x := .ins p C' (ns ++ [f]) (l ++ [d])) ey ⟨_, e', rfl⟩ ⟨rfl, mm, fp, dx, _, upd_same, ?_, ?_⟩) h1
        · rw [List.map_append, g2]; rfl
        · rw [List.map_append]; exact g3.append (.cons a1 .nil)
    · exact h1.elim⟩
end
end DL

set_option Elab.async false
set_option linter.all false
set_option maxRecDepth 100000
set_option maxHeartbeats 4000000
namespace DL
open PySem PySem.Spec PyProof.Rows L2

/-! ### comprehensions and loops whose turns change nothing else -/
theorem take_snoc {α : Type} {l : List α} {i : Nat} {d : α} (h : l[i]? = some d) : l.take (i + 1) = l.take i ++ [d] := by
  rw [List.take_add_one, h]
  rfl
/-- [f x for x in .. if p x] -/
theorem lcPure {vs : List Nat} {g : WG} {tt : WT} {te : WE} {ds : List D} {ρ1 : Env} {post : Env → List D → Prop} (p : D → Bool) (f : D → D)
    (h : ∀ d ∈ ds, ∀ (Pt : Env → D → Prop) (Pf : Env → Prop), (p d = true → Pt (wipeB ρ1 vs) (f d)) → (p d = false → Pf (wipeB ρ1 vs)) →
      g d (wipeB ρ1 vs) fun ρ2 => tt ρ2 fun ρ3 k => match k with
        | true => te ρ3 fun ρ4 x => Pt (wipeB ρ4 vs) x
        | false => Pf (wipeB ρ3 vs))
    (hp : post (mrg 0 vs ρ1 (wipeB ρ1 vs)) ((ds.filter p).map f)) :
    ∃ Iv : Nat → List D → Env → Prop, Iv 0 [] (wipeB ρ1 vs) ∧
      (∀ i d acc ρ, ds[i]? = some d → Iv i acc ρ → g d ρ fun ρ2 => tt ρ2 fun ρ3 k => match k with
        | true => te ρ3 fun ρ4 x => Iv (i + 1) (acc ++ [x]) (wipeB ρ4 vs)
        | false => Iv (i + 1) acc (wipeB ρ3 vs)) ∧
      ∀ acc ρ, Iv ds.length acc ρ → post (mrg 0 vs ρ1 ρ) acc := by
  refine ⟨fun i acc ρ => ρ = wipeB ρ1 vs ∧ acc = ((ds.take i).filter p).map f, ⟨rfl, rfl⟩, fun i d acc ρ e ⟨r, a⟩ => ?_, fun acc ρ ⟨r, a⟩ => ?_⟩
  · subst r a
    refine h d (List.mem_of_getElem? e) (fun ρ x => ρ = wipeB ρ1 vs ∧ ((ds.take i).filter p).map f ++ [x] = ((ds.take (i + 1)).filter p).map f) (fun ρ => ρ = wipeB ρ1 vs ∧ ((ds.take i).filter p).map f = ((ds.take (i + 1)).filter p).map f) (fun hp => ⟨rfl, ?_⟩) (fun hp => ⟨rfl, ?_⟩)
    · rw [take_snoc e, List.filter_append, List.map_append]
      simp [hp]
    · rw [take_snoc e, List.filter_append, List.map_append]
      simp [hp]
  · subst r a
    rw [List.take_length]
    exact hp
/-- [f x for x in ..] -/
theorem lcMap {vs : List Nat} {g : WG} {te : WE} {ds : List D} {ρ1 : Env} {post : Env → List D → Prop} (f : D → D)
    (h : ∀ d ∈ ds, ∀ Pt : Env → D → Prop, Pt (wipeB ρ1 vs) (f d) → g d (wipeB ρ1 vs) fun ρ2 => te ρ2 fun ρ4 x => Pt (wipeB ρ4 vs) x)
    (hp : post (mrg 0 vs ρ1 (wipeB ρ1 vs)) (ds.map f)) :
    ∃ Iv : Nat → List D → Env → Prop, Iv 0 [] (wipeB ρ1 vs) ∧
      (∀ i d acc ρ, ds[i]? = some d → Iv i acc ρ → g d ρ fun ρ2 => wYes ρ2 fun ρ3 k => match k with
        | true => te ρ3 fun ρ4 x => Iv (i + 1) (acc ++ [x]) (wipeB ρ4 vs)
        | false => Iv (i + 1) acc (wipeB ρ3 vs)) ∧
      ∀ acc ρ, Iv ds.length acc ρ → post (mrg 0 vs ρ1 ρ) acc := by
  refine ⟨fun i acc ρ => ρ = wipeB ρ1 vs ∧ acc = (ds.take i).map f, ⟨rfl, rfl⟩, fun i d acc ρ e ⟨r, a⟩ => ?_, fun acc ρ ⟨r, a⟩ => ?_⟩
  · subst r a
    refine h d (List.mem_of_getElem? e) (fun ρ x => ρ = wipeB ρ1 vs ∧ (ds.take i).map f ++ [x] = (ds.take (i + 1)).map f) ⟨rfl, ?_⟩
    rw [take_snoc e, List.map_append]
    rfl
  · subst r a
    rw [List.take_length]
    exact hp
/-- two clauses without tests: the first source is read once, the second at each turn -/
theorem lc2Map {vs vs1 : List Nat} {g g1 : WG} {wi1 : WN} {te : WE} {ds : List D} {ρ1 : Env} {post : Env → List D → Prop} (f : D → List D)
    (h : ∀ d ∈ ds, ∀ (acc : List D) (Pt : List D → Env → Prop), (Pt (acc ++ f d) (wipeB ρ1 vs)) →
      g d (wipeB ρ1 vs) fun ρ2 => wi1 ρ2 fun ρ4 es => ∃ Iw : Nat → List D → Env → Prop, Iw 0 acc (wipeB ρ4 vs1) ∧
        (∀ j e acc ρ, es[j]? = some e → Iw j acc ρ → g1 e ρ fun ρ5 => te ρ5 fun ρ7 x => acc.length < 1000000 ∧ Iw (j + 1) (acc ++ [x]) (wipeB ρ7 vs1)) ∧
        ∀ acc ρ, Iw es.length acc ρ → Pt acc (wipeB ρ vs))
    (hp : post (mrg 0 vs ρ1 (wipeB ρ1 vs)) (ds.map f).flatten) :
    ∃ Iv : Nat → List D → Env → Prop, Iv 0 [] (wipeB ρ1 vs) ∧
      (∀ i d acc ρ, ds[i]? = some d → Iv i acc ρ → g d ρ fun ρ2 => wYes ρ2 fun ρ3 k => match k with
        | true => wi1 ρ3 fun ρ4 es => ∃ Iw : Nat → List D → Env → Prop, Iw 0 acc (wipeB ρ4 vs1) ∧
          (∀ j e acc ρ, es[j]? = some e → Iw j acc ρ → g1 e ρ fun ρ5 => wYes ρ5 fun ρ6 k => match k with
            | true => te ρ6 fun ρ7 x => acc.length < 1000000 ∧ Iw (j + 1) (acc ++ [x]) (wipeB ρ7 vs1)
            | false => Iw (j + 1) acc (wipeB ρ6 vs1)) ∧
          ∀ acc ρ, Iw es.length acc ρ → Iv (i + 1) acc (wipeB ρ vs)
        | false => Iv (i + 1) acc (wipeB ρ3 vs)) ∧
      ∀ acc ρ, Iv ds.length acc ρ → post (mrg 0 vs ρ1 ρ) acc := by
  refine ⟨fun i acc ρ => ρ = wipeB ρ1 vs ∧ acc = ((ds.take i).map f).flatten, ⟨rfl, rfl⟩, fun i d acc ρ e ⟨r, a⟩ => ?_, fun acc ρ ⟨r, a⟩ => ?_⟩
  · subst r a
    refine h d (List.mem_of_getElem? e) _ (fun acc ρ => ρ = wipeB ρ1 vs ∧ acc = ((ds.take (i + 1)).map f).flatten) ⟨rfl, ?_⟩
    rw [take_snoc e, List.map_append, List.flatten_append]
    simp
  · subst r a
    rw [List.take_length]
    exact hp
end DL

set_option Elab.async false
set_option linter.all false
set_option maxRecDepth 100000
set_option maxHeartbeats 4000000
namespace DL
open PySem PySem.Spec PyProof.Rows L2

/-! ### readings that have one answer: from the names ρ the names ρ' and the value d -/
structure Ev (w : WE) (ρ ρ' : Env) (d : D) : Prop where
  run : ∀ post : Env → D → Prop, post ρ' d → w ρ post
structure EvN (w : WN) (ρ ρ' : Env) (l : List D) : Prop where
  run : ∀ post : Env → List D → Prop, post ρ' l → w ρ post
structure EvT (w : WT) (ρ ρ' : Env) (k : Bool) : Prop where
  run : ∀ post : Env → Bool → Prop, post ρ' k → w ρ post
structure EvO (w : WOp) (ρ ρ' : Env) (o : Option Int) : Prop where
  run : ∀ post : Env → Option Int → Prop, post ρ' o → w ρ post
structure EvG (g : WG) (d : D) (ρ ρ' : Env) : Prop where
  run : ∀ k : Env → Prop, k ρ' → g d ρ k
structure EvGs (g : WGs) (ds : List D) (ρ ρ' : Env) : Prop where
  run : ∀ k : Env → Prop, k ρ' → g ds ρ k
structure EvR (wr : R2D) (x y d : D) : Prop where
  run : ∀ post : D → Prop, post d → wr x y post
structure EvC (wr : List D → (D → Prop) → Prop) (ds : List D) (d : D) : Prop where
  run : ∀ post : D → Prop, post d → wr ds post
structure EvCN (wr : List D → (List D → Prop) → Prop) (ds : List D) (l : List D) : Prop where
  run : ∀ post : List D → Prop, post l → wr ds post
structure EvB (w : WO) (ρ ρ' : Env) (bs : List B) : Prop where
  run : ∀ post : Env → List B → Prop, post ρ' bs → w ρ post
/-- a statement that goes on -/
structure EvX (w : WS) (ρ ρ' : Env) : Prop where
  run : ∀ De : DEnds, De.nx ρ' → w De ρ
/-- a body that answers d -/
structure EvS (w : WS) (ρ : Env) (d : D) : Prop where
  run : ∀ De : DEnds, (∀ ρ', De.rt ρ' d) → (d = .non → ∀ ρ', De.nx ρ') → w De ρ
instance {w : WE} {ρ ρ' : Env} {d : D} : CoeFun (Ev w ρ ρ' d) fun _ => ∀ post : Env → D → Prop, post ρ' d → w ρ post := ⟨fun h => h.run⟩
instance {w : WN} {ρ ρ' : Env} {d : List D} : CoeFun (EvN w ρ ρ' d) fun _ => ∀ post : Env → List D → Prop, post ρ' d → w ρ post := ⟨fun h => h.run⟩
instance {w : WT} {ρ ρ' : Env} {d : Bool} : CoeFun (EvT w ρ ρ' d) fun _ => ∀ post : Env → Bool → Prop, post ρ' d → w ρ post := ⟨fun h => h.run⟩
instance {w : WOp} {ρ ρ' : Env} {d : Option Int} : CoeFun (EvO w ρ ρ' d) fun _ => ∀ post : Env → Option Int → Prop, post ρ' d → w ρ post := ⟨fun h => h.run⟩
instance {g : WG} {ρ ρ' : Env} {d : D} : CoeFun (EvG g d ρ ρ') fun _ => ∀ k : Env → Prop, k ρ' → g d ρ k := ⟨fun h => h.run⟩
instance {g : WGs} {ρ ρ' : Env} {d : List D} : CoeFun (EvGs g d ρ ρ') fun _ => ∀ k : Env → Prop, k ρ' → g d ρ k := ⟨fun h => h.run⟩
instance {wr : R2D} {x y d : D} : CoeFun (EvR wr x y d) fun _ => ∀ post : D → Prop, post d → wr x y post := ⟨fun h => h.run⟩
instance {wr : List D → (D → Prop) → Prop} {ds : List D} {d : D} : CoeFun (EvC wr ds d) fun _ => ∀ post : D → Prop, post d → wr ds post := ⟨fun h => h.run⟩
instance {wr : List D → (List D → Prop) → Prop} {ds : List D} {d : List D} : CoeFun (EvCN wr ds d) fun _ => ∀ post : List D → Prop, post d → wr ds post := ⟨fun h => h.run⟩
instance {w : WO} {ρ ρ' : Env} {d : List B} : CoeFun (EvB w ρ ρ' d) fun _ => ∀ post : Env → List B → Prop, post ρ' d → w ρ post := ⟨fun h => h.run⟩
instance {w : WS} {ρ ρ' : Env} : CoeFun (EvX w ρ ρ') fun _ => ∀ De : DEnds, De.nx ρ' → w De ρ := ⟨fun h => h.run⟩
instance {w : WS} {ρ : Env} {d : D} : CoeFun (EvS w ρ d) fun _ => ∀ De : DEnds, (∀ ρ', De.rt ρ' d) → (d = .non → ∀ ρ', De.nx ρ') → w De ρ := ⟨fun h => h.run⟩
section
variable {w wa wb wc : WE} {wt wu : WT} {wn wr wi : WN} {ρ ρ1 ρ2 ρ3 : Env} {d x y z : D} {i j k : Nat} {a b : Int} {p q : Bool} {l m : List D} {g : WG} {gs : WGs}
theorem ev_cast (h : Ev w ρ ρ1 x) (e : x = d) : Ev w ρ ρ1 d := e ▸ h
theorem evT_cast (h : EvT wt ρ ρ1 p) (e : p = q) : EvT wt ρ ρ1 q := e ▸ h
theorem evN_cast (h : EvN wn ρ ρ1 l) (e : l = m) : EvN wn ρ ρ1 m := e ▸ h
theorem ev_v (h : nth ρ i = .val d) : Ev (wv i) ρ ρ d := .mk fun post hp => by unfold wv; rw [h]; exact hp
theorem ev_vz (h : nth ρ i = .val d) : Ev (wvz i) ρ ρ d := .mk fun post hp => by unfold wvz; rw [h]; exact hp
theorem ev_vzO (h : nth ρ i = .own l) : Ev (wvz i) ρ (ρ.set i (.val (.lst l))) (.lst l) := .mk fun post hp => by unfold wvz; rw [h]; exact hp
theorem ev_C : Ev (wC d) ρ ρ d := .mk fun post hp => hp
theorem ev_op {wr : R2D} (ha : Ev wa ρ ρ1 x) (hb : Ev wb ρ1 ρ2 y) (hr : EvR wr x y d) : Ev (wOp wr wa wb) ρ ρ2 d := .mk fun post hp => ha _ (hb _ (hr _ hp))
theorem er_I0 {g : Int → Int → D} : EvR (wI0 g) (.int a) (.int b) (g a b) := .mk fun post hp => hp
theorem er_I {C : Int → Int → Prop} {g : Int → Int → D} (h : C a b) : EvR (wI C g) (.int a) (.int b) (g a b) := .mk fun post hp => ⟨h, hp⟩
theorem er_eq (h1 : shp x = true) (h2 : shp y = true) : EvR wEq x y (.bl (deq x y)) := .mk fun post hp => ⟨⟨h1, h2⟩, hp⟩
theorem er_ne (h1 : shp x = true) (h2 : shp y = true) : EvR wNe x y (.bl (!deq x y)) := .mk fun post hp => ⟨⟨h1, h2⟩, hp⟩
theorem er_isN : EvR wIsN x .non (.bl (isNon x)) := .mk fun post hp => hp
theorem er_notN : EvR wNotN x .non (.bl (!isNon x)) := .mk fun post hp => hp
theorem er_ix (h1 : items x = some l) (h2 : atI l a = some d) : EvR wIx x (.int a) d := .mk fun post hp => by unfold wIx; rw [h1]; simp only [h2]; exact hp
theorem ev_chain {wr wr' : R2D} (ha : Ev wa ρ ρ1 x) (hb : Ev wb ρ1 ρ2 y) (hr : EvR wr x y (.bl p)) (hc : p = true → Ev wc ρ2 ρ2 z) (hr' : p = true → EvR wr' y z (.bl q)) : Ev (wChain wr wr' wa wb wc) ρ ρ2 (.bl (p && q)) := .mk fun post hp => ha _ (hb _ (hr _ (by
  cases p with
  | true => exact hc rfl _ (hr' rfl _ hp)
  | false => exact hp)))
theorem ev_tst (h : Ev w ρ ρ1 (.bl p)) : EvT (wTst w) ρ ρ1 p := .mk fun post hp => h _ hp
theorem ev_not (h : EvT wt ρ ρ1 p) : EvT (wNot wt) ρ ρ1 (!p) := .mk fun post hp => h _ hp
theorem ev_andT (h : EvT wt ρ ρ1 p) (h2 : p = true → EvT wu ρ1 ρ1 q) : EvT (wAndT wt wu) ρ ρ1 (p && q) := .mk fun post hp => h _ (by
  cases p with
  | true => exact h2 rfl _ hp
  | false => exact hp)
theorem ev_orT (h : EvT wt ρ ρ1 p) (h2 : p = false → EvT wu ρ1 ρ1 q) : EvT (wOrT wt wu) ρ ρ1 (p || q) := .mk fun post hp => h _ (by
  cases p with
  | false => exact h2 rfl _ hp
  | true => exact hp)
theorem ev_and (h : Ev wa ρ ρ1 (.bl p)) (h2 : p = true → Ev wb ρ1 ρ1 (.bl q)) : Ev (wAnd wa wb) ρ ρ1 (.bl (p && q)) := .mk fun post hp => h _ (by
  cases p with
  | true => exact h2 rfl _ hp
  | false => exact hp)
theorem ev_or (h : Ev wa ρ ρ1 (.bl p)) (h2 : p = false → Ev wb ρ1 ρ1 (.bl q)) : Ev (wOr wa wb) ρ ρ1 (.bl (p || q)) := .mk fun post hp => h _ (by
  cases p with
  | false => exact h2 rfl _ hp
  | true => exact hp)
theorem ev_andL (h : Ev wa ρ ρ1 (.bl false)) : Ev (wAnd wa wb) ρ ρ1 (.bl false) := .mk fun post hp => h _ hp
theorem ev_orL (h : Ev wa ρ ρ1 (.bl true)) : Ev (wOr wa wb) ρ ρ1 (.bl true) := .mk fun post hp => h _ hp
theorem ev_orR (h : Ev wa ρ ρ1 (.bl false)) (h2 : Ev wb ρ1 ρ2 (.bl q)) : Ev (wOr wa wb) ρ ρ2 (.bl q) := .mk fun post hp => h _ (h2 _ hp)
theorem ev_andR (h : Ev wa ρ ρ1 (.bl true)) (h2 : Ev wb ρ1 ρ2 (.bl q)) : Ev (wAnd wa wb) ρ ρ2 (.bl q) := .mk fun post hp => h _ (h2 _ hp)
theorem ev_andTL (h : EvT wt ρ ρ1 false) : EvT (wAndT wt wu) ρ ρ1 false := .mk fun post hp => h _ hp
theorem ev_orTL (h : EvT wt ρ ρ1 true) : EvT (wOrT wt wu) ρ ρ1 true := .mk fun post hp => h _ hp
theorem ev_ifT (h : EvT wt ρ ρ1 true) (h1 : Ev wa ρ1 ρ2 x) : Ev (wIf wt wa wb) ρ ρ2 x := .mk fun post hp => h _ (h1 _ hp)
theorem ev_ifF (h : EvT wt ρ ρ1 false) (h1 : Ev wb ρ1 ρ2 x) : Ev (wIf wt wa wb) ρ ρ2 x := .mk fun post hp => h _ (h1 _ hp)
theorem ev_notV (h : Ev wa ρ ρ1 (.bl p)) : Ev (wNotV wa) ρ ρ1 (.bl (!p)) := .mk fun post hp => h _ hp
theorem ev_neg (h : Ev wa ρ ρ1 (.int a)) : Ev (wNeg wa) ρ ρ1 (.int (-a)) := .mk fun post hp => h _ hp
theorem ev_if (h : EvT wt ρ ρ1 p) (h1 : p = true → Ev wa ρ1 ρ1 x) (h2 : p = false → Ev wb ρ1 ρ1 y) : Ev (wIf wt wa wb) ρ ρ1 (if p then x else y) := .mk fun post hp => h _ (by
  cases p with
  | true => exact h1 rfl _ hp
  | false => exact h2 rfl _ hp)
theorem ev_fz (h : EvN wn ρ ρ1 l) : Ev (wFz wn) ρ ρ1 (.lst l) := .mk fun post hp => h _ hp
theorem ev_nil : EvN wNil ρ ρ [] := .mk fun post hp => hp
theorem ev_cons (h : Ev wa ρ ρ1 d) (h2 : EvN wr ρ1 ρ2 l) : EvN (wCons wa wr) ρ ρ2 (d :: l) := .mk fun post hp => h _ (h2 _ hp)
theorem ev_star (h : Ev wa ρ ρ1 d) (hi : items d = some m) (h2 : EvN wr ρ1 ρ2 l) : EvN (wStar wa wr) ρ ρ2 (m ++ l) := .mk fun post hp => h _ (by simp only [hi]; exact h2 _ hp)
theorem ev_tup (h : EvN wn ρ ρ1 l) (hl : l.length ≤ 1000000) : Ev (wTup wn) ρ ρ1 (.tup l) := .mk fun post hp => h _ ⟨hl, hp⟩
theorem ev_lst (h : EvN wn ρ ρ1 l) (hl : l.length ≤ 1000000) : EvN (wLst wn) ρ ρ1 l := .mk fun post hp => h _ ⟨hl, hp⟩
theorem ev_cb {f : List D → (D → Prop) → Prop} (h : EvN wn ρ ρ1 l) (hf : EvC f l d) : Ev (wCB f wn) ρ ρ1 d := .mk fun post hp => h _ (hf _ hp)
theorem ev_cbn {f : List D → (List D → Prop) → Prop} (h : EvN wn ρ ρ1 l) (hf : EvCN f l m) : EvN (wCBN f wn) ρ ρ1 m := .mk fun post hp => h _ (hf _ hp)
theorem ec_len (h : items d = some l) : EvC wLen [d] (.int l.length) := .mk fun post hp => by
  show (match items d with | some l => post (.int l.length) | none => False)
  rw [h]; exact hp
theorem ec_tuple (h : items d = some l) : EvC wTupOf [d] (.tup l) := .mk fun post hp => by
  show (match items d with | some l => post (.tup l) | none => False)
  rw [h]; exact hp
theorem ecn_list (h : items d = some l) : EvCN wLstOf [d] l := .mk fun post hp => by show (match items d with | some l => post l | none => False); rw [h]; exact hp
theorem ec_int : EvC wInt1 [.int a] (.int a) := .mk fun post hp => hp
theorem ec_intB : EvC wInt1 [.bl p] (.int (if p = true then 1 else 0)) := .mk fun post hp => hp
theorem ec_abs : EvC wAbs [.int a] (.int (if a < 0 then -a else a)) := .mk fun post hp => hp
theorem ec_max2 : EvC wMax2 [.int a, .int b] (.int (if b > a then b else a)) := .mk fun post hp => hp
theorem ec_min2 : EvC wMin2 [.int a, .int b] (.int (if b < a then b else a)) := .mk fun post hp => hp
theorem intsOf_mapF {α : Type} (f : α → Int) : ∀ xs : List α, intsOf (xs.map fun x => .int (f x)) = some (xs.map f)
  | [] => rfl
  | x :: r => by simp only [List.map_cons, intsOf, intsOf_mapF f r, Option.map_some]
theorem blsOf_mapF {α : Type} (f : α → Bool) : ∀ xs : List α, blsOf (xs.map fun x => .bl (f x)) = some (xs.map f)
  | [] => rfl
  | x :: r => by simp only [List.map_cons, blsOf, blsOf_mapF f r, Option.map_some]
theorem ec_sum {ns : List Int} (h : intsOf l = some ns) : EvC wSum [.lst l] (.int ns.sum) := .mk fun post hp => by show (match intsOf l with | some ns => post (.int ns.sum) | none => False); rw [h]; exact hp
theorem ec_sumM {α : Type} {xs : List α} {f : α → Int} : EvC wSum [.lst (xs.map fun x => .int (f x))] (.int (xs.map f).sum) := ec_sum (intsOf_mapF f xs)
theorem ec_all {ns : List Bool} (h : blsOf l = some ns) : EvC wAll [.lst l] (.bl (ns.all id)) := .mk fun post hp => by show (match blsOf l with | some ns => post (.bl (ns.all id)) | none => False); rw [h]; exact hp
theorem ec_allM {α : Type} {xs : List α} {f : α → Bool} : EvC wAll [.lst (xs.map fun x => .bl (f x))] (.bl (xs.all f)) := .mk fun post hp => ec_all (blsOf_mapF f xs) _ (by rw [List.all_map]; exact hp)
theorem ec_any {ns : List Bool} (h : blsOf l = some ns) : EvC wAny [.lst l] (.bl (ns.any id)) := .mk fun post hp => by show (match blsOf l with | some ns => post (.bl (ns.any id)) | none => False); rw [h]; exact hp
theorem ec_anyM {α : Type} {xs : List α} {f : α → Bool} : EvC wAny [.lst (xs.map fun x => .bl (f x))] (.bl (xs.any f)) := .mk fun post hp => ec_any (blsOf_mapF f xs) _ (by rw [List.any_map]; exact hp)
theorem ec_max {ns : List Int} {m : Int} (h : intsOf l = some ns) (hm : ∀ t, t ∈ ns → (∀ y, y ∈ ns → y ≤ t) → t = m) (h0 : 0 < ns.length) : EvC wMaxL [.lst l] (.int m) := .mk fun post hp => by
  show (match intsOf l with | some ns => 0 < ns.length ∧ ∀ m, m ∈ ns → (∀ y, y ∈ ns → y ≤ m) → post (.int m) | none => False)
  rw [h]
  exact ⟨h0, fun t h1 h2 => by rw [hm t h1 h2]; exact hp⟩
theorem ec_min {ns : List Int} {m : Int} (h : intsOf l = some ns) (hm : ∀ t, t ∈ ns → (∀ y, y ∈ ns → t ≤ y) → t = m) (h0 : 0 < ns.length) : EvC wMinL [.lst l] (.int m) := .mk fun post hp => by
  show (match intsOf l with | some ns => 0 < ns.length ∧ ∀ m, m ∈ ns → (∀ y, y ∈ ns → m ≤ y) → post (.int m) | none => False)
  rw [h]
  exact ⟨h0, fun t h1 h2 => by rw [hm t h1 h2]; exact hp⟩
theorem eo_none : EvO wNo ρ ρ none := .mk fun post hp => hp
theorem eo_some (h : Ev w ρ ρ1 (.int a)) : EvO (wSome w) ρ ρ1 (some a) := .mk fun post hp => h _ hp
theorem ev_slT {wl wh : WOp} {o u : Option Int} (h : Ev w ρ ρ1 (.tup l)) (h1 : EvO wl ρ1 ρ2 o) (h2 : EvO wh ρ2 ρ3 u) : Ev (wSlT w wl wh) ρ ρ3 (.tup (cutD l o u)) := .mk fun post hp => h _ (h1 _ (h2 _ hp))
theorem ev_slL {wl wh : WOp} {o u : Option Int} (h : Ev w ρ ρ1 (.lst l)) (h1 : EvO wl ρ1 ρ2 o) (h2 : EvO wh ρ2 ρ3 u) : EvN (wSlL w wl wh) ρ ρ3 (cutD l o u) := .mk fun post hp => h _ (h1 _ (h2 _ hp))
theorem ev_fld {C : Addr} {ns : List Str} (h : Ev w ρ ρ1 (.obj C ns l)) (hj : l[j]? = some d) : Ev (wFld C ns j w) ρ ρ1 d := .mk fun post hp => h _ ⟨rfl, rfl, by simp only [hj]; exact hp⟩
theorem ev_cat (ha : Ev wa ρ ρ1 (.lst l)) (hb : Ev wb ρ1 ρ2 (.lst m)) (hl : l.length + m.length ≤ 1000000) : EvN (wCat wa wb) ρ ρ2 (l ++ m) := .mk fun post hp => ha _ (hb _ ⟨hl, hp⟩)
theorem ev_rep (ha : Ev wa ρ ρ1 (.lst l)) (hb : Ev wb ρ1 ρ2 (.int a)) (hl : a ≤ 1000000 ∧ -1000000 ≤ a ∧ l.length * a.toNat ≤ 1000000) : EvN (wRep wa wb) ρ ρ2 (List.replicate a.toNat l).flatten := .mk fun post hp => ha _ (hb _ ⟨hl, hp⟩)
theorem ev_isi {tab : D → Option Bool} (h : Ev w ρ ρ1 d) (ht : tab d = some p) : Ev (wIsi tab w) ρ ρ1 (.bl p) := .mk fun post hp => h _ (by simp only [ht]; exact hp)
theorem ev_ixO (h : nth ρ i = .own l) (hb : Ev wb ρ ρ (.int a)) (h2 : atI l a = some d) : Ev (wIxO i wb) ρ ρ d := .mk fun post hp => by
  unfold wIxO
  rw [h]
  refine hb _ ?_
  simp only [h, h2]
  exact hp
theorem ev_lenO (h : nth ρ i = .own l) : Ev (wLenO i) ρ ρ (.int l.length) := .mk fun post hp => by unfold wLenO; rw [h]; exact hp
theorem eg_n : EvG (gN i) d ρ (ρ.set i (.val d)) := .mk fun k hk => hk
theorem eg_t {n : Nat} (hl : l.length = n) (h : EvGs gs l ρ ρ1) : EvG (gT n gs) (.tup l) ρ ρ1 := .mk fun k hk => ⟨hl, h _ hk⟩
theorem egs_n : EvGs gsN [] ρ ρ := .mk fun k hk => hk
theorem egs_c (h : EvG g d ρ ρ1) (h2 : EvGs gs l ρ1 ρ2) : EvGs (gsC g gs) (d :: l) ρ ρ2 := .mk fun k hk => h _ (h2 _ hk)
theorem ei_seq (h : Ev w ρ ρ1 d) (hi : items d = some l) : EvN (wSeqI w) ρ ρ1 l := .mk fun post hp => h _ (by simp only [hi]; exact hp)
theorem ei_zip (h : EvN wn ρ ρ1 [x, y]) (h1 : items x = some l) (h2 : items y = some m) : EvN (wZipI wn) ρ ρ1 (zipD l m) := .mk fun post hp => h _ (by simp only [h1, h2]; exact hp)
theorem ei_enum (h : EvN wn ρ ρ1 [x]) (h1 : items x = some l) : EvN (wEnumI wn) ρ ρ1 (enumD l) := .mk fun post hp => h _ (by simp only [h1]; exact hp)
theorem ei_rng1 (h : EvN wn ρ ρ1 [.int a]) (h1 : a ≤ 1000000) (h2 : -1000000 ≤ a) : EvN (wRng1 wn) ρ ρ1 (intsD 0 a) := .mk fun post hp => h _ ⟨h1, h2, hp⟩
theorem ei_rng2 (h : EvN wn ρ ρ1 [.int a, .int b]) (hh : b ≤ 1000000 ∧ -1000000 ≤ b ∧ a ≤ 1000000 ∧ -1000000 ≤ a) : EvN (wRng2 wn) ρ ρ1 (intsD a b) := .mk fun post hp => h _ ⟨hh, hp⟩
theorem ev_call {n : Nat} {R : List D → D → Prop} {dds : List D} {wf : WF} (hwf : ∀ ds d, R ds d → ∀ post : List B → D → Prop, post (ds.map .val) d → wf (ds.map .val) post) (h : EvN wn ρ ρ1 l) (hl : l.length + dds.length = n) (hR : R (l ++ dds) d) : Ev (wCall n wf dds wn) ρ ρ1 d := .mk fun post hp => h _ ⟨hl, by rw [← List.map_append]; exact hwf _ _ hR _ hp⟩
theorem eb_nil : EvB woNil ρ ρ [] := .mk fun post hp => hp
theorem eb_val {wr : WO} {bs : List B} (h : Ev w ρ ρ1 d) (h2 : EvB wr ρ1 ρ2 bs) : EvB (woVal w wr) ρ ρ2 (.val d :: bs) := .mk fun post hp => h _ (h2 _ hp)
theorem eb_own {wr : WO} {bs : List B} (h : EvN wn ρ ρ1 l) (h2 : EvB wr ρ1 ρ2 bs) : EvB (woOwn wn wr) ρ ρ2 (.own l :: bs) := .mk fun post hp => h _ (h2 _ hp)
end
/-! ### comprehensions over a typed list -/
section
variable {wi wi1 : WN} {vs vs1 : List Nat} {g g1 : WG} {tt : WT} {te : WE} {ρ ρ1 : Env} {ds : List D} {α : Type}
theorem ev_lc (xs : List α) (enc : α → D) (f : α → D) (hi : EvN wi ρ ρ1 ds) (hds : ds = xs.map enc) (hm : mrg 0 vs ρ1 (wipeB ρ1 vs) = ρ1)
    (h : ∀ x ∈ xs, ∃ ρ2, EvG g (enc x) (wipeB ρ1 vs) ρ2 ∧ Ev te ρ2 ρ2 (f x) ∧ wipeB ρ2 vs = wipeB ρ1 vs) : EvN (wLc wi vs g wYes te) ρ ρ1 (xs.map f) := .mk fun post hp => hi _ (by
  subst hds
  refine ⟨fun i acc ρ => ρ = wipeB ρ1 vs ∧ acc = (xs.take i).map f, ⟨rfl, rfl⟩, fun i d acc ρ e ⟨r, a⟩ => ?_, fun acc ρ ⟨r, a⟩ => ?_⟩
  · subst r a
    rw [List.getElem?_map, Option.map_eq_some_iff] at e
    obtain ⟨x, e, rfl⟩ := e
    obtain ⟨ρ2, h1, h2, h3⟩ := h x (List.mem_of_getElem? e)
    refine h1 _ (h2 _ ⟨h3, ?_⟩)
    rw [take_snoc e, List.map_append]
    rfl
  · subst r a
    rw [hm, List.length_map, List.take_length]
    exact hp)
theorem ev_lcF (xs : List α) (enc : α → D) (p : α → Bool) (f : α → D) (hi : EvN wi ρ ρ1 ds) (hds : ds = xs.map enc) (hm : mrg 0 vs ρ1 (wipeB ρ1 vs) = ρ1)
    (h : ∀ x ∈ xs, ∃ ρ2, EvG g (enc x) (wipeB ρ1 vs) ρ2 ∧ EvT tt ρ2 ρ2 (p x) ∧ (p x = true → Ev te ρ2 ρ2 (f x)) ∧ wipeB ρ2 vs = wipeB ρ1 vs) : EvN (wLc wi vs g tt te) ρ ρ1 ((xs.filter p).map f) := .mk fun post hp => hi _ (by
  subst hds
  refine ⟨fun i acc ρ => ρ = wipeB ρ1 vs ∧ acc = ((xs.take i).filter p).map f, ⟨rfl, rfl⟩, fun i d acc ρ e ⟨r, a⟩ => ?_, fun acc ρ ⟨r, a⟩ => ?_⟩
  · subst r a
    rw [List.getElem?_map, Option.map_eq_some_iff] at e
    obtain ⟨x, e, rfl⟩ := e
    obtain ⟨ρ2, h1, h2, h3, h4⟩ := h x (List.mem_of_getElem? e)
    refine h1 _ (h2 _ ?_)
    cases hq : p x with
    | true =>
      refine h3 hq _ ⟨h4, ?_⟩
      rw [take_snoc e, List.filter_append, List.map_append]
      simp [hq]
    | false =>
      refine ⟨h4, ?_⟩
      rw [take_snoc e, List.filter_append, List.map_append]
      simp [hq]
  · subst r a
    rw [hm, List.length_map, List.take_length]
    exact hp)
/-- [f x y for x in .. for y in h x] -/
theorem ev_lc2 {β : Type} (xs : List α) (enc : α → D) (ys : α → List β) (encB : β → D) (f : α → β → D) (hi : EvN wi ρ ρ1 ds) (hds : ds = xs.map enc) (hm : mrg 0 vs ρ1 (wipeB ρ1 vs) = ρ1)
    (hlen : (xs.map fun x => (ys x).length).sum ≤ 1000000)
    (h : ∀ x ∈ xs, ∃ ρ2, EvG g (enc x) (wipeB ρ1 vs) ρ2 ∧ EvN wi1 ρ2 ρ2 ((ys x).map encB) ∧ wipeB ρ2 vs1 = ρ2 ∧ wipeB ρ2 vs = wipeB ρ1 vs ∧
      ∀ y ∈ ys x, ∃ ρ3, EvG g1 (encB y) ρ2 ρ3 ∧ Ev te ρ3 ρ3 (f x y) ∧ wipeB ρ3 vs1 = ρ2) : EvN (wLc2 wi vs g wYes wi1 vs1 g1 wYes te) ρ ρ1 (xs.map fun x => (ys x).map (f x)).flatten := .mk fun post hp => hi _ (by
  subst hds
  refine ⟨fun i acc ρ => ρ = wipeB ρ1 vs ∧ acc = ((xs.take i).map fun x => (ys x).map (f x)).flatten, ⟨rfl, rfl⟩, fun i d acc ρ e ⟨r, a⟩ => ?_, fun acc ρ ⟨r, a⟩ => ?_⟩
  · subst r a
    rw [List.getElem?_map, Option.map_eq_some_iff] at e
    obtain ⟨x, e, rfl⟩ := e
    obtain ⟨ρ2, h1, h2, h3, h4, h5⟩ := h x (List.mem_of_getElem? e)
    refine h1 _ (h2 _ ?_)
    have hb : (((xs.take i).map fun x => (ys x).map (f x)).flatten).length + (ys x).length ≤ 1000000 := by
      have e1 : ∀ zs : List α, ((zs.map fun x => (ys x).map (f x)).flatten).length = (zs.map fun x => (ys x).length).sum := fun zs => by
        induction zs with
        | nil => rfl
        | cons z r ih => simp only [List.map_cons, List.flatten_cons, List.length_append, List.length_map, List.sum_cons, ih]
      rw [e1]
      have e2 : xs = xs.take i ++ (x :: xs.drop (i + 1)) := by
        have hlt := (List.getElem?_eq_some_iff.mp e)
        obtain ⟨hlt, hx⟩ := hlt
        conv => lhs; rw [← List.take_append_drop i xs, List.drop_eq_getElem_cons hlt, hx]
      have e3 : (xs.map fun x => (ys x).length).sum = ((xs.take i).map fun x => (ys x).length).sum + ((ys x).length + ((xs.drop (i + 1)).map fun x => (ys x).length).sum) := by
        conv => lhs; rw [e2]
        rw [List.map_append, List.sum_append, List.map_cons, List.sum_cons]
      omega
    refine ⟨fun j acc ρ => ρ = ρ2 ∧ acc = ((xs.take i).map fun x => (ys x).map (f x)).flatten ++ ((ys x).take j).map (f x), ⟨h3, by simp⟩, fun j d acc ρ ej ⟨r, a⟩ => ?_, fun acc ρ ⟨r, a⟩ => ?_⟩
    · subst r a
      rw [List.getElem?_map, Option.map_eq_some_iff] at ej
      obtain ⟨y, ej, rfl⟩ := ej
      obtain ⟨ρ3, k1, k2, k3⟩ := h5 y (List.mem_of_getElem? ej)
      refine k1 _ (k2 _ ⟨?_, k3, ?_⟩)
      · have := (List.getElem?_eq_some_iff.mp ej).1
        rw [List.length_append, List.length_map, List.length_take]
        omega
      · rw [take_snoc ej, List.map_append, List.append_assoc]
        rfl
    · subst r a
      refine ⟨h4, ?_⟩
      rw [List.length_map, List.take_length, take_snoc e, List.map_append, List.flatten_append]
      simp
  · subst r a
    rw [hm, List.length_map, List.take_length]
    exact hp)
end
/-! ### statements -/
section
variable {w : WE} {wn wi : WN} {wt : WT} {ρ ρ1 ρ2 : Env} {d x : D} {a b u : WS} {i j k : Nat} {l m : List D} {p : Bool} {g : WG} {tb : WS} {ds : List D}
theorem ex_set (h : Ev w ρ ρ1 x) : EvX (wSet i w) ρ (ρ1.set i (.val x)) := .mk fun De hn => h _ hn
theorem ex_setN (h : EvN wn ρ ρ1 l) : EvX (wSetN i wn) ρ (ρ1.set i (.own l)) := .mk fun De hn => h _ hn
theorem ex_asg (h : Ev w ρ ρ1 x) (hg : EvG g x ρ1 ρ2) : EvX (wAsg w g) ρ ρ2 := .mk fun De hn => h _ (hg _ hn)
theorem ex_exp (h : Ev w ρ ρ1 x) : EvX (wExp w) ρ ρ1 := .mk fun De hn => h _ hn
theorem ex_par {wo : WO} {y z : B} (h : EvB wo ρ ρ1 [y, z]) : EvX (wPar i j wo) ρ ((ρ1.set i y).set j z) := .mk fun De hn => h _ hn
theorem ex_par3 {wo : WO} {y z t : B} (h : EvB wo ρ ρ1 [y, z, t]) : EvX (wPar3 i j k wo) ρ (((ρ1.set i y).set j z).set k t) := .mk fun De hn => h _ hn
theorem ex_unp {wo : WO} {is : List Nat} {bs : List B} (h : EvB wo ρ ρ1 bs) (hl : bs.length ≤ 100) (hs : setAll is bs ρ1 = some ρ2) : EvX (wUnp is wo) ρ ρ2 := .mk fun De hn => h _ ⟨hl, by simp only [hs]; exact hn⟩
theorem ex_app (h : nth ρ i = .own l) (he : Ev w ρ ρ1 x) (h1 : nth ρ1 i = .own l) (hl : l.length < 1000000) : EvX (wApp i w) ρ (ρ1.set i (.own (l ++ [x]))) := .mk fun De hn => by
  unfold wApp
  rw [h]
  exact he _ (by simp only [h1]; exact ⟨hl, hn⟩)
theorem ex_ext (h : nth ρ i = .own l) (he : Ev w ρ ρ1 x) (h1 : nth ρ1 i = .own l) (hx : items x = some m) (hl : l.length + m.length ≤ 1000000) : EvX (wExt i w) ρ (ρ1.set i (.own (l ++ m))) := .mk fun De hn => by
  unfold wExt
  rw [h]
  exact he _ (by simp only [h1, hx]; exact ⟨hl, hn⟩)
theorem ex_fld {C p : Addr} {ns : List Str} {f : Str} (he : Ev w ρ ρ1 x) (h : nth ρ1 i = .ins p C ns l) (hl : ns.length < 900) (hf : ∀ g ∈ ns, g ≠ f) : EvX (wFldC C i f w) ρ (ρ1.set i (.ins p C (ns ++ [f]) (l ++ [x]))) := .mk fun De hn => he _ (by simp only [h]; exact ⟨⟨trivial, hl, hf⟩, hn⟩)
theorem ex_next : EvX wNext ρ ρ := .mk fun De hn => hn
theorem ex_seq (h : EvX a ρ ρ1) (h2 : EvX b ρ1 ρ2) : EvX (wSeq a b) ρ ρ2 := .mk fun De hn => h _ (h2 _ hn)
theorem ex_if (h : EvT wt ρ ρ1 p) (h1 : p = true → EvX a ρ1 ρ2) (h2 : p = false → EvX b ρ1 ρ2) : EvX (wIfS wt a b) ρ ρ2 := .mk fun De hn => h _ (by
  cases p with
  | true => exact h1 rfl _ hn
  | false => exact h2 rfl _ hn)
theorem ex_if0 (h : EvT wt ρ ρ1 false) (h2 : EvX b ρ1 ρ2) : EvX (wIfS wt a b) ρ ρ2 := .mk fun De hn => h _ (h2 _ hn)
/-- a loop whose names behind turn i are ρs i -/
theorem ex_for (ρs : Nat → Env) (hi : EvN wi ρ ρ1 ds) (h0 : ρ1 = ρs 0) (h : ∀ i d, ds[i]? = some d → ∃ ρ2, EvG g d (ρs i) ρ2 ∧ EvX tb ρ2 (ρs (i + 1))) : EvX (wFor wi g tb) ρ (ρs ds.length) := .mk fun De hn => hi _ ⟨fun i ρ => ρ = ρs i, h0, fun i d ρ e r => by
  subst r
  obtain ⟨ρ2, h1, h2⟩ := h i d e
  exact h1 _ (h2 _ rfl), fun ρ r => by subst r; exact hn⟩
theorem es_ret (h : Ev w ρ ρ1 x) (hd : x = d) : EvS (wRet w) ρ d := .mk fun De hr _ => h _ (by rw [hd]; exact hr _)
theorem es_retN : EvS wRetN ρ .non := .mk fun De hr _ => hr _
theorem es_next : EvS wNext ρ .non := .mk fun De _ hn => hn rfl _
theorem es_end (h : EvX a ρ ρ1) : EvS a ρ .non := .mk fun De _ hn => h _ (hn rfl _)
theorem es_seq (h : EvX a ρ ρ1) (h2 : EvS u ρ1 d) : EvS (wSeq a u) ρ d := .mk fun De hr hn => h _ (h2 _ hr hn)
theorem es_stop (h : EvS a ρ d) (hd : d ≠ .non) : EvS (wSeq a u) ρ d := .mk fun De hr hn => h _ hr fun z => absurd z hd
theorem es_if (h : EvT wt ρ ρ1 p) (h1 : p = true → EvS (wSeq a u) ρ1 d) (h2 : p = false → EvS (wSeq b u) ρ1 d) : EvS (wSeq (wIfS wt a b) u) ρ d := .mk fun De hr hn => h _ (by
  cases p with
  | true => exact h1 rfl De hr hn
  | false => exact h2 rfl De hr hn)
theorem es_ife (h : EvT wt ρ ρ1 p) (h1 : p = true → EvS a ρ1 d) (h2 : p = false → EvS b ρ1 d) : EvS (wIfS wt a b) ρ d := .mk fun De hr hn => h _ (by
  cases p with
  | true => exact h1 rfl De hr hn
  | false => exact h2 rfl De hr hn)
theorem es_one (h : EvS u ρ d) : EvS (wSeq wNext u) ρ d := .mk fun De hr hn => h _ hr hn
theorem es_one' (h : EvS u ρ d) : EvS (wSeq u wNext) ρ d := .mk fun De hr hn => h _ hr hn
end
/-! ### defs of values -/
def wfP (R : List D → D → Prop) : WF := fun bs post => ∃ ds d, bs = ds.map .val ∧ R ds d ∧ post bs d
theorem wfP_in {R : List D → D → Prop} : ∀ ds d, R ds d → ∀ post : List B → D → Prop, post (ds.map .val) d → wfP R (ds.map .val) post := fun ds d h post hp => ⟨ds, d, rfl, h, hp⟩
theorem ev_callP {n : Nat} {R : List D → D → Prop} {dds l : List D} {wn : WN} {ρ ρ1 : Env} {d : D} (h : EvN wn ρ ρ1 l) (hl : l.length + dds.length = n) (hR : R (l ++ dds) d) : Ev (wCall n (wfP R) dds wn) ρ ρ1 d := ev_call wfP_in h hl hR
theorem mine_val : ∀ (ds : List D) (i : Nat) (x : B), (ds.map B.val)[i]? = some x → DL.mine x = false := fun ds i x e => by
  rw [List.getElem?_map, Option.map_eq_some_iff] at e
  obtain ⟨d, _, rfl⟩ := e
  rfl
theorem StOk.leaveV {K : PySem.W.Frag} {b : Bs} {σ' : L2.St} {H F H' F' : Hp} {ρ : Env} {vs : List V} {ds : List D} (I0 : StOk K b (vs.map some) H F (ds.map .val)) (I : StOk K b σ' H' F' ρ) (s : Same F F') : StOk K b (vs.map some) H' F' (ds.map .val) := by
  refine ⟨I.fb, I0.len, fun i x y e1 e2 => ?_, fun i j x y p n e1 e2 m1 m2 s1 s2 => ?_⟩
  · have := I0.slot i x y e1 e2
    rw [List.getElem?_map, Option.map_eq_some_iff] at e1
    obtain ⟨d, _, rfl⟩ := e1
    obtain ⟨v, e, a⟩ := this
    exact ⟨v, e, a.up s⟩
  · rw [mine_val ds i x e1] at m1
    cases m1
section
variable {P : Program} {w : World} {K : PySem.W.Frag} {mg : Str → Option Value} {base : Heap}
theorem dfnV {x qual : Str} {st : Stmt} {f : Addr} {fd : FuncData} {N ps : List Str} {k n : Nat} {R : List D → D → Prop} {dvs : List V} (F : FunD K x qual (defArgs st) (defBody st) (defScope st) dvs [] f fd) (S : FnScope N ps (defScope st)) (hn : ps.length = n)
    (hbody : ∀ (cdv : Value) (A : Around) (outer : List PySem.Env) (s : Shared) (H : Hp) (E : XK), Room k (A.deeper (envOfC qual (defScope st) s.heap.objs.size f cdv)) →
      ∃ wb, DSs (cxOf CX0 P w K mg base N qual (defScope st) f cdv A outer s H E).nox (defBody st) wb ∧
        ∀ ds d, ds.length = n → R ds d → EvS wb (startB N.length (ds.map .val)) d) :
    FnOk P w K mg base CX0 (k + 1) f fd ps (spOf K n (wfP R)) := by
  refine F.ok S (fun vs H Q E h => ?_) (fun cdv A outer s H vs Q E hr h => ?_)
  · obtain ⟨Fz, bs, post, I, hl, _⟩ := h
    have := I.len
    rw [List.length_map] at this
    omega
  · obtain ⟨Fz, bs, post, I, hl, ⟨ds, d, rfl, hw, hp⟩, q⟩ := h
    obtain ⟨wb, h1, h2⟩ := hbody cdv A outer s H E hr
    refine ⟨_, h1.run.nox, atCall (ds.map .val) H Fz, Fz, _, ⟨fun _ => d = .non, fun _ e => e = d, fun _ => False, fun _ => False⟩, I.enter N, (h2 ds d (by rw [← hl, List.length_map]) hw).run _ (fun _ => rfl) (fun e _ => e), fun σ' H' F' ρ' s' I' h => ?_, fun v σ' H' F' ρ' d s' I' a h => ?_, fun _ _ _ _ _ _ h => h.elim, fun _ _ _ _ _ _ h => h.elim⟩
    · subst h
      exact q .non H' F' _ .non s' (I.leaveV I' s') .non hp
    · subst h
      exact q v H' F' _ _ s' (I.leaveV I' s') a hp
end
end DL

set_option Elab.async false
set_option linter.all false
set_option maxRecDepth 100000
set_option maxHeartbeats 4000000
namespace DL
open PySem PySem.Spec PyProof.Rows L2
section
variable {w : WE} {wn wi : WN} {wt : WT} {ρ ρ1 ρ2 : Env} {d x : D} {a b u : WS} {i j k : Nat} {l m : List D} {p : Bool} {g : WG} {tb : WS} {ds : List D}
theorem ex_if1 (h : EvT wt ρ ρ1 true) (h2 : EvX a ρ1 ρ2) : EvX (wIfS wt a b) ρ ρ2 := .mk fun De hn => h _ (h2 _ hn)
/-- a branch whose names behind depend on the test -/
theorem ex_branch {ρa ρb : Env} (h : EvT wt ρ ρ1 p) (h1 : EvX a ρ1 ρa) (h2 : EvX b ρ1 ρb) : EvX (wIfS wt a b) ρ (if p then ρa else ρb) := .mk fun De hn => h _ (by
  cases p with
  | true => exact h1 _ hn
  | false => exact h2 _ hn)
theorem es_if0 (h : EvT wt ρ ρ1 false) (h2 : EvS (wSeq b u) ρ1 d) : EvS (wSeq (wIfS wt a b) u) ρ d := .mk fun De hr hn => h _ (h2 De hr hn)
theorem es_if1 (h : EvT wt ρ ρ1 true) (h2 : EvS (wSeq a u) ρ1 d) : EvS (wSeq (wIfS wt a b) u) ρ d := .mk fun De hr hn => h _ (h2 De hr hn)
theorem es_for (Iv : Nat → Env → Prop) (hi : EvN wi ρ ρ1 ds) (h0 : Iv 0 ρ1) (h : ∀ i x ρ, ds[i]? = some x → Iv i ρ → ∃ ρ2 ρ3, EvG g x ρ ρ2 ∧ EvX tb ρ2 ρ3 ∧ Iv (i + 1) ρ3) (hu : ∀ ρ, Iv ds.length ρ → EvS u ρ d) : EvS (wSeq (wFor wi g tb) u) ρ d := .mk fun De hr hn => hi _ ⟨Iv, h0, fun i x ρ e r => by
  obtain ⟨ρ2, ρ3, h1, h2, h3⟩ := h i x ρ e r
  exact h1 _ (h2 _ h3), fun ρ r => hu ρ r De hr hn⟩
end
theorem cutD_to (l : List D) (k : Nat) (h : k ≤ l.length) : cutD l none (some (k : Int)) = l.take k := by
  unfold cutD
  rw [HT.sIx_none, HT.sIx_nat, Nat.min_eq_left h, List.drop_zero, Nat.sub_zero]
theorem enumD_map {α : Type} (f : α → D) (l : List α) : enumD (l.map f) = l.zipIdx.map fun p => .tup [.int (p.2 : Nat), f p.1] := by
  unfold enumD
  rw [List.zipIdx_map, List.map_map]
  rfl
theorem zipD_map {α β : Type} (f : α → D) (g : β → D) : ∀ (l : List α) (m : List β), zipD (l.map f) (m.map g) = (l.zip m).map fun p => .tup [f p.1, g p.2]
  | [], _ => by cases ‹List β› <;> rfl
  | _ :: _, [] => rfl
  | x :: l, y :: m => by simp only [List.map_cons, zipD, List.zip_cons_cons, zipD_map f g l m]
theorem zipD_same {α : Type} (f g : α → D) : ∀ l : List α, zipD (l.map f) (l.map g) = l.map fun x => .tup [f x, g x]
  | [] => rfl
  | x :: l => by simp only [List.map_cons, zipD, zipD_same f g l]
theorem atI_nat {α : Type} (l : List α) (k : Nat) : atI l (k : Int) = l[k]? := by
  unfold atI ixN
  rw [if_pos (by omega)]
  by_cases h : k < l.length
  · rw [if_pos (by omega)]
    simp
  · rw [if_neg (by omega), List.getElem?_eq_none (by omega)]
    rfl
theorem atI_zero {α : Type} {x : α} {l : List α} : atI (x :: l) 0 = some x := atI_nat (x :: l) 0
theorem intsD_nat (n : Nat) : intsD 0 (n : Int) = (List.range n).map fun i => .int (i : Nat) := by
  unfold intsD
  simp
/-! ### makers -/
def wfM (C : Addr) (ns : List Str) (R : List D → List D → Prop) : WF := fun bs post => ∃ p ds fl, bs = .ins p C [] [] :: ds.map .val ∧ R ds fl ∧ post (.ins p C ns fl :: ds.map .val) .non
theorem ev_make {C : Addr} {ns : List Str} {R : List D → List D → Prop} {dds l fl : List D} {wn : WN} {ρ ρ1 : Env} {n : Nat} (h : EvN wn ρ ρ1 l) (hl : l.length + dds.length + 1 = n) (hR : R (l ++ dds) fl) : Ev (wMake C n (wfM C ns R) dds wn) ρ ρ1 (.obj C ns fl) :=
  .mk fun post hp => h _ ⟨hl, fun p => ⟨p, l ++ dds, fl, by rw [List.map_append], hR, rfl, hp⟩⟩
section
variable {P : Program} {w : World} {K : PySem.W.Frag} {mg : Str → Option Value} {base : Heap}
theorem dfnM {x qual : Str} {st : Stmt} {f : Addr} {fd : FuncData} {N ps : List Str} {k n : Nat} {C : Addr} {ns : List Str} {R : List D → List D → Prop} {dvs : List V} (F : FunD K x qual (defArgs st) (defBody st) (defScope st) dvs [] f fd) (S : FnScope N ps (defScope st)) (hn : ps.length = n)
    (hbody : ∀ (cdv : Value) (A : Around) (outer : List PySem.Env) (s : Shared) (H : Hp) (E : XK), Room k (A.deeper (envOfC qual (defScope st) s.heap.objs.size f cdv)) →
      ∃ wb, DSs (cxOf CX0 P w K mg base N qual (defScope st) f cdv A outer s H E).nox (defBody st) wb ∧
        ∀ p ds fl, ds.length + 1 = n → R ds fl → ∃ ρ', EvX wb (startB N.length (.ins p C [] [] :: ds.map .val)) ρ' ∧ finOk (.ins p C [] [] :: ds.map .val) ρ' ∧ finB (.ins p C [] [] :: ds.map .val) ρ' = .ins p C ns fl :: ds.map .val) :
    FnOk P w K mg base CX0 (k + 1) f fd ps (spOf K n (wfM C ns R)) := by
  refine dfnD F S hn fun cdv A outer s H E hr => ?_
  obtain ⟨wb, h1, h2⟩ := hbody cdv A outer s H E hr
  refine ⟨wb, h1, fun bs post hl hw => ?_⟩
  obtain ⟨p, ds, fl, rfl, hR, hp⟩ := hw
  obtain ⟨ρ', g1, g2, g3⟩ := h2 p ds fl (by rw [← hl]; simp) hR
  refine g1.run _ ⟨g2, ?_⟩
  rw [g3]
  exact hp
end
end DL

set_option Elab.async false
set_option linter.all false
set_option maxRecDepth 100000
set_option maxHeartbeats 4000000
namespace DL
open PySem PySem.Spec PyProof.Rows L2
/-! ### == of data: what it asks, and that a thing equals itself -/
mutual
theorem eqv_self : ∀ d : D, PyData.eqv (py d) (py d) = true
  | .non => rfl
  | .bl b => by simp [py, PyData.eqv]
  | .int i => by simp [py, PyData.eqv]
  | .str x => by simp [py, PyData.eqv]
  | .tup l => by
    simp only [py, PyData.eqv]
    exact eqvL_self l
  | .lst l => by
    simp only [py, PyData.eqv]
    exact eqvL_self l
  | .obj _ _ _ => rfl
theorem eqvL_self : ∀ l : List D, PyData.eqvAll (pyL l) (pyL l) = true
  | [] => rfl
  | d :: r => by
    simp only [pyL, PyData.eqvAll, eqv_self d, eqvL_self r, Bool.and_self]
end
theorem deq_self (d : D) : deq d d = true := eqv_self d
def shpN (n : Nat) (d : D) : Prop := noObj d = true ∧ PyData.canLay0 (py d) = true ∧ PyData.depth (py d) ≤ n
theorem shpN.shp {n : Nat} {d : D} (h : shpN n d) (hn : n ≤ 64) : shp d = true := by
  unfold DL.shp SeqAt.shaped
  rw [h.1, h.2.1, decide_eq_true (by have := h.2.2; omega)]
  rfl
theorem shpN.mono {n m : Nat} {d : D} (h : shpN n d) (hn : n ≤ m) : shpN m d := ⟨h.1, h.2.1, Nat.le_trans h.2.2 hn⟩
theorem shpN_int {n : Nat} {i : Int} : shpN n (.int i) := ⟨rfl, rfl, Nat.zero_le _⟩
theorem shpN_non {n : Nat} : shpN n .non := ⟨rfl, rfl, Nat.zero_le _⟩
theorem shpN_bl {n : Nat} {b : Bool} : shpN n (.bl b) := ⟨rfl, rfl, Nat.zero_le _⟩
theorem shpN_all {n : Nat} : ∀ {l : List D}, (∀ d ∈ l, shpN n d) → noObjL l = true ∧ PyData.canLayAll0 (pyL l) = true ∧ PyData.depthAll (pyL l) ≤ n
  | [], _ => ⟨rfl, rfl, Nat.zero_le _⟩
  | d :: r, h => by
    have h1 := h d List.mem_cons_self
    have h2 := shpN_all (l := r) fun e he => h e (List.mem_cons_of_mem _ he)
    refine ⟨?_, ?_, ?_⟩
    · simp only [noObjL, h1.1, h2.1, Bool.and_self]
    · simp only [pyL, PyData.canLayAll0, h1.2.1, h2.2.1, Bool.and_self]
    · simp only [pyL, PyData.depthAll]
      have := h1.2.2
      have := h2.2.2
      omega
theorem shpN_tup {n : Nat} {l : List D} (h : ∀ d ∈ l, shpN n d) : shpN (n + 1) (.tup l) := by
  obtain ⟨h1, h2, h3⟩ := shpN_all h
  refine ⟨?_, ?_, ?_⟩
  · simpa [noObj] using h1
  · simpa [py, PyData.canLay0] using h2
  · simp only [py, PyData.depth]; omega
theorem shpN_lst {n : Nat} {l : List D} (h : ∀ d ∈ l, shpN n d) : shpN (n + 1) (.lst l) := by
  obtain ⟨h1, h2, h3⟩ := shpN_all h
  refine ⟨?_, ?_, ?_⟩
  · simpa [noObj] using h1
  · simpa [py, PyData.canLay0] using h2
  · simp only [py, PyData.depth]; omega

/-! ### the hand layer by one value: for the defs of the pen -/
structure HE (I : Hp → Prop) (t : TE) (σ : L2.St) (v : V) : Prop where
  run : ∀ (H : Hp) (Q : VK), I H → (∀ H', I H' → Q v H') → t σ H Q
instance {I : Hp → Prop} {t : TE} {σ : L2.St} {v : V} : CoeFun (HE I t σ v) fun _ => ∀ (H : Hp) (Q : VK), I H → (∀ H', I H' → Q v H') → t σ H Q := ⟨fun h => h.run⟩
structure HT' (I : Hp → Prop) (t : TT) (σ : L2.St) (b : Bool) : Prop where
  run : ∀ (H : Hp) (Q : Bool → Hp → Prop), I H → (∀ H', I H' → Q b H') → t σ H Q
instance {I : Hp → Prop} {t : TT} {σ : L2.St} {v : Bool} : CoeFun (HT' I t σ v) fun _ => ∀ (H : Hp) (Q : Bool → Hp → Prop), I H → (∀ H', I H' → Q v H') → t σ H Q := ⟨fun h => h.run⟩
section
variable {I : Hp → Prop} {σ : L2.St} {ta tb t : TE} {a b : Int} {v : V} {i : Nat} {K : PySem.W.Frag} {p q : Bool} {En : Ends} {u u' : TS} {tt tt' : TT} {H : Hp}
theorem he_var (e : σ[i]? = some (some v)) : HE I (tVar i) σ v := .mk fun H Q h k => ⟨v, e, k H h⟩
theorem he_c : HE I (tC v) σ v := .mk fun H Q h k => k H h
theorem he_I0 {g : Int → Int → V} (ha : HE I ta σ (.int a)) (hb : HE I tb σ (.int b)) : HE I (tOp (rI0 g) ta tb) σ (g a b) := .mk fun H Q h k =>
  ha H _ h fun H1 h1 => hb H1 _ h1 fun H2 h2 => ⟨a, b, rfl, rfl, k H2 h2⟩
theorem he_I {C : Int → Int → Prop} {g : Int → Int → V} (ha : HE I ta σ (.int a)) (hb : HE I tb σ (.int b)) (hC : C a b) : HE I (tOp (rI C g) ta tb) σ (g a b) := .mk fun H Q h k =>
  ha H _ h fun H1 h1 => hb H1 _ h1 fun H2 h2 => ⟨a, b, rfl, rfl, hC, k H2 h2⟩
theorem he_int (ha : HE I ta σ (.int a)) : HE I (tCB (fun xs H Q => (∃ i, xs = [V.int i] ∧ Q (V.int i) H) ∨ ∃ k, xs = [V.bl k] ∧ Q (V.int (if k = true then 1 else 0)) H) (tCons ta tNil)) σ (.int a) := .mk fun H Q h k =>
  ha H _ h fun H1 h1 => .inl ⟨a, rfl, k H1 h1⟩
theorem he_intB (ha : HE I ta σ (.bl p)) : HE I (tCB (fun xs H Q => (∃ i, xs = [V.int i] ∧ Q (V.int i) H) ∨ ∃ k, xs = [V.bl k] ∧ Q (V.int (if k = true then 1 else 0)) H) (tCons ta tNil)) σ (.int (if p = true then 1 else 0)) := .mk fun H Q h k =>
  ha H _ h fun H1 h1 => .inr ⟨p, rfl, k H1 h1⟩
theorem he_intLt (ha : HE I ta σ (.int a)) (hb : HE I tb σ (.int b)) : HE I (tCB (fun xs H Q => (∃ i, xs = [V.int i] ∧ Q (V.int i) H) ∨ ∃ k, xs = [V.bl k] ∧ Q (V.int (if k = true then 1 else 0)) H) (tCons (tOp (rI0 fun i j => V.bl (decide (i < j))) ta tb) tNil)) σ (.int (if decide (a < b) = true then 1 else 0)) :=
  he_intB (he_I0 ha hb)
theorem he_abs (ha : HE I ta σ (.int a)) : HE I (tCB (fun xs H Q => ∃ i, xs = [V.int i] ∧ Q (V.int (if i < 0 then -i else i)) H) (tCons ta tNil)) σ (.int (if a < 0 then -a else a)) := .mk fun H Q h k =>
  ha H _ h fun H1 h1 => ⟨a, rfl, k H1 h1⟩
theorem he_ix {r : Addr} (ha : HE I ta σ (.ref r)) (hb : HE I tb σ (.int b)) (hq : ∀ H, I H → ∃ xs, SqL K H r xs ∧ atI xs b = some v) : HE I (tOp (rIxL K) ta tb) σ v := .mk fun H Q h k =>
  ha H _ h fun H1 h1 => hb H1 _ h1 fun H2 h2 => by
    obtain ⟨xs, s, e⟩ := hq H2 h2
    exact ⟨r, xs, b, v, rfl, rfl, s, e, k H2 h2⟩
theorem he_len {r : Addr} {n : Nat} (ha : HE I ta σ (.ref r)) (hq : ∀ H, I H → ∃ xs, SqL K H r xs ∧ xs.length = n) : HE I (tCB (fun xs H Q => ∃ p ys, xs = [V.ref p] ∧ (SqL K H p ys ∨ SqT K H p ys) ∧ Q (V.int ys.length) H) (tCons ta tNil)) σ (.int (n : Nat)) := .mk fun H Q h k =>
  ha H _ h fun H1 h1 => by
    obtain ⟨xs, s, e⟩ := hq H1 h1
    subst e
    exact ⟨r, xs, rfl, .inl s, k H1 h1⟩
theorem he_neE {r : Addr} {x : D} (ha : HE I ta σ (.ref r)) (hI : ∀ H y, I H → H y = none → I (upd H y (.lst []))) (hq : ∀ H, I H → At K H x (.ref r)) (hx : shp x = true) : HE I (tOp (rNeD K) ta (tLst tNil)) σ (.bl (!deq x (.lst []))) := .mk fun H Q h k =>
  ha H _ h fun H1 h1 => ⟨Nat.zero_le _, fun y hy => by
    have h2 := hI H1 y h1 hy
    have hx' : noObj x = true ∧ SeqAt.shaped (py x) = true := by simpa [shp] using hx
    refine ⟨py x, py (.lst []), At.dp (Same.refl _) _ _ (hq _ h2) hx'.1, At.dp (Same.refl _) (.lst []) _ (.lst (by exact upd_same) .nil) rfl, hx'.2, rfl, k _ h2⟩⟩
theorem ht_test (h : HE I t σ (.bl p)) : HT' I (tTest t) σ p := .mk fun H Q hh k => h H _ hh fun H1 h1 => ⟨p, rfl, k H1 h1⟩
theorem ht_and (h : HT' I tt σ p) (h2 : p = true → HT' I tt' σ q) : HT' I (tAnd tt tt') σ (p && q) := .mk fun H Q hh k => h H _ hh fun H1 h1 => by
  cases p with
  | true => exact h2 rfl H1 Q h1 k
  | false => exact k H1 h1
theorem hs_set (h : HE I t σ v) (hh : I H) (k : ∀ H', I H' → u En (σ.set i (some v)) H') : L2.tSeq (tAsg t (gName i)) u En σ H := h H _ hh k
theorem hs_setMod {x y : Int} (h : HE I t σ (.int x)) (hy : 0 < y) (hh : I H) (k : ∀ (v : Int) (H' : Hp), 0 ≤ v → v < y → I H' → u En (σ.set i (some (.int v))) H') : L2.tSeq (tAsg (tOp (rI (fun x j => 0 < j) fun i j => V.int (i % j)) t (tC (.int y))) (gName i)) u En σ H :=
  hs_set (he_I h he_c hy) hh fun H' h' => k _ H' (Int.emod_nonneg _ (by omega)) (Int.emod_lt_of_pos _ hy) h'
theorem hs_put {J : Hp → Prop} {r : Addr} {n : Int} (h : HE I t σ v) (hh : I H) (e : σ[i]? = some (some (.ref r))) (hj : ∀ H, I H → ∃ xs j, H r = some (.lst xs) ∧ ixN xs.length n = some j ∧ J (upd H r (.lst (xs.set j v)))) (k : ∀ H', J H' → u En σ H') : L2.tSeq (tAsg t (gSub (tVar i) (tC (.int n)) rSetL)) u En σ H := h H _ hh fun H1 h1 => ⟨.ref r, e, by
  obtain ⟨xs, j, e1, e2, h2⟩ := hj H1 h1
  exact ⟨r, xs, n, j, rfl, rfl, e1, e2, k _ h2⟩⟩
theorem hs_if {t2 : TS} (h : HT' I tt σ p) (hh : I H) (k1 : p = true → ∀ H', I H' → u { En with nx := t2 En } σ H') (k2 : p = false → ∀ H', I H' → u' { En with nx := t2 En } σ H') : L2.tSeq (tIfS tt u u') t2 En σ H := h H _ hh fun H1 h1 => by
  cases p with
  | true => exact k1 rfl H1 h1
  | false => exact k2 rfl H1 h1
theorem hs_ifN {t2 : TS} (h : HT' I tt σ p) (hh : I H) (k1 : p = true → ∀ H', I H' → u { En with nx := t2 En } σ H') (k2 : p = false → ∀ H', I H' → t2 En σ H') : L2.tSeq (tIfS tt u tNext) t2 En σ H := h H _ hh fun H1 h1 => by
  cases p with
  | true => exact k1 rfl H1 h1
  | false => exact k2 rfl H1 h1
theorem hs_ifSet {t2 : TS} {x : Int} (h : HT' I tt (σ.set i (some (.int x))) p) (hh : I H) (k1 : p = true → ∃ b, HE I t (σ.set i (some (.int x))) (.int b)) (k : ∀ (cell : Int) (H' : Hp), I H' → t2 En (σ.set i (some (.int cell))) H') : L2.tSeq (tIfS tt (tAsg t (gName i)) tNext) t2 En (σ.set i (some (.int x))) H := h H _ hh fun H1 h1 => by
  cases p with
  | true =>
    obtain ⟨b, hb⟩ := k1 rfl
    refine hb H1 _ h1 fun H2 h2 => ?_
    show t2 En ((σ.set i (some (.int x))).set i (some (.int b))) H2
    rw [List.set_set]
    exact k b H2 h2
  | false => exact k x H1 h1
theorem hs_ret (h : HE I t σ v) (hh : I H) (k : ∀ H', I H' → En.rt v H') : tRet t En σ H := h H _ hh k
end
end DL
namespace DL
open PySem PySem.Spec PyProof.Rows L2
/-! ### the pen: a list of the cells, the place and the rest -/
structure Pw (H0 : Hp) (p c : Addr) (a r : Int) (H : Hp) : Prop where
  pen : H p = some (.lst [.ref c, .int a, .int r])
  keep : ∀ q o, H0 q = some o → q ≠ p → H q = some o
section
variable {H0 H : Hp} {p c y : Addr} {a r a' r' : Int} {x : HO} {σ : L2.St} {K : PySem.W.Frag} {cells : List Int} {tb : TE} {b v : Int}
theorem Pw.put (h : Pw H0 p c a r H) : Pw H0 p c a' r' (upd H p (.lst [.ref c, .int a', .int r'])) := ⟨upd_same, fun q o e n => by rw [upd_ne n]; exact h.keep q o e n⟩
theorem Pw.fresh (h : Pw H0 p c a r H) (f : H y = none) : Pw H0 p c a r (upd H y x) := ⟨by
  rw [upd_ne (ne_of_none h.pen f)]
  exact h.pen, fun q o e n => by
  have := h.keep q o e n
  rw [upd_ne (ne_of_none this f)]
  exact this⟩
theorem pw0 (e : σ[0]? = some (some (.ref p))) : HE (Pw H0 p c a r) (tOp (rIxL K) (tVar 0) (tC (.int 0))) σ (.ref c) := he_ix (he_var e) he_c fun H h => ⟨_, .inl (.inl h.pen), rfl⟩
theorem pw1 (e : σ[0]? = some (some (.ref p))) : HE (Pw H0 p c a r) (tOp (rIxL K) (tVar 0) (tC (.int 1))) σ (.int a) := he_ix (he_var e) he_c fun H h => ⟨_, .inl (.inl h.pen), rfl⟩
theorem pw2 (e : σ[0]? = some (some (.ref p))) : HE (Pw H0 p c a r) (tOp (rIxL K) (tVar 0) (tC (.int 2))) σ (.int r) := he_ix (he_var e) he_c fun H h => ⟨_, .inl (.inl h.pen), rfl⟩
theorem pwLen (e : σ[0]? = some (some (.ref p))) (hc : H0 c = some (.lst (cells.map V.int))) (n : c ≠ p) : HE (Pw H0 p c a r) (tCB (fun xs H Q => ∃ p ys, xs = [V.ref p] ∧ (SqL K H p ys ∨ SqT K H p ys) ∧ Q (V.int ys.length) H) (tCons (tOp (rIxL K) (tVar 0) (tC (.int 0))) tNil)) σ (.int (cells.length : Nat)) :=
  he_len (pw0 e) fun H h => ⟨_, .inl (.inl (h.keep c _ hc n)), List.length_map _⟩
theorem pwCell (e : σ[0]? = some (some (.ref p))) (hc : H0 c = some (.lst (cells.map V.int))) (n : c ≠ p) (hb : HE (Pw H0 p c a r) tb σ (.int b)) (h : atI cells b = some v) : HE (Pw H0 p c a r) (tOp (rIxL K) (tOp (rIxL K) (tVar 0) (tC (.int 0))) tb) σ (.int v) :=
  he_ix (pw0 e) hb fun H h' => ⟨_, .inl (.inl (h'.keep c _ hc n)), by
    unfold atI at h ⊢
    rw [List.length_map]
    cases hi : ixN cells.length b with
    | none => rw [hi] at h; cases h
    | some j =>
      rw [hi] at h
      have h : cells[j]? = some v := h
      show (cells.map V.int)[j]? = some (.int v)
      rw [List.getElem?_map, h]
      rfl⟩
theorem ints_at {F : Hp} : ∀ cells : List Int, AtL K F (cells.map D.int) (cells.map V.int)
  | [] => .nil
  | i :: r => .cons (.int i) (ints_at r)
theorem pwNe (e : σ[0]? = some (some (.ref p))) (hc : H0 c = some (.lst (cells.map V.int))) (n : c ≠ p) : HE (Pw H0 p c a r) (tOp (rNeD K) (tOp (rIxL K) (tVar 0) (tC (.int 0))) (tLst tNil)) σ (.bl (!decide (cells = []))) := by
  have h : HE (Pw H0 p c a r) (tOp (rNeD K) (tOp (rIxL K) (tVar 0) (tC (.int 0))) (tLst tNil)) σ (.bl (!deq (.lst (cells.map .int)) (.lst []))) :=
    he_neE (pw0 e) (fun H y h f => h.fresh f) (fun H h => .lst (h.keep c _ hc n) (ints_at cells)) ((shpN_lst (n := 0) fun d hd => by
      rw [List.mem_map] at hd
      obtain ⟨i, _, rfl⟩ := hd
      exact shpN_int).shp (by decide))
  have e : deq (.lst (cells.map .int)) (.lst []) = decide (cells = []) := by
    cases cells with
    | nil => rfl
    | cons i r => rfl
  rw [e] at h
  exact h
end
theorem mul_bnd {a b A B : Int} (a0 : 0 ≤ a) (a1 : a ≤ A) (b0 : 0 ≤ b) (b1 : b ≤ B) : 0 ≤ a * b ∧ a * b ≤ A * B :=
  ⟨Int.mul_nonneg a0 b0, Int.mul_le_mul a1 b1 b0 (by omega)⟩
/-- any draw's promise: a number below m, and one place further at most -/
def wfDraw : WF := fun bs post => ∃ p k, ∃ m : Nat, bs = [.pen p k, .val (.int m)] ∧ (0 < m ∧ m < 1048576 ∧ k < 100000) ∧ ∀ i : Nat, i < m → post [.pen p (k + 1), .val (.int m)] (.int i)
/-- what a draw's walk wants, out of its promise -/
theorem draw_start {K : PySem.W.Frag} {vs : List V} {H Fz : Hp} {bs : List B} {post : List B → D → Prop} {Q : VK} (I : StOk K (atCall bs H Fz) (vs.map some) H Fz bs) (hw : wfDraw bs post)
    (q : ∀ v H' F' bs' d, Same Fz F' → StOk K (atCall bs H Fz) (vs.map some) H' F' bs' → At K F' d v → post bs' d → Q v H') :
    ∃ (p c : Addr) (cells : List Int) (a r : Int) (k m : Nat), vs = [.ref p, .int (m : Nat)] ∧ H c = some (.lst (cells.map V.int)) ∧ c ≠ p ∧ cells.length ≤ 63 ∧ 0 ≤ a ∧ a ≤ k ∧ 0 ≤ r ∧ (0 < m ∧ m < 1048576 ∧ k < 100000) ∧ Pw H p c a r H ∧
      ∀ (i a' r' : Int) (H' : Hp), 0 ≤ i → i < m → 0 ≤ a' → a' ≤ k + 1 → 0 ≤ r' → Pw H p c a' r' H' → Q (.int i) H' := by
  obtain ⟨p, k, m, rfl, hb, hp⟩ := hw
  obtain ⟨e0, er, c, cells, a, r, h1, h2, h3, h4, h5, h6, h7⟩ := pen_at I (i := 0) rfl
  have hl : vs.length = 2 := by
    have := I.len
    rw [List.length_map] at this
    exact this.symm
  match vs, hl with
  | [v0, v1], _ =>
    have ev0 : v0 = .ref p := by simpa using e0
    obtain ⟨v, ev, av⟩ := I.slot 1 _ (some v1) rfl rfl
    cases ev
    cases av
    subst ev0
    have hcp : c ≠ p := fun z => by rw [z, h2] at h3; cases h3
    refine ⟨p, c, cells, a, r, k, m, rfl, I.fb.sub _ _ h3, hcp, h4, h5, h6, h7, hb, ⟨h1, fun _ _ e _ => e⟩, fun i a' r' H' i0 i1 a0 a1 r0 hP => ?_⟩
    obtain ⟨n, rfl⟩ := Int.eq_ofNat_of_zero_le i0
    have hsub : Same Fz H' := fun x o e => hP.keep x o (I.fb.sub x o e) fun z => by rw [z, h2] at e; cases e
    have I2 := I.penBack (i := 0) (k' := k + 1) (H' := H') (F' := Fz) rfl hsub (Same.refl _) (fun _ _ e => .inl e) (fun x o e n => hP.keep x o e n) (fun x e => by
      cases hx : H x with
      | none => rfl
      | some o =>
        by_cases n : x = p
        · rw [n, hP.pen] at e; cases e
        · rw [hP.keep x o hx n] at e; cases e) ⟨c, cells, a', r', hP.pen, h2, h3, h4, a0, by omega, r0⟩
    exact q _ H' Fz _ _ (Same.refl _) I2 (.int _) (hp n (by omega))
end DL

set_option Elab.async false
set_option linter.all false
set_option maxRecDepth 100000
set_option maxHeartbeats 4000000
namespace DL
open PySem PySem.Spec PyProof.Rows L2
theorem nth_get {ρ : Env} {i : Nat} {x : B} (e : ρ[i]? = some x) : nth ρ i = x := by
  induction ρ generalizing i with
  | nil => simp at e
  | cons a r ih =>
    cases i with
    | zero => simp at e; exact e
    | succ i => exact ih (by simpa using e)
theorem wipeB_len (ρ : Env) : ∀ vs : List Nat, (wipeB ρ vs).length = ρ.length
  | [] => rfl
  | v :: vs => by unfold wipeB; rw [List.length_set, wipeB_len ρ vs]
theorem wipeB_other (ρ : Env) : ∀ (vs : List Nat) (i : Nat), i ∉ vs → (wipeB ρ vs)[i]? = ρ[i]?
  | [], _, _ => rfl
  | v :: vs, i, h => by
    unfold wipeB
    rw [List.getElem?_set_ne (fun z => h (by rw [z]; exact List.mem_cons_self)), wipeB_other ρ vs i fun z => h (List.mem_cons_of_mem _ z)]
/-- behind a block whose own names held nothing of mine all is as before, but for what its turns changed elsewhere -/
theorem mrg_back {vs : List Nat} {ρ ρ' : Env} (hl : ρ.length = ρ'.length) (h : ∀ v ∈ vs, mine (nth ρ v) = false ∧ nth ρ' v = nth ρ v) : mrg 0 vs ρ (wipeB ρ' vs) = ρ' := by
  apply List.ext_getElem?
  intro i
  by_cases hi : i < ρ.length
  · have hi2 : i < (mrg 0 vs ρ (wipeB ρ' vs)).length := by rw [mrg_length 0 vs _ _ (by rw [wipeB_len]; exact hl)]; exact hi
    have e := List.getElem?_eq_getElem hi2
    rw [e]
    rcases mrg_get 0 vs _ _ i _ e with ⟨h1, x, h2, h3⟩ | ⟨h1, h2⟩
    · rw [Nat.zero_add] at h1
      obtain ⟨m, s⟩ := h i h1
      rw [nth_get h2] at m s
      rcases h3 with ⟨h3, _⟩ | ⟨_, h3⟩
      · rw [m] at h3; cases h3
      · rw [h3]
        have hi' : i < ρ'.length := by rw [← hl]; exact hi
        rw [List.getElem?_eq_getElem hi']
        rw [nth_get (List.getElem?_eq_getElem hi')] at s
        rw [s]
    · rw [Nat.zero_add] at h1
      rw [wipeB_other _ _ _ h1] at h2
      exact h2.symm
  · rw [List.getElem?_eq_none (by rw [mrg_length 0 vs _ _ (by rw [wipeB_len]; exact hl)]; omega), List.getElem?_eq_none (by omega)]
theorem mrg_self {vs : List Nat} {ρ : Env} (h : ∀ v ∈ vs, mine (nth ρ v) = false) : mrg 0 vs ρ (wipeB ρ vs) = ρ := mrg_back rfl fun v hv => ⟨h v hv, rfl⟩
section
variable {w : WE} {wn wi : WN} {wt : WT} {ρ ρ1 ρ2 : Env} {d x : D} {a b u : WS} {i j k : Nat} {l m : List D} {p : Bool} {g : WG} {tb : WS} {ds : List D} {De : DEnds}
theorem nd_st (h : EvX a ρ ρ1) (k : u De ρ1) : wSeq a u De ρ := h.run _ k
theorem nd_for (Iv : Nat → Env → Prop) (hi : EvN wi ρ ρ1 ds) (h0 : Iv 0 ρ1) (h : ∀ i x ρ, ds[i]? = some x → Iv i ρ → g x ρ fun ρ2 => tb { De with nx := Iv (i + 1), ct := Iv (i + 1), bk := u De } ρ2) (hu : ∀ ρ, Iv ds.length ρ → u De ρ) : wSeq (wFor wi g tb) u De ρ := hi.run _ ⟨Iv, h0, h, hu⟩
theorem at_env (ρ' : Env) (h : u De ρ') (e : ρ = ρ') : u De ρ := e ▸ h
theorem nd_set (h : w ρ fun ρ1 d => u De (ρ1.set i (.val d))) : wSeq (wSet i w) u De ρ := h
theorem nd_asg (h : w ρ fun ρ1 d => g d ρ1 (u De)) : wSeq (wAsg w g) u De ρ := h
theorem nd_par {w2 : WE} (h1 : Ev w ρ ρ1 x) (h2 : w2 ρ1 fun ρ2 d => u De ((ρ2.set i (.val x)).set j (.val d))) : wSeq (wPar i j (woVal w (woVal w2 woNil))) u De ρ := h1.run _ h2
theorem nd_lst2 {post : Env → D → Prop} (h : w ρ fun ρ1 d => [d, x].length ≤ 1000000 ∧ post ρ1 (.lst [d, x])) : wFz (wLst (wCons w (wCons (wC x) wNil))) ρ post := h
theorem nd_ret (h : Ev w ρ ρ1 x) (k : De.rt ρ1 x) : wRet w De ρ := h.run _ k
end
end DL

set_option Elab.async false
set_option linter.all false
set_option maxRecDepth 100000
set_option maxHeartbeats 4000000
namespace K28
open PySem PySem.Spec PyProof.Rows L2 DL
def topS (i : Nat) : Stmt := PySem.Challenge.pw_keepsenough_k28_known_heads_by_formula.main.body.getD i (.Pass ⟨0, 0, 0, 0⟩)
abbrev s_is_integer : Stmt := topS 8
abbrev s_is_within : Stmt := topS 9
abbrev s_is_listed : Stmt := topS 10
abbrev s_is_row : Stmt := topS 11
abbrev s_is_bounded : Stmt := topS 15
abbrev s_Head_init : Stmt := inClass (topS 16) 0
abbrev s_score_of : Stmt := topS 17
abbrev s_best_of : Stmt := topS 18
abbrev s_are_heads : Stmt := topS 23
abbrev s_is_table : Stmt := topS 24
abbrev s_Layer_init : Stmt := inClass (topS 25) 0
abbrev s_spots_taken : Stmt := topS 26
abbrev s_row_made : Stmt := topS 27
abbrev s_are_rows : Stmt := topS 33
abbrev s_are_letter_rows : Stmt := topS 34
abbrev s_are_layers : Stmt := topS 35
abbrev s_Net_init : Stmt := inClass (topS 36) 0
abbrev s_need_net : Stmt := topS 37
abbrev s_need_text : Stmt := topS 38
abbrev s_rows_above : Stmt := topS 41
abbrev s_levels_of : Stmt := topS 42
abbrev s_places_of : Stmt := topS 43
abbrev s_need_short : Stmt := topS 44
abbrev s_levels_behind : Stmt := topS 45
abbrev s_places_behind : Stmt := topS 46
abbrev s__law_pen : Stmt := topS 48
abbrev s__law_draw : Stmt := topS 49
abbrev s__law_pick : Stmt := topS 50
abbrev s__law_one : Stmt := topS 51
abbrev s__law_first_numbers : Stmt := topS 52
abbrev s_law : Stmt := topS 53
theorem sc_is_integer : FnScope ["value"] ["value"] (defScope s_is_integer) := ⟨rfl, rfl, rfl, by decide +kernel, rfl, by decide +kernel, by decide +kernel⟩
theorem sc_is_within : FnScope ["value", "least", "most"] ["value", "least", "most"] (defScope s_is_within) := ⟨rfl, rfl, rfl, by decide +kernel, rfl, by decide +kernel, by decide +kernel⟩
theorem sc_is_listed : FnScope ["value"] ["value"] (defScope s_is_listed) := ⟨rfl, rfl, rfl, by decide +kernel, rfl, by decide +kernel, by decide +kernel⟩
theorem sc_is_row : FnScope ["value", "many"] ["value", "many"] (defScope s_is_row) := ⟨rfl, rfl, rfl, by decide +kernel, rfl, by decide +kernel, by decide +kernel⟩
theorem sc_is_bounded : FnScope ["value", "length", "most", "one"] ["value", "length", "most"] (defScope s_is_bounded) := ⟨rfl, rfl, rfl, by decide +kernel, rfl, by decide +kernel, by decide +kernel⟩
theorem sc_Head_init : FnScope ["self", "scores", "none", "late", "strict", "row"] ["self", "scores", "none", "late", "strict"] (defScope s_Head_init) := ⟨rfl, rfl, rfl, by decide +kernel, rfl, by decide +kernel, by decide +kernel⟩
theorem sc_score_of : FnScope ["head", "row", "other", "mine", "line", "told", "its"] ["head", "row", "other"] (defScope s_score_of) := ⟨rfl, rfl, rfl, by decide +kernel, rfl, by decide +kernel, by decide +kernel⟩
theorem sc_best_of : FnScope ["head", "row", "others", "found", "most", "at", "other", "score"] ["head", "row", "others"] (defScope s_best_of) := ⟨rfl, rfl, rfl, by decide +kernel, rfl, by decide +kernel, by decide +kernel⟩
theorem sc_are_heads : FnScope ["value", "head"] ["value"] (defScope s_are_heads) := ⟨rfl, rfl, rfl, by decide +kernel, rfl, by decide +kernel, by decide +kernel⟩
theorem sc_is_table : FnScope ["value", "heads", "wide", "row"] ["value", "heads"] (defScope s_is_table) := ⟨rfl, rfl, rfl, by decide +kernel, rfl, by decide +kernel, by decide +kernel⟩
theorem sc_Layer_init : FnScope ["self", "heads", "table", "shift", "cap", "row"] ["self", "heads", "table", "shift", "cap"] (defScope s_Layer_init) := ⟨rfl, rfl, rfl, by decide +kernel, rfl, by decide +kernel, by decide +kernel⟩
theorem sc_spots_taken : FnScope ["layer", "rows", "row", "head"] ["layer", "rows", "row"] (defScope s_spots_taken) := ⟨rfl, rfl, rfl, by decide +kernel, rfl, by decide +kernel, by decide +kernel⟩
theorem sc_row_made : FnScope ["layer", "rows", "row", "joined", "found", "head", "spot", "line", "more", "told", "one", "other"] ["layer", "rows", "row"] (defScope s_row_made) := ⟨rfl, rfl, rfl, by decide +kernel, rfl, by decide +kernel, by decide +kernel⟩
theorem sc_are_rows : FnScope ["value", "many", "length", "row"] ["value", "many", "length"] (defScope s_are_rows) := ⟨rfl, rfl, rfl, by decide +kernel, rfl, by decide +kernel, by decide +kernel⟩
theorem sc_are_letter_rows : FnScope ["value"] ["value"] (defScope s_are_letter_rows) := ⟨rfl, rfl, rfl, by decide +kernel, rfl, by decide +kernel, by decide +kernel⟩
theorem sc_are_layers : FnScope ["value", "length", "layer"] ["value", "length"] (defScope s_are_layers) := ⟨rfl, rfl, rfl, by decide +kernel, rfl, by decide +kernel, by decide +kernel⟩
theorem sc_Net_init : FnScope ["self", "rows", "layers", "worths", "last", "row", "layer"] ["self", "rows", "layers", "worths"] (defScope s_Net_init) := ⟨rfl, rfl, rfl, by decide +kernel, rfl, by decide +kernel, by decide +kernel⟩
theorem sc_need_net : FnScope ["value"] ["value"] (defScope s_need_net) := ⟨rfl, rfl, rfl, by decide +kernel, rfl, by decide +kernel, by decide +kernel⟩
theorem sc_need_text : FnScope ["net", "value", "most", "one"] ["net", "value", "most"] (defScope s_need_text) := ⟨rfl, rfl, rfl, by decide +kernel, rfl, by decide +kernel, by decide +kernel⟩
theorem sc_rows_above : FnScope ["layer", "rows", "at", "row"] ["layer", "rows"] (defScope s_rows_above) := ⟨rfl, rfl, rfl, by decide +kernel, rfl, by decide +kernel, by decide +kernel⟩
theorem sc_levels_of : FnScope ["net", "text", "found", "layer", "letter"] ["net", "text"] (defScope s_levels_of) := ⟨rfl, rfl, rfl, by decide +kernel, rfl, by decide +kernel, by decide +kernel⟩
theorem sc_places_of : FnScope ["net", "text", "found", "layer", "rows", "at", "row"] ["net", "text"] (defScope s_places_of) := ⟨rfl, rfl, rfl, by decide +kernel, rfl, by decide +kernel, by decide +kernel⟩
theorem sc_need_short : FnScope ["net", "text"] ["net", "text"] (defScope s_need_short) := ⟨rfl, rfl, rfl, by decide +kernel, rfl, by decide +kernel, by decide +kernel⟩
theorem sc_levels_behind : FnScope ["net", "text"] ["net", "text"] (defScope s_levels_behind) := ⟨rfl, rfl, rfl, by decide +kernel, rfl, by decide +kernel, by decide +kernel⟩
theorem sc_places_behind : FnScope ["net", "text"] ["net", "text"] (defScope s_places_behind) := ⟨rfl, rfl, rfl, by decide +kernel, rfl, by decide +kernel, by decide +kernel⟩
theorem sc__law_pen : FnScope ["script", "cell"] ["script"] (defScope s__law_pen) := ⟨rfl, rfl, rfl, by decide +kernel, rfl, by decide +kernel, by decide +kernel⟩
theorem sc__law_draw : FnScope ["pen", "many", "digit", "at", "cell", "great", "mixed"] ["pen", "many"] (defScope s__law_draw) := ⟨rfl, rfl, rfl, by decide +kernel, rfl, by decide +kernel, by decide +kernel⟩
theorem sc__law_pick : FnScope ["pen", "some"] ["pen", "some"] (defScope s__law_pick) := ⟨rfl, rfl, rfl, by decide +kernel, rfl, by decide +kernel, by decide +kernel⟩
theorem sc__law_one : FnScope ["scores", "none", "late", "strict", "rows", "wide"] ["scores", "none", "late", "strict", "rows"] (defScope s__law_one) := ⟨rfl, rfl, rfl, by decide +kernel, rfl, by decide +kernel, by decide +kernel⟩
theorem sc__law_first_numbers : FnScope ["rows", "text", "spots", "none", "told", "letter", "spot"] ["rows", "text", "spots", "none"] (defScope s__law_first_numbers) := ⟨rfl, rfl, rfl, by decide +kernel, rfl, by decide +kernel, by decide +kernel⟩
theorem sc_law : FnScope ["script", "pen", "turn", "rows", "text", "many", "none", "some", "late", "strict", "spots", "net", "sign", "letter", "told", "at", "seen", "best", "alike", "same", "two", "spot", "row", "number"] ["script"] (defScope s_law) := ⟨rfl, rfl, rfl, by decide +kernel, rfl, by decide +kernel, by decide +kernel⟩
def ns_Head : List Str := ["scores", "none", "late", "strict", "length"]
def ns_Layer : List Str := ["heads", "table", "shift", "cap", "length"]
def ns_Net : List Str := ["rows", "layers", "worths", "letters", "lengths"]
structure AD where
  a_is_integer : Addr
  d_is_integer : FuncData
  a_is_within : Addr
  d_is_within : FuncData
  a_is_listed : Addr
  d_is_listed : FuncData
  a_is_row : Addr
  d_is_row : FuncData
  a_is_bounded : Addr
  d_is_bounded : FuncData
  a_Head_init : Addr
  d_Head_init : FuncData
  a_score_of : Addr
  d_score_of : FuncData
  a_best_of : Addr
  d_best_of : FuncData
  a_are_heads : Addr
  d_are_heads : FuncData
  a_is_table : Addr
  d_is_table : FuncData
  a_Layer_init : Addr
  d_Layer_init : FuncData
  a_spots_taken : Addr
  d_spots_taken : FuncData
  a_row_made : Addr
  d_row_made : FuncData
  a_are_rows : Addr
  d_are_rows : FuncData
  a_are_letter_rows : Addr
  d_are_letter_rows : FuncData
  a_are_layers : Addr
  d_are_layers : FuncData
  a_Net_init : Addr
  d_Net_init : FuncData
  a_need_net : Addr
  d_need_net : FuncData
  a_need_text : Addr
  d_need_text : FuncData
  a_rows_above : Addr
  d_rows_above : FuncData
  a_levels_of : Addr
  d_levels_of : FuncData
  a_places_of : Addr
  d_places_of : FuncData
  a_need_short : Addr
  d_need_short : FuncData
  a_levels_behind : Addr
  d_levels_behind : FuncData
  a_places_behind : Addr
  d_places_behind : FuncData
  a__law_pen : Addr
  d__law_pen : FuncData
  a__law_draw : Addr
  d__law_draw : FuncData
  a__law_pick : Addr
  d__law_pick : FuncData
  a__law_one : Addr
  d__law_one : FuncData
  a__law_first_numbers : Addr
  d__law_first_numbers : FuncData
  a_law : Addr
  d_law : FuncData
  c_Head : Addr
  c_Layer : Addr
  c_Net : Addr
structure Txt (K : PySem.W.Frag) (mg : Str → Option Value) (A : AD) : Prop where
  F_is_integer : FunD K "is_integer" "is_integer" (defArgs s_is_integer) (defBody s_is_integer) (defScope s_is_integer) [] [] A.a_is_integer A.d_is_integer
  B_is_integer : Binds K A.d_is_integer ["value"] []
  m_is_integer : mg "is_integer" = some (.ref A.a_is_integer)
  F_is_within : FunD K "is_within" "is_within" (defArgs s_is_within) (defBody s_is_within) (defScope s_is_within) [] [] A.a_is_within A.d_is_within
  B_is_within : Binds K A.d_is_within ["value", "least", "most"] []
  m_is_within : mg "is_within" = some (.ref A.a_is_within)
  F_is_listed : FunD K "is_listed" "is_listed" (defArgs s_is_listed) (defBody s_is_listed) (defScope s_is_listed) [] [] A.a_is_listed A.d_is_listed
  B_is_listed : Binds K A.d_is_listed ["value"] []
  m_is_listed : mg "is_listed" = some (.ref A.a_is_listed)
  F_is_row : FunD K "is_row" "is_row" (defArgs s_is_row) (defBody s_is_row) (defScope s_is_row) [] [] A.a_is_row A.d_is_row
  B_is_row : Binds K A.d_is_row ["value", "many"] []
  m_is_row : mg "is_row" = some (.ref A.a_is_row)
  F_is_bounded : FunD K "is_bounded" "is_bounded" (defArgs s_is_bounded) (defBody s_is_bounded) (defScope s_is_bounded) [] [] A.a_is_bounded A.d_is_bounded
  B_is_bounded : Binds K A.d_is_bounded ["value", "length", "most"] []
  m_is_bounded : mg "is_bounded" = some (.ref A.a_is_bounded)
  F_Head_init : FunD K "__init__" "Head.__init__" (defArgs s_Head_init) (defBody s_Head_init) (defScope s_Head_init) [.bl true, .bl false] [] A.a_Head_init A.d_Head_init
  B_Head_init : Binds K A.d_Head_init ["self", "scores", "none", "late", "strict"] []
  F_score_of : FunD K "score_of" "score_of" (defArgs s_score_of) (defBody s_score_of) (defScope s_score_of) [] [] A.a_score_of A.d_score_of
  B_score_of : Binds K A.d_score_of ["head", "row", "other"] []
  m_score_of : mg "score_of" = some (.ref A.a_score_of)
  F_best_of : FunD K "best_of" "best_of" (defArgs s_best_of) (defBody s_best_of) (defScope s_best_of) [] [] A.a_best_of A.d_best_of
  B_best_of : Binds K A.d_best_of ["head", "row", "others"] []
  m_best_of : mg "best_of" = some (.ref A.a_best_of)
  F_are_heads : FunD K "are_heads" "are_heads" (defArgs s_are_heads) (defBody s_are_heads) (defScope s_are_heads) [] [] A.a_are_heads A.d_are_heads
  B_are_heads : Binds K A.d_are_heads ["value"] []
  m_are_heads : mg "are_heads" = some (.ref A.a_are_heads)
  F_is_table : FunD K "is_table" "is_table" (defArgs s_is_table) (defBody s_is_table) (defScope s_is_table) [] [] A.a_is_table A.d_is_table
  B_is_table : Binds K A.d_is_table ["value", "heads"] []
  m_is_table : mg "is_table" = some (.ref A.a_is_table)
  F_Layer_init : FunD K "__init__" "Layer.__init__" (defArgs s_Layer_init) (defBody s_Layer_init) (defScope s_Layer_init) [] [] A.a_Layer_init A.d_Layer_init
  B_Layer_init : Binds K A.d_Layer_init ["self", "heads", "table", "shift", "cap"] []
  F_spots_taken : FunD K "spots_taken" "spots_taken" (defArgs s_spots_taken) (defBody s_spots_taken) (defScope s_spots_taken) [] [] A.a_spots_taken A.d_spots_taken
  B_spots_taken : Binds K A.d_spots_taken ["layer", "rows", "row"] []
  m_spots_taken : mg "spots_taken" = some (.ref A.a_spots_taken)
  F_row_made : FunD K "row_made" "row_made" (defArgs s_row_made) (defBody s_row_made) (defScope s_row_made) [] [] A.a_row_made A.d_row_made
  B_row_made : Binds K A.d_row_made ["layer", "rows", "row"] []
  m_row_made : mg "row_made" = some (.ref A.a_row_made)
  F_are_rows : FunD K "are_rows" "are_rows" (defArgs s_are_rows) (defBody s_are_rows) (defScope s_are_rows) [] [] A.a_are_rows A.d_are_rows
  B_are_rows : Binds K A.d_are_rows ["value", "many", "length"] []
  m_are_rows : mg "are_rows" = some (.ref A.a_are_rows)
  F_are_letter_rows : FunD K "are_letter_rows" "are_letter_rows" (defArgs s_are_letter_rows) (defBody s_are_letter_rows) (defScope s_are_letter_rows) [] [] A.a_are_letter_rows A.d_are_letter_rows
  B_are_letter_rows : Binds K A.d_are_letter_rows ["value"] []
  m_are_letter_rows : mg "are_letter_rows" = some (.ref A.a_are_letter_rows)
  F_are_layers : FunD K "are_layers" "are_layers" (defArgs s_are_layers) (defBody s_are_layers) (defScope s_are_layers) [] [] A.a_are_layers A.d_are_layers
  B_are_layers : Binds K A.d_are_layers ["value", "length"] []
  m_are_layers : mg "are_layers" = some (.ref A.a_are_layers)
  F_Net_init : FunD K "__init__" "Net.__init__" (defArgs s_Net_init) (defBody s_Net_init) (defScope s_Net_init) [] [] A.a_Net_init A.d_Net_init
  B_Net_init : Binds K A.d_Net_init ["self", "rows", "layers", "worths"] []
  F_need_net : FunD K "need_net" "need_net" (defArgs s_need_net) (defBody s_need_net) (defScope s_need_net) [] [] A.a_need_net A.d_need_net
  B_need_net : Binds K A.d_need_net ["value"] []
  m_need_net : mg "need_net" = some (.ref A.a_need_net)
  F_need_text : FunD K "need_text" "need_text" (defArgs s_need_text) (defBody s_need_text) (defScope s_need_text) [.int 1000] [] A.a_need_text A.d_need_text
  B_need_text : Binds K A.d_need_text ["net", "value", "most"] []
  m_need_text : mg "need_text" = some (.ref A.a_need_text)
  F_rows_above : FunD K "rows_above" "rows_above" (defArgs s_rows_above) (defBody s_rows_above) (defScope s_rows_above) [] [] A.a_rows_above A.d_rows_above
  B_rows_above : Binds K A.d_rows_above ["layer", "rows"] []
  m_rows_above : mg "rows_above" = some (.ref A.a_rows_above)
  F_levels_of : FunD K "levels_of" "levels_of" (defArgs s_levels_of) (defBody s_levels_of) (defScope s_levels_of) [] [] A.a_levels_of A.d_levels_of
  B_levels_of : Binds K A.d_levels_of ["net", "text"] []
  m_levels_of : mg "levels_of" = some (.ref A.a_levels_of)
  F_places_of : FunD K "places_of" "places_of" (defArgs s_places_of) (defBody s_places_of) (defScope s_places_of) [] [] A.a_places_of A.d_places_of
  B_places_of : Binds K A.d_places_of ["net", "text"] []
  m_places_of : mg "places_of" = some (.ref A.a_places_of)
  F_need_short : FunD K "need_short" "need_short" (defArgs s_need_short) (defBody s_need_short) (defScope s_need_short) [] [] A.a_need_short A.d_need_short
  B_need_short : Binds K A.d_need_short ["net", "text"] []
  m_need_short : mg "need_short" = some (.ref A.a_need_short)
  F_levels_behind : FunD K "levels_behind" "levels_behind" (defArgs s_levels_behind) (defBody s_levels_behind) (defScope s_levels_behind) [] [] A.a_levels_behind A.d_levels_behind
  B_levels_behind : Binds K A.d_levels_behind ["net", "text"] []
  m_levels_behind : mg "levels_behind" = some (.ref A.a_levels_behind)
  F_places_behind : FunD K "places_behind" "places_behind" (defArgs s_places_behind) (defBody s_places_behind) (defScope s_places_behind) [] [] A.a_places_behind A.d_places_behind
  B_places_behind : Binds K A.d_places_behind ["net", "text"] []
  m_places_behind : mg "places_behind" = some (.ref A.a_places_behind)
  F__law_pen : FunD K "_law_pen" "_law_pen" (defArgs s__law_pen) (defBody s__law_pen) (defScope s__law_pen) [] [] A.a__law_pen A.d__law_pen
  B__law_pen : Binds K A.d__law_pen ["script"] []
  m__law_pen : mg "_law_pen" = some (.ref A.a__law_pen)
  F__law_draw : FunD K "_law_draw" "_law_draw" (defArgs s__law_draw) (defBody s__law_draw) (defScope s__law_draw) [] [] A.a__law_draw A.d__law_draw
  B__law_draw : Binds K A.d__law_draw ["pen", "many"] []
  m__law_draw : mg "_law_draw" = some (.ref A.a__law_draw)
  F__law_pick : FunD K "_law_pick" "_law_pick" (defArgs s__law_pick) (defBody s__law_pick) (defScope s__law_pick) [] [] A.a__law_pick A.d__law_pick
  B__law_pick : Binds K A.d__law_pick ["pen", "some"] []
  m__law_pick : mg "_law_pick" = some (.ref A.a__law_pick)
  F__law_one : FunD K "_law_one" "_law_one" (defArgs s__law_one) (defBody s__law_one) (defScope s__law_one) [] [] A.a__law_one A.d__law_one
  B__law_one : Binds K A.d__law_one ["scores", "none", "late", "strict", "rows"] []
  m__law_one : mg "_law_one" = some (.ref A.a__law_one)
  F__law_first_numbers : FunD K "_law_first_numbers" "_law_first_numbers" (defArgs s__law_first_numbers) (defBody s__law_first_numbers) (defScope s__law_first_numbers) [] [] A.a__law_first_numbers A.d__law_first_numbers
  B__law_first_numbers : Binds K A.d__law_first_numbers ["rows", "text", "spots", "none"] []
  m__law_first_numbers : mg "_law_first_numbers" = some (.ref A.a__law_first_numbers)
  F_law : FunD K "law" "law" (defArgs s_law) (defBody s_law) (defScope s_law) [] [] A.a_law A.d_law
  B_law : Binds K A.d_law ["script"] []
  m_law : mg "law" = some (.ref A.a_law)
  m_Head : mg "Head" = some (.ref A.c_Head)
  cl_Head : Cls K A.c_Head
  q_Head : InsC K A.c_Head
  k_Head : Mk K A.c_Head A.a_Head_init
  n_Head_scores : NoAttr K A.c_Head "scores"
  n_Head_none : NoAttr K A.c_Head "none"
  n_Head_late : NoAttr K A.c_Head "late"
  n_Head_strict : NoAttr K A.c_Head "strict"
  n_Head_length : NoAttr K A.c_Head "length"
  m_Layer : mg "Layer" = some (.ref A.c_Layer)
  cl_Layer : Cls K A.c_Layer
  q_Layer : InsC K A.c_Layer
  k_Layer : Mk K A.c_Layer A.a_Layer_init
  n_Layer_heads : NoAttr K A.c_Layer "heads"
  n_Layer_table : NoAttr K A.c_Layer "table"
  n_Layer_shift : NoAttr K A.c_Layer "shift"
  n_Layer_cap : NoAttr K A.c_Layer "cap"
  n_Layer_length : NoAttr K A.c_Layer "length"
  m_Net : mg "Net" = some (.ref A.c_Net)
  cl_Net : Cls K A.c_Net
  q_Net : InsC K A.c_Net
  k_Net : Mk K A.c_Net A.a_Net_init
  n_Net_rows : NoAttr K A.c_Net "rows"
  n_Net_layers : NoAttr K A.c_Net "layers"
  n_Net_worths : NoAttr K A.c_Net "worths"
  n_Net_letters : NoAttr K A.c_Net "letters"
  n_Net_lengths : NoAttr K A.c_Net "lengths"
  g_MOST_LENGTH : ∃ t, mg "MOST_LENGTH" = some (.int 4 t)
  g_MOST_NUMBER : ∃ t, mg "MOST_NUMBER" = some (.int 999 t)
  g_MOST_HEADS : ∃ t, mg "MOST_HEADS" = some (.int 2 t)
  g_MOST_SHIFT : ∃ t, mg "MOST_SHIFT" = some (.int 9999 t)
  g_MOST_CAP : ∃ t, mg "MOST_CAP" = some (.int 99 t)
  g_LEAST_LETTERS : ∃ t, mg "LEAST_LETTERS" = some (.int 2 t)
  g_MOST_LETTERS : ∃ t, mg "MOST_LETTERS" = some (.int 4 t)
  g_MOST_LAYERS : ∃ t, mg "MOST_LAYERS" = some (.int 3 t)
  g_MOST_TEXT : ∃ t, mg "MOST_TEXT" = some (.int 1000 t)
  g_MOST_SHORT : ∃ t, mg "MOST_SHORT" = some (.int 60 t)
  b_len : mg "len" = none
  b_sum : mg "sum" = none
  b_all : mg "all" = none
  b_abs : mg "abs" = none
  b_max : mg "max" = none
  b_min : mg "min" = none
  b_int : mg "int" = none
  b_bool : mg "bool" = none
  b_tuple : mg "tuple" = none
  b_list : mg "list" = none
  b_range : mg "range" = none
  b_zip : mg "zip" = none
  b_enumerate : mg "enumerate" = none
  b_isinstance : mg "isinstance" = none
end K28

set_option Elab.async false
set_option linter.all false
set_option maxRecDepth 100000
set_option maxHeartbeats 4000000
namespace K28
open PySem PySem.Spec PyProof.Rows L2 DL
local macro_rules | `(tactic| walk_at "e") => `(tactic| repeat' (first
  | walk_at "c" | exact DL.ev_v rfl | exact DL.ev_vz rfl | exact DL.ev_vzO rfl | exact DL.ev_C | exact DL.ev_nil
  | with_reducible apply DL.ev_op | with_reducible apply DL.ev_cb | with_reducible apply DL.ev_cbn | with_reducible apply DL.ev_cons | with_reducible apply DL.ev_fld
  | exact DL.er_I0 | with_reducible apply DL.er_I | exact DL.er_isN | exact DL.er_notN | with_reducible apply DL.er_eq | with_reducible apply DL.er_ne | with_reducible apply DL.er_ix
  | with_reducible apply DL.ev_tst | with_reducible apply DL.ev_not | with_reducible apply DL.ev_andT | with_reducible apply DL.ev_orT | with_reducible apply DL.ev_and | with_reducible apply DL.ev_or
  | with_reducible apply DL.ev_notV | with_reducible apply DL.ev_neg | with_reducible apply DL.ev_if | with_reducible apply DL.ev_chain
  | with_reducible apply DL.ev_fz | with_reducible apply DL.ev_star | with_reducible apply DL.ev_tup | with_reducible apply DL.ev_lst
  | exact DL.ec_len rfl | exact DL.ec_tuple rfl | exact DL.ecn_list rfl | exact DL.ec_int | exact DL.ec_intB | exact DL.ec_abs | exact DL.ec_max2 | exact DL.ec_min2 | exact DL.ec_sumM | exact DL.ec_allM | exact DL.ec_anyM
  | exact DL.eo_none | with_reducible apply DL.eo_some | with_reducible apply DL.ev_slT | with_reducible apply DL.ev_slL | with_reducible apply DL.ev_cat | with_reducible apply DL.ev_rep | with_reducible apply DL.ev_isi
  | with_reducible apply DL.ev_ixO | exact DL.ev_lenO rfl | exact DL.eg_n | with_reducible apply DL.eg_t | exact DL.egs_n | with_reducible apply DL.egs_c
  | with_reducible apply DL.ei_seq | with_reducible apply DL.ei_zip | with_reducible apply DL.ei_enum | with_reducible apply DL.ei_rng1 | with_reducible apply DL.ei_rng2
  | with_reducible apply DL.ev_callP | exact DL.eb_nil | with_reducible apply DL.eb_val | with_reducible apply DL.eb_own
  | with_reducible apply DL.ex_set | with_reducible apply DL.ex_setN | with_reducible apply DL.ex_asg | with_reducible apply DL.ex_exp | with_reducible apply DL.ex_par | with_reducible apply DL.ex_par3 | with_reducible apply DL.ex_unp | with_reducible apply DL.ex_app | with_reducible apply DL.ex_ext | with_reducible apply DL.ex_fld | exact DL.ex_next
  | exact rfl | decide | intro _))
local macro_rules | `(tactic| walk_at "c") => `(tactic| fail)
local macro_rules | `(tactic| walk_at "s") => `(tactic| first
  | with_reducible apply DL.es_one | with_reducible (apply DL.es_stop (DL.es_ret ?_ ?_)) | with_reducible apply DL.es_if | with_reducible apply DL.es_ret | with_reducible apply DL.es_seq)
section
variable {P : Program} {w : World} {K : PySem.W.Frag} {mg : Str → Option Value} {base : Heap} {A : AD} {wn : WN} {ρ ρ1 : DL.Env}
theorem deq_int (a b : Int) : deq (.int a) (.int b) = decide (a = b) := rfl
/-! ### values -/
def isIntD : D → Bool
  | .int _ => true
  | _ => false
def isSeqD : D → Bool
  | .tup _ => true
  | .lst _ => true
  | _ => false
def noO (d : D) : Prop := isObj d = none
def optD : Option Int → D
  | none => .non
  | some i => .int i
def geO (lo : Option Int) (i : Int) : Bool := match lo with
  | none => true
  | some l => decide (l ≤ i)
def leO (hi : Option Int) (i : Int) : Bool := match hi with
  | none => true
  | some h => decide (i ≤ h)
def within (d : D) (lo hi : Option Int) : Bool := match d with
  | .int i => geO lo i && leO hi i
  | _ => false
def isRowD (d : D) (n : Int) : Bool := match items d with
  | some l => decide ((l.length : Int) = n)
  | none => false
def R_is_integer (ds : List D) (r : D) : Prop := ∃ d, ds = [d] ∧ noO d ∧ r = .bl (isIntD d)
def R_is_within (ds : List D) (r : D) : Prop := ∃ d lo hi, ds = [d, optD lo, optD hi] ∧ noO d ∧ r = .bl (within d lo hi)
def R_is_listed (ds : List D) (r : D) : Prop := ∃ d, ds = [d] ∧ noO d ∧ r = .bl (isSeqD d)
def R_is_row (ds : List D) (r : D) : Prop := ∃ d n, ds = [d, .int n] ∧ noO d ∧ r = .bl (isRowD d n)
theorem ev_is_integer {d : D} (h : EvN wn ρ ρ1 [d]) (hn : noO d) : Ev (wCall 1 (wfP R_is_integer) [] wn) ρ ρ1 (.bl (isIntD d)) := ev_callP h rfl ⟨d, rfl, hn, rfl⟩
theorem ev_is_within {d : D} {lo hi : Option Int} (h : EvN wn ρ ρ1 [d, optD lo, optD hi]) (hn : noO d) : Ev (wCall 3 (wfP R_is_within) [] wn) ρ ρ1 (.bl (within d lo hi)) := ev_callP h rfl ⟨d, lo, hi, rfl, hn, rfl⟩
theorem ev_is_listed {d : D} (h : EvN wn ρ ρ1 [d]) (hn : noO d) : Ev (wCall 1 (wfP R_is_listed) [] wn) ρ ρ1 (.bl (isSeqD d)) := ev_callP h rfl ⟨d, rfl, hn, rfl⟩
theorem ev_is_row {d : D} {n : Int} (h : EvN wn ρ ρ1 [d, .int n]) (hn : noO d) : Ev (wCall 2 (wfP R_is_row) [] wn) ρ ρ1 (.bl (isRowD d n)) := ev_callP h rfl ⟨d, n, rfl, hn, rfl⟩
theorem ok_is_integer (T : Txt K mg A) : FnOk P w K mg base CX0 1 A.a_is_integer A.d_is_integer ["value"] (spOf K 1 (wfP (R_is_integer))) := by
  refine dfnV T.F_is_integer sc_is_integer rfl (fun cdv A_ outer s H E hr => ⟨_, (dss_one (ds_ret (d_and (d_isiT "int" (by rfl) T.b_isinstance (by rfl) T.b_int (by decide +kernel) (dv 0) tInt_ok (by decide +kernel)) (d_one (d_not (d_isiT "bool" (by rfl) T.b_isinstance (by rfl) T.b_bool (by decide +kernel) (dv 0) tBool_ok (by decide +kernel))))))), fun ds d hl hw => ?_⟩)
  obtain ⟨d, rfl, hn, rfl⟩ := hw
  cases d with
  | obj _ _ _ => cases hn
  | _ => walk_at "s" <;> walk_at "e"
local macro_rules | `(tactic| walk_at "c") => `(tactic| first | with_reducible apply ev_is_integer)
theorem ok_is_within (T : Txt K mg A) : FnOk P w K mg base CX0 2 A.a_is_within A.d_is_within ["value", "least", "most"] (spOf K 3 (wfP (R_is_within))) := by
  refine dfnV T.F_is_within sc_is_within rfl (fun cdv A_ outer s H E hr => ⟨_, (dss_one (ds_ret (d_and (d_call (ok_is_integer T) (hr.mono (by decide)) (by rfl) T.m_is_integer T.F_is_integer.kp T.B_is_integer .nil (fun _ => .nil) pass0 (da_cons (dv 0) da_nil)) (d_and (d_or (d_cmp do_isN (dv 1) d_non) (d_one (d_cmp do_ge (dv 0) (dv 1)))) (d_one (d_or (d_cmp do_isN (dv 2) d_non) (d_one (d_cmp do_le (dv 0) (dv 2))))))))), fun ds d hl hw => ?_⟩)
  obtain ⟨d, lo, hi, rfl, hn, rfl⟩ := hw
  cases d with
  | obj _ _ _ => cases hn
  | int i =>
    apply es_ret (ρ1 := startB 3 ([.int i, optD lo, optD hi].map .val))
    · apply ev_andR
      · apply ev_cast (x := .bl (isIntD (.int i))) <;> walk_at "e"
      · apply ev_and (p := geO lo i) (q := leO hi i)
        · cases lo with
          | none => apply ev_orL; walk_at "e"
          | some l => apply ev_orR <;> walk_at "e"
        · intro _
          cases hi with
          | none => apply ev_orL; walk_at "e"
          | some l => apply ev_orR <;> walk_at "e"
    · rfl
  | _ => 
    apply es_ret
    · apply ev_andL; apply ev_cast <;> walk_at "e"
    · rfl
local macro_rules | `(tactic| walk_at "c") => `(tactic| first | with_reducible apply ev_is_within | with_reducible apply ev_is_integer)
theorem ok_is_listed (T : Txt K mg A) : FnOk P w K mg base CX0 1 A.a_is_listed A.d_is_listed ["value"] (spOf K 1 (wfP (R_is_listed))) := by
  refine dfnV T.F_is_listed sc_is_listed rfl (fun cdv A_ outer s H E hr => ⟨_, (dss_one (ds_ret (d_isi2 "list" "tuple" (by rfl) T.b_isinstance (by rfl) T.b_list (by decide +kernel) (by rfl) T.b_tuple (by decide +kernel) (dv 0) tSeq_ok (by decide +kernel)))), fun ds d hl hw => ?_⟩)
  obtain ⟨d, rfl, hn, rfl⟩ := hw
  cases d with
  | obj _ _ _ => cases hn
  | _ => walk_at "s" <;> walk_at "e"
local macro_rules | `(tactic| walk_at "c") => `(tactic| first | with_reducible apply ev_is_listed | with_reducible apply ev_is_within | with_reducible apply ev_is_integer)
theorem ok_is_row (T : Txt K mg A) : FnOk P w K mg base CX0 2 A.a_is_row A.d_is_row ["value", "many"] (spOf K 2 (wfP (R_is_row))) := by
  refine dfnV T.F_is_row sc_is_row rfl (fun cdv A_ outer s H E hr => ⟨_, (dss_one (ds_ret (d_and (d_call (ok_is_listed T) (hr.mono (by decide)) (by rfl) T.m_is_listed T.F_is_listed.kp T.B_is_listed .nil (fun _ => .nil) pass0 (da_cons (dv 0) da_nil)) (d_one (d_cmp (do_eq hr.units) (d_callB dc_len (by rfl) T.b_len (by decide +kernel) (da_cons (dv 0) da_nil)) (dv 1)))))), fun ds d hl hw => ?_⟩)
  obtain ⟨d, n, rfl, hn, rfl⟩ := hw
  cases d with
  | obj _ _ _ => cases hn
  | tup l => walk_at "s" <;> walk_at "e"
  | lst l => walk_at "s" <;> walk_at "e"
  | _ => 
    apply es_ret
    · apply ev_andL; apply ev_cast <;> walk_at "e"
    · rfl
local macro_rules | `(tactic| walk_at "c") => `(tactic| first | with_reducible apply ev_is_row | with_reducible apply ev_is_listed | with_reducible apply ev_is_within | with_reducible apply ev_is_integer)
end
end K28

set_option Elab.async false
set_option linter.all false
set_option maxRecDepth 100000
set_option maxHeartbeats 4000000
namespace K28
open PySem PySem.Spec PyProof.Rows L2 DL
local macro_rules | `(tactic| walk_at "e") => `(tactic| repeat' (first
  | walk_at "c" | exact DL.ev_v rfl | exact DL.ev_vz rfl | exact DL.ev_vzO rfl | exact DL.ev_C | exact DL.ev_nil
  | with_reducible apply DL.ev_op | with_reducible apply DL.ev_cb | with_reducible apply DL.ev_cbn | with_reducible apply DL.ev_cons | with_reducible apply DL.ev_fld
  | exact DL.er_I0 | with_reducible apply DL.er_I | exact DL.er_isN | exact DL.er_notN | with_reducible apply DL.er_eq | with_reducible apply DL.er_ne | with_reducible apply DL.er_ix
  | with_reducible apply DL.ev_tst | with_reducible apply DL.ev_not | with_reducible apply DL.ev_andT | with_reducible apply DL.ev_orT | with_reducible apply DL.ev_and | with_reducible apply DL.ev_or
  | with_reducible apply DL.ev_notV | with_reducible apply DL.ev_neg | with_reducible apply DL.ev_if | with_reducible apply DL.ev_chain
  | with_reducible apply DL.ev_fz | with_reducible apply DL.ev_star | with_reducible apply DL.ev_tup | with_reducible apply DL.ev_lst
  | with_reducible apply DL.ec_len | with_reducible apply DL.ec_tuple | with_reducible apply DL.ecn_list | exact DL.ec_int | exact DL.ec_intB | exact DL.ec_abs | exact DL.ec_max2 | exact DL.ec_min2 | exact DL.ec_sumM | exact DL.ec_allM | exact DL.ec_anyM
  | exact DL.eo_none | with_reducible apply DL.eo_some | with_reducible apply DL.ev_slT | with_reducible apply DL.ev_slL | with_reducible apply DL.ev_cat | with_reducible apply DL.ev_rep | with_reducible apply DL.ev_isi
  | with_reducible apply DL.ev_ixO | exact DL.ev_lenO rfl | exact DL.eg_n | with_reducible apply DL.eg_t | exact DL.egs_n | with_reducible apply DL.egs_c
  | with_reducible apply DL.ei_seq | with_reducible apply DL.ei_zip | with_reducible apply DL.ei_enum | with_reducible apply DL.ei_rng1 | with_reducible apply DL.ei_rng2
  | with_reducible apply DL.ev_callP | exact DL.eb_nil | with_reducible apply DL.eb_val | with_reducible apply DL.eb_own
  | with_reducible apply DL.ex_set | with_reducible apply DL.ex_setN | with_reducible apply DL.ex_asg | with_reducible apply DL.ex_exp | with_reducible apply DL.ex_par | with_reducible apply DL.ex_par3 | with_reducible apply DL.ex_unp | with_reducible apply DL.ex_app | with_reducible apply DL.ex_ext | with_reducible apply DL.ex_fld | exact DL.ex_next | with_reducible apply DL.ex_seq
  | exact rfl | assumption | decide | intro _))
local macro_rules | `(tactic| walk_at "c") => `(tactic| fail)
local macro_rules | `(tactic| walk_at "s") => `(tactic| first
  | with_reducible apply DL.es_one | with_reducible (apply DL.es_stop (DL.es_ret ?_ ?_)) | with_reducible apply DL.es_if | with_reducible apply DL.es_ret | with_reducible apply DL.es_seq)
section
variable {P : Program} {w : World} {K : PySem.W.Frag} {mg : Str → Option Value} {base : Heap} {A : AD} {wn : WN} {ρ ρ1 : DL.Env}
/-! ### rows -/
def inB (m : Int) : D → Bool
  | .int i => decide (0 - m ≤ i) && decide (i ≤ m)
  | _ => false
def isBnd (d : D) (n m : Int) : Bool := match items d with
  | some l => decide ((l.length : Int) = n) && l.all (inB m)
  | none => false
def R_is_bounded (ds : List D) (r : D) : Prop := ∃ d n m, ds = [d, .int n, .int m] ∧ (noO d ∧ ∀ l, items d = some l → ∀ x ∈ l, noO x) ∧ r = .bl (isBnd d n m)
theorem ev_is_bounded {d : D} {n m : Int} (h : EvN wn ρ ρ1 [d, .int n, .int m]) (hn : noO d ∧ ∀ l, items d = some l → ∀ x ∈ l, noO x) : Ev (wCall 3 (wfP R_is_bounded) [] wn) ρ ρ1 (.bl (isBnd d n m)) := ev_callP h rfl ⟨d, n, m, rfl, hn, rfl⟩
local macro_rules | `(tactic| walk_at "c") => `(tactic| first | with_reducible apply ev_is_integer | with_reducible apply ev_is_row | with_reducible apply ev_is_listed | with_reducible apply ev_is_within | with_reducible apply ev_is_integer)
theorem bnd_aux {d : D} {n m : Int} {l : List D} (hi : items d = some l) (hn : noO d ∧ ∀ l, items d = some l → ∀ x ∈ l, noO x) : .bl (isRowD d n && (l.all (inB m))) = D.bl (isBnd d n m) := by
  unfold isRowD isBnd
  rw [hi]
theorem ok_is_bounded (T : Txt K mg A) : FnOk P w K mg base CX0 3 A.a_is_bounded A.d_is_bounded ["value", "length", "most"] (spOf K 3 (wfP (R_is_bounded))) := by
  refine dfnV T.F_is_bounded sc_is_bounded rfl (fun cdv A_ outer s H E hr => ⟨_, (dss_one (ds_ret (d_and (d_call (ok_is_row T) (hr.mono (by decide)) (by rfl) T.m_is_row T.F_is_row.kp T.B_is_row .nil (fun _ => .nil) pass0 (da_cons (dv 0) (da_cons (dv 1) da_nil))) (d_one (d_callB (dc_all rfl) (by rfl) T.b_all (by decide +kernel) (da_cons (dn_e (dn_lc [("one", 3)] rfl sc_is_bounded.nd (di_seq (dv 0)) (show BlkOk ["value", "length", "most", "one"] (defScope s_is_bounded) _ [("one", 3)] from blkOk_by (by decide +kernel)) (by decide) (fun _ _ _ _ _ => (dg_name 3 sc_is_bounded.nd)) (fun _ _ _ _ _ => dts_nil) (fun _ _ _ _ _ => (d_and (d_call (ok_is_integer T) (hr.mono (by decide)) (by rfl) T.m_is_integer T.F_is_integer.kp T.B_is_integer .nil (fun _ => .nil) pass0 (da_cons (dv 3) da_nil)) (d_one (d_chain do_le do_le (d_op do_sub d_int (dv 2)) (dv 3) (dv 2))))))) da_nil)))))), fun ds d hl hw => ?_⟩)
  obtain ⟨d, n, m, rfl, hn, rfl⟩ := hw
  have hel : ∀ l : List D, items d = some l → Ev (wFz (wLc (wSeqI (wv 0)) (List.map (fun x => x.snd) [("one", 3)]) (gN 3) wYes
    (wAnd (wCall 1 (wfP R_is_integer) [] (wCons (wv 3) wNil)) (wChain (wI0 fun i j => D.bl (decide (i ≤ j))) (wI0 fun i j => D.bl (decide (i ≤ j))) (wOp (wI0 fun i j => D.int (i - j)) (wC (.int 0)) (wv 2)) (wv 3) (wv 2))))) 
    [.val d, .val (.int n), .val (.int m), .un] [.val d, .val (.int n), .val (.int m), .un] (.lst (l.map fun x => .bl (inB m x))) := fun l hi => by
    apply ev_fz
    apply ev_lc l id
    · exact ei_seq (ev_v rfl) hi
    · exact (List.map_id l).symm
    · rfl
    · intro x hx
      refine ⟨_, eg_n, ?_, rfl⟩
      have hx' := hn.2 l hi x hx
      cases x with
      | obj _ _ _ => cases hx'
      | int i => apply ev_andR <;> (apply ev_cast <;> walk_at "e")
      | _ => apply ev_andL; apply ev_cast <;> walk_at "e"
  have hn' := hn.1
  cases d with
  | obj _ _ _ => cases hn'
  | tup l =>
    apply es_ret
    · apply ev_and
      · walk_at "e"
      · intro _
        apply ev_cb
        · apply ev_cons
          · exact hel l rfl
          · exact ev_nil
        · exact ec_allM
    · exact bnd_aux rfl hn
  | lst l =>
    apply es_ret
    · apply ev_and
      · walk_at "e"
      · intro _
        apply ev_cb
        · apply ev_cons
          · exact hel l rfl
          · exact ev_nil
        · exact ec_allM
    · exact bnd_aux rfl hn
  | _ =>
    apply es_ret
    · apply ev_andL; apply ev_cast <;> walk_at "e"
    · rfl
local macro_rules | `(tactic| walk_at "c") => `(tactic| first | with_reducible apply ev_is_bounded | with_reducible apply ev_is_integer | with_reducible apply ev_is_row | with_reducible apply ev_is_listed | with_reducible apply ev_is_within | with_reducible apply ev_is_integer)
/-! ### heads -/
def Row (d : D) (r : List Int) : Prop := items d = some (r.map .int) ∧ noO d
def Rows (d : D) (S : List (List Int)) : Prop := noO d ∧ ∃ xs : List (D × List Int), items d = some (xs.map Prod.fst) ∧ S = xs.map Prod.snd ∧ ∀ x ∈ xs, Row x.1 x.2
def bndR (r : List Int) (n : Nat) (m : Int) : Prop := r.length = n ∧ ∀ i ∈ r, -m ≤ i ∧ i ≤ m
theorem noO_ints {r : List Int} {d : D} (h : items d = some (r.map .int)) : ∀ l, items d = some l → ∀ x ∈ l, noO x := fun l hl x hx => by
  rw [h] at hl
  cases hl
  rw [List.mem_map] at hx
  obtain ⟨i, _, rfl⟩ := hx
  rfl
theorem Row.nn {d : D} {r : List Int} (h : Row d r) : noO d ∧ ∀ l, items d = some l → ∀ x ∈ l, noO x := ⟨h.2, noO_ints h.1⟩
theorem Row.bnd {d : D} {r : List Int} {n : Nat} {m : Int} (h : Row d r) (b : bndR r n m) : isBnd d (n : Int) m = true := by
  unfold isBnd
  rw [h.1]
  simp only [List.length_map, Bool.and_eq_true, decide_eq_true_eq, List.all_map, List.all_eq_true, Function.comp, inB]
  refine ⟨by rw [b.1], fun i hi => ?_⟩
  have := b.2 i hi
  exact ⟨by omega, by omega⟩
theorem Row.seq {d : D} {r : List Int} (h : Row d r) : isSeqD d = true := by
  obtain ⟨h, _⟩ := h
  cases d <;> first | rfl | cases h
theorem Rows.seq {d : D} {S : List (List Int)} (h : Rows d S) : isSeqD d = true := by
  obtain ⟨_, xs, h, _⟩ := h
  cases d <;> first | rfl | cases h
def rowT (r : List Int) : D := .tup (r.map .int)
def okH (S : List (List Int)) (N : List Int) : Prop := 1 ≤ S.length ∧ S.length ≤ 4 ∧ (∀ r ∈ S, bndR r S.length 999) ∧ bndR N S.length 999
structure Hd where
  S : List (List Int)
  N : List Int
  late : Bool
  strict : Bool
def Hd.fl (h : Hd) : List D := [.tup (h.S.map rowT), rowT h.N, .bl h.late, .bl h.strict, .int (h.N.length : Nat)]
def R_Head_init (ds fl : List D) : Prop := ∃ sc nn, ∃ h : Hd, ds = [sc, nn, .bl h.late, .bl h.strict] ∧ Rows sc h.S ∧ Row nn h.N ∧ okH h.S h.N ∧ fl = h.fl
theorem ok_Head_init (T : Txt K mg A) : FnOk P w K mg base CX0 4 A.a_Head_init A.d_Head_init ["self", "scores", "none", "late", "strict"] (spOf K 5 (wfM A.c_Head ns_Head (R_Head_init))) := by
  refine dfnM T.F_Head_init sc_Head_init rfl (fun cdv A_ outer s H E hr => ⟨_, (dss_cons (ds_if ((dw_or (dt_not (dt_val (d_call (ok_is_listed T) (hr.mono (by decide)) (by rfl) T.m_is_listed T.F_is_listed.kp T.B_is_listed .nil (fun _ => .nil) pass0 (da_cons (dv 1) da_nil)))) (dw_or1 (dt_not (dt_chain do_le do_le d_int (d_callB dc_len (by rfl) T.b_len (by decide +kernel) (da_cons (dv 1) da_nil)) (d_gI (by rfl) T.g_MOST_LENGTH)))))).dt dss_never dss_nil)
      (dss_cons (ds_if (dt_not (dt_val (d_callB (dc_all rfl) (by rfl) T.b_all (by decide +kernel) (da_cons (dn_e (dn_lc [("row", 5)] rfl sc_Head_init.nd (di_seq (dv 1)) (show BlkOk ["self", "scores", "none", "late", "strict", "row"] (defScope s_Head_init) _ [("row", 5)] from blkOk_by (by decide +kernel)) (by decide) (fun _ _ _ _ _ => (dg_name 5 sc_Head_init.nd)) (fun _ _ _ _ _ => dts_nil) (fun _ _ _ _ _ => (d_call (ok_is_bounded T) (hr.mono (by decide)) (by rfl) T.m_is_bounded T.F_is_bounded.kp T.B_is_bounded .nil (fun _ => .nil) pass0 (da_cons (dv 5) (da_cons (d_callB dc_len (by rfl) T.b_len (by decide +kernel) (da_cons (dv 1) da_nil)) (da_cons (d_gI (by rfl) T.g_MOST_NUMBER) da_nil))))))) da_nil)))) dss_never dss_nil)
      (dss_cons (ds_if (dt_not (dt_val (d_call (ok_is_bounded T) (hr.mono (by decide)) (by rfl) T.m_is_bounded T.F_is_bounded.kp T.B_is_bounded .nil (fun _ => .nil) pass0 (da_cons (dv 2) (da_cons (d_callB dc_len (by rfl) T.b_len (by decide +kernel) (da_cons (dv 1) da_nil)) (da_cons (d_gI (by rfl) T.g_MOST_NUMBER) da_nil)))))) dss_never dss_nil)
      (dss_cons (ds_if (dt_not (dt_val (d_isiT "bool" (by rfl) T.b_isinstance (by rfl) T.b_bool (by decide +kernel) (dv 3) tBool_ok (by decide +kernel)))) dss_never dss_nil)
      (dss_cons (ds_if (dt_not (dt_val (d_isiT "bool" (by rfl) T.b_isinstance (by rfl) T.b_bool (by decide +kernel) (dv 4) tBool_ok (by decide +kernel)))) dss_never dss_nil)
      (dss_cons (ds_fldC 0 T.cl_Head T.n_Head_scores (d_callT dc_tuple (by rfl) T.b_tuple (by decide +kernel) (da_cons (dn_e (dn_lc [("row", 5)] rfl sc_Head_init.nd (di_seq (dv 1)) (show BlkOk ["self", "scores", "none", "late", "strict", "row"] (defScope s_Head_init) _ [("row", 5)] from blkOk_by (by decide +kernel)) (by decide) (fun _ _ _ _ _ => (dg_name 5 sc_Head_init.nd)) (fun _ _ _ _ _ => dts_nil) (fun _ _ _ _ _ => (d_callT dc_tuple (by rfl) T.b_tuple (by decide +kernel) (da_cons (dv 5) da_nil))))) da_nil)))
      (dss_cons (ds_fldC 0 T.cl_Head T.n_Head_none (d_callT dc_tuple (by rfl) T.b_tuple (by decide +kernel) (da_cons (dv 2) da_nil)))
      (dss_cons (ds_fldC 0 T.cl_Head T.n_Head_late (dv 3))
      (dss_cons (ds_fldC 0 T.cl_Head T.n_Head_strict (dv 4))
      (dss_one (ds_fldC 0 T.cl_Head T.n_Head_length (d_callB dc_len (by rfl) T.b_len (by decide +kernel) (da_cons (dv 2) da_nil))))))))))))), fun p ds fl hl hw => ?_⟩)
  obtain ⟨sc, nn, h, rfl, hS, hN, ok, rfl⟩ := hw
  obtain ⟨xs, hi, hx, hr'⟩ := hS.2
  have hn := hS.1
  have hsq := hS.seq
  have h0 := hN.nn
  have hN1 := hN.1

  apply Exists.intro
  apply And.intro
  · apply ex_seq
    · apply ex_if0
      · apply evT_cast
        · walk_at "e"
        · rw [hsq, List.length_map, ← List.length_map (f := Prod.snd), ← hx]
          have h1 := ok.1
          have h2 := ok.2.1
          simp
          omega
      · exact ex_next
    apply ex_seq
    · apply ex_if0
      · apply evT_cast
        · apply ev_not
          apply ev_tst
          apply ev_cb
          · apply ev_cons
            · apply ev_fz
              apply ev_lc xs Prod.fst (fun x => .bl (isBnd x.1 h.S.length 999))
              · exact ei_seq (ev_v rfl) hi
              · rfl
              · rfl
              · intro x hx1
                refine ⟨_, eg_n, ?_, rfl⟩
                apply ev_cast
                · walk_at "e"
                  exact (hr' x hx1).nn
                · rw [List.length_map, ← List.length_map (f := Prod.snd), ← hx]
            · exact ev_nil
          · exact ec_allM
        · simp only [Bool.not_eq_false', List.all_eq_true]
          intro x hx1
          exact (hr' x hx1).bnd (ok.2.2.1 x.2 (by rw [hx]; exact List.mem_map_of_mem hx1))
      · exact ex_next
    apply ex_seq
    · apply ex_if0
      · apply evT_cast
        · walk_at "e"
        · rw [List.length_map, ← List.length_map (f := Prod.snd), ← hx, hN.bnd ok.2.2.2]
          rfl
      · exact ex_next
    apply ex_seq
    · apply ex_if0
      · apply evT_cast
        · walk_at "e"
        · rfl
      · exact ex_next
    apply ex_seq
    · apply ex_if0
      · apply evT_cast
        · walk_at "e"
        · rfl
      · exact ex_next
    apply ex_seq
    · apply ex_fld (x := .tup (h.S.map rowT))
      · apply ev_cb
        · apply ev_cons
          · apply ev_fz
            apply ev_lc xs Prod.fst (fun x => rowT x.2)
            · exact ei_seq (ev_v rfl) hi
            · rfl
            · rfl
            · intro x hx1
              have := (hr' x hx1).1
              exact ⟨_, eg_n, ev_cb (ev_cons (ev_v rfl) ev_nil) (ec_tuple this), rfl⟩
          · exact ev_nil
        · rw [hx, List.map_map]
          exact ec_tuple rfl
      · exact rfl
      · decide
      · decide
    apply ex_seq
    · apply ex_fld (x := rowT h.N)
      · exact ev_cb (ev_cons (ev_v rfl) ev_nil) (ec_tuple hN1)
      · exact rfl
      · decide
      · decide
    walk_at "e"
  · refine ⟨⟨rfl, trivial, trivial, trivial, trivial, trivial⟩, ?_⟩
    have : (List.map D.int h.N).length = h.N.length := List.length_map _
    simp only [Hd.fl, ← this]
    rfl
end
end K28

set_option Elab.async false
set_option linter.all false
set_option maxRecDepth 100000
set_option maxHeartbeats 4000000
namespace K28
open PySem PySem.Spec PyProof.Rows L2 DL
local macro_rules | `(tactic| walk_at "e") => `(tactic| repeat' (first
  | walk_at "c" | exact DL.ev_v rfl | exact DL.ev_vz rfl | exact DL.ev_vzO rfl | exact DL.ev_C | exact DL.ev_nil
  | with_reducible apply DL.ev_op | with_reducible apply DL.ev_cb | with_reducible apply DL.ev_cbn | with_reducible apply DL.ev_cons | with_reducible apply DL.ev_fld
  | exact DL.er_I0 | with_reducible apply DL.er_I | exact DL.er_isN | exact DL.er_notN | with_reducible apply DL.er_eq | with_reducible apply DL.er_ne | with_reducible apply DL.er_ix
  | with_reducible apply DL.ev_tst | with_reducible apply DL.ev_not | with_reducible apply DL.ev_andT | with_reducible apply DL.ev_orT | with_reducible apply DL.ev_and | with_reducible apply DL.ev_or
  | with_reducible apply DL.ev_notV | with_reducible apply DL.ev_neg | with_reducible apply DL.ev_if | with_reducible apply DL.ev_chain
  | with_reducible apply DL.ev_fz | with_reducible apply DL.ev_star | with_reducible apply DL.ev_tup | with_reducible apply DL.ev_lst
  | with_reducible apply DL.ec_len | with_reducible apply DL.ec_tuple | with_reducible apply DL.ecn_list | exact DL.ec_int | exact DL.ec_intB | exact DL.ec_abs | exact DL.ec_max2 | exact DL.ec_min2 | exact DL.ec_sumM | exact DL.ec_allM | exact DL.ec_anyM
  | exact DL.eo_none | with_reducible apply DL.eo_some | with_reducible apply DL.ev_slT | with_reducible apply DL.ev_slL | with_reducible apply DL.ev_cat | with_reducible apply DL.ev_rep | with_reducible apply DL.ev_isi
  | with_reducible apply DL.ev_ixO | exact DL.ev_lenO rfl | exact DL.eg_n | with_reducible apply DL.eg_t | exact DL.egs_n | with_reducible apply DL.egs_c
  | with_reducible apply DL.ei_seq | with_reducible apply DL.ei_zip | with_reducible apply DL.ei_enum | with_reducible apply DL.ei_rng1 | with_reducible apply DL.ei_rng2
  | with_reducible apply DL.ev_callP | exact DL.eb_nil | with_reducible apply DL.eb_val | with_reducible apply DL.eb_own
  | with_reducible apply DL.ex_set | with_reducible apply DL.ex_setN | with_reducible apply DL.ex_asg | with_reducible apply DL.ex_exp | with_reducible apply DL.ex_par | with_reducible apply DL.ex_par3 | with_reducible apply DL.ex_unp | with_reducible apply DL.ex_app | with_reducible apply DL.ex_ext | with_reducible apply DL.ex_fld | exact DL.ex_next | with_reducible apply DL.ex_seq
  | exact rfl | assumption | decide | intro _))
local macro_rules | `(tactic| walk_at "c") => `(tactic| fail)
local macro_rules | `(tactic| walk_at "s") => `(tactic| first
  | with_reducible apply DL.es_one | with_reducible (apply DL.es_stop (DL.es_ret ?_ ?_)) | with_reducible apply DL.es_if | with_reducible apply DL.es_ret | with_reducible apply DL.es_seq)
section
variable {P : Program} {w : World} {K : PySem.W.Frag} {mg : Str → Option Value} {base : Heap} {A : AD} {wn : WN} {ρ ρ1 : DL.Env}
def encH (A : AD) (h : Hd) : D := .obj A.c_Head ns_Head h.fl
def Sml (r : List Int) : Prop := ∀ x ∈ r, -(2 ^ 64) < x ∧ x < 2 ^ 64
def scoreOf (S : List (List Int)) (row other : List Int) : Int := ((row.zip S).map fun p => (p.2.zip other).map fun q => p.1 * q.1 * q.2).flatten.sum
def R_score_of (A : AD) (ds : List D) (r : D) : Prop := ∃ (h : Hd) (row other : List Int), ds = [encH A h, rowT row, rowT other] ∧ (Sml row ∧ Sml other ∧ row.length ≤ 4 ∧ other.length ≤ 4) ∧ r = .int (scoreOf h.S row other)
theorem ev_score_of {h : Hd} {row other : List Int} (hh : EvN wn ρ ρ1 [encH A h, rowT row, rowT other]) (hn : Sml row ∧ Sml other ∧ row.length ≤ 4 ∧ other.length ≤ 4) : Ev (wCall 3 (wfP (R_score_of A)) [] wn) ρ ρ1 (.int (scoreOf h.S row other)) := ev_callP hh rfl ⟨h, row, other, rfl, hn, rfl⟩
theorem intsOf_app {l m : List D} {a b : List Int} (h : intsOf l = some a) (h2 : intsOf m = some b) : intsOf (l ++ m) = some (a ++ b) := by
  induction l generalizing a with
  | nil => cases h; exact h2
  | cons x r ih =>
    cases x with
    | int i =>
      simp only [intsOf, Option.map_eq_some_iff] at h
      obtain ⟨c, hc, rfl⟩ := h
      simp only [List.cons_append, intsOf, ih hc, Option.map_some]
    | _ => cases h
theorem intsOf_flat {α β : Type} (xs : List α) (ys : α → List β) (f : α → β → Int) : intsOf (xs.map fun x => (ys x).map fun y => .int (f x y)).flatten = some (xs.map fun x => (ys x).map (f x)).flatten := by
  induction xs with
  | nil => rfl
  | cons x r ih =>
    simp only [List.map_cons, List.flatten_cons]
    exact intsOf_app (intsOf_mapF (f x) (ys x)) ih
theorem ok_score_of (T : Txt K mg A) : FnOk P w K mg base CX0 1 A.a_score_of A.d_score_of ["head", "row", "other"] (spOf K 3 (wfP (R_score_of A))) := by
  refine dfnV T.F_score_of sc_score_of rfl (fun cdv A_ outer s H E hr => ⟨_, (dss_one (ds_ret (d_callB (dc_sum rfl) (by rfl) T.b_sum (by decide +kernel) (da_cons (dn_e (dn_lc2 [("mine", 3), ("line", 4), ("told", 5), ("its", 6)] [5, 6] rfl sc_score_of.nd (di_zip (by rfl) T.b_zip (da_cons (dv 1) (da_cons (d_fld (ns := ns_Head) (j := 0) T.cl_Head T.n_Head_scores (by decide +kernel) (dv 0)) da_nil))) (show BlkOk ["head", "row", "other", "mine", "line", "told", "its"] (defScope s_score_of) _ [("mine", 3), ("line", 4), ("told", 5), ("its", 6)] from blkOk_by (by decide +kernel)) (by decide) (by decide) (by decide) (fun _ _ _ _ _ => (dg_tup (n := 2) rfl (dgs_cons (dg_name 3 sc_score_of.nd) (dgs_cons (dg_name 4 sc_score_of.nd) dgs_nil)))) (fun _ _ _ _ _ => dts_nil) (fun _ _ _ _ _ => (di_zip (by rfl) T.b_zip (da_cons (dv 4) (da_cons (dv 2) da_nil)))) (fun _ _ _ _ _ => (dg_tup (n := 2) rfl (dgs_cons (dg_name 5 sc_score_of.nd) (dgs_cons (dg_name 6 sc_score_of.nd) dgs_nil)))) (fun _ _ _ _ _ => dts_nil) (fun _ _ _ _ _ => (d_op do_mul (d_op do_mul (dv 3) (dv 5)) (dv 6))))) da_nil)))), fun ds d hl hw => ?_⟩)
  obtain ⟨h, row, other, rfl, ⟨s1, s2, l1, l2⟩, rfl⟩ := hw
  apply es_ret
  · apply ev_cb
    · apply ev_cons
      · apply ev_fz
        apply ev_lc2 (row.zip h.S) (fun p => .tup [.int p.1, rowT p.2]) (fun p => p.2.zip other) (fun q => .tup [.int q.1, .int q.2]) (fun p q => .int (p.1 * q.1 * q.2))
        · apply ei_zip
          · walk_at "e"
          · exact rfl
          · exact rfl
        · exact zipD_map _ _ _ _
        · rfl
        · have e : ∀ l : List (Int × List Int), (l.map fun p => (p.2.zip other).length).sum ≤ l.length * 4 := fun l => by
            induction l with
            | nil => simp
            | cons z r ih =>
              have : (z.2.zip other).length ≤ 4 := by rw [List.length_zip]; omega
              simp only [List.map_cons, List.sum_cons, List.length_cons]
              omega
          have e1 := e (row.zip h.S)
          have e2 : (row.zip h.S).length ≤ 4 := by rw [List.length_zip]; omega
          omega
        · intro x hx
          refine ⟨_, eg_t rfl (egs_c eg_n (egs_c eg_n egs_n)), ?_, rfl, rfl, ?_⟩
          · rw [← zipD_map]
            apply ei_zip
            · walk_at "e"
            · exact rfl
            · exact rfl
          · intro y hy
            refine ⟨_, eg_t rfl (egs_c eg_n (egs_c eg_n egs_n)), ?_, rfl⟩
            have h1 := s1 x.1 (List.of_mem_zip hx).1
            have h2 := s2 y.2 (List.of_mem_zip hy).2
            walk_at "e"
            · exact .inl h1
            · exact .inr h2
      · exact ev_nil
    · exact ec_sum (intsOf_flat _ _ _)
  · rfl
local macro_rules | `(tactic| walk_at "c") => `(tactic| first | with_reducible apply ev_score_of | with_reducible apply ev_is_bounded | with_reducible apply ev_is_row | with_reducible apply ev_is_listed | with_reducible apply ev_is_within | with_reducible apply ev_is_integer)
/-! ### best_of -/
def bestStep (h : Hd) (row : List Int) (st : Option (Nat × Int)) (p : List Int × Nat) : Option (Nat × Int) := match st with
  | none => some (p.2, scoreOf h.S row p.1)
  | some (a, m) => if decide (m < scoreOf h.S row p.1) || (decide (scoreOf h.S row p.1 = m) && h.late) then some (p.2, scoreOf h.S row p.1) else some (a, m)
def bestRun (h : Hd) (row : List Int) (os : List (List Int)) : Option (Nat × Int) := os.zipIdx.foldl (bestStep h row) none
def bestOf (h : Hd) (row : List Int) (os : List (List Int)) : Option Nat := (bestRun h row os).map Prod.fst
def optN : Option Nat → D
  | none => .non
  | some k => .int (k : Nat)
def fstD (st : Option (Nat × Int)) : D := optN (st.map Prod.fst)
def sndD : Option (Nat × Int) → D
  | none => .non
  | some p => .int p.2
def R_best_of (A : AD) (ds : List D) (r : D) : Prop := ∃ (h : Hd) (row : List Int) (od : D) (os : List (List Int)), ds = [encH A h, rowT row, od] ∧ (items od = some (os.map rowT) ∧ Sml row ∧ row.length ≤ 4 ∧ ∀ o ∈ os, Sml o ∧ o.length ≤ 4) ∧ r = optN (bestOf h row os)
theorem ev_best_of {h : Hd} {row : List Int} {od : D} {os : List (List Int)} (hh : EvN wn ρ ρ1 [encH A h, rowT row, od]) (hn : items od = some (os.map rowT) ∧ Sml row ∧ row.length ≤ 4 ∧ ∀ o ∈ os, Sml o ∧ o.length ≤ 4) : Ev (wCall 3 (wfP (R_best_of A)) [] wn) ρ ρ1 (optN (bestOf h row os)) := ev_callP hh rfl ⟨h, row, od, os, rfl, hn, rfl⟩
theorem ok_best_of (T : Txt K mg A) : FnOk P w K mg base CX0 2 A.a_best_of A.d_best_of ["head", "row", "others"] (spOf K 3 (wfP (R_best_of A))) := by
  refine dfnV T.F_best_of sc_best_of rfl (fun cdv A_ outer s H E hr => ⟨_, (dss_cons (ds_unp rfl (dns_cons 3 sc_best_of.nd (dns_cons 4 sc_best_of.nd dns_nil)) (dao_val d_non (dao_val d_non dao_nil)))
      (dss_cons (ds_for PassesOwn.never rfl (di_enum (by rfl) T.b_enumerate (da_cons (dv 2) da_nil)) (dg_tup (n := 2) rfl (dgs_cons (dg_name 5 sc_best_of.nd) (dgs_cons (dg_name 6 sc_best_of.nd) dgs_nil)))
      (dss_cons (ds_set 7 sc_best_of.nd (d_call (ok_score_of T) (hr.mono (by decide)) (by rfl) T.m_score_of T.F_score_of.kp T.B_score_of .nil (fun _ => .nil) pass0 (da_cons (dv 0) (da_cons (dv 1) (da_cons (dv 6) da_nil)))))
      (dss_one (ds_if ((dw_or (dt_cmp do_isN (dv 3) d_non) (dw_or (dt_cmp do_gt (dv 7) (dv 4)) (dw_or1 ((dw_and (dt_cmp (do_eq hr.units) (dv 7) (dv 4)) (dw_and1 (dt_val (d_fld (ns := ns_Head) (j := 2) T.cl_Head T.n_Head_late (by decide +kernel) (dv 0)))))).dt)))).dt (dss_one (ds_par 3 4 rfl sc_best_of.nd (dao_val (dv 5) (dao_val (dv 7) dao_nil)))) dss_nil))))
      (dss_one (ds_ret (dv 3))))), fun ds d hl hw => ?_⟩)
  obtain ⟨h, row, od, os, rfl, ⟨hi, s1, l1, ho⟩, rfl⟩ := hw
  apply es_seq
  · walk_at "e"
  apply es_for (fun i ρ => ∃ x y z, ρ = [.val (encH A h), .val (rowT row), .val od, .val (fstD ((os.zipIdx.take i).foldl (bestStep h row) none)), .val (sndD ((os.zipIdx.take i).foldl (bestStep h row) none)), x, y, z])
  · apply ei_enum
    · walk_at "e"
    · exact hi
  · exact ⟨_, _, _, rfl⟩
  · rw [enumD_map]
    intro i e ρ he hI
    obtain ⟨x, y, z, rfl⟩ := hI
    rw [List.getElem?_map, Option.map_eq_some_iff] at he
    obtain ⟨q, hq, rfl⟩ := he
    have hq1 : q.1 ∈ os := by
      have := List.mem_of_getElem? hq
      exact (List.mem_zipIdx' this).2 ▸ List.getElem_mem _
    have ho1 := ho _ hq1
    rw [take_snoc hq, List.foldl_append]
    generalize (os.zipIdx.take i).foldl (bestStep h row) none = st
    cases st with
    | none =>
      apply Exists.intro
      apply Exists.intro
      apply And.intro
      · exact eg_t rfl (egs_c eg_n (egs_c eg_n egs_n))
      apply And.intro
      · apply ex_seq
        · walk_at "e"
          exact ⟨s1, ho1.1, l1, ho1.2⟩
        · apply ex_if1
          · apply ev_orTL
            apply evT_cast <;> walk_at "e"
          · walk_at "e"
      · exact ⟨_, _, _, rfl⟩
    | some am =>
      apply Exists.intro
      apply Exists.intro
      apply And.intro
      · exact eg_t rfl (egs_c eg_n (egs_c eg_n egs_n))
      apply And.intro
      · apply ex_seq
        · walk_at "e"
          exact ⟨s1, ho1.1, l1, ho1.2⟩
        · apply ex_branch
          · apply evT_cast (q := decide (am.2 < scoreOf h.S row q.1) || (decide (scoreOf h.S row q.1 = am.2) && h.late))
            · walk_at "e"
            · rfl
          · walk_at "e"
          · walk_at "e"
      · cases hc : (decide (am.2 < scoreOf h.S row q.1) || (decide (scoreOf h.S row q.1 = am.2) && h.late)) with
        | true =>
          refine ⟨.val (.int (q.2 : Nat)), .val (rowT q.1), .val (.int (scoreOf h.S row q.1)), ?_⟩
          simp only [List.foldl, bestStep, hc]
          rfl
        | false =>
          refine ⟨.val (.int (q.2 : Nat)), .val (rowT q.1), .val (.int (scoreOf h.S row q.1)), ?_⟩
          simp only [List.foldl, bestStep, hc]
          rfl
  · rw [enumD_map]
    intro ρ hI
    obtain ⟨x, y, z, rfl⟩ := hI
    apply es_ret
    · exact ev_v rfl
    · rw [List.length_map, List.take_length]
      rfl
local macro_rules | `(tactic| walk_at "c") => `(tactic| first | with_reducible apply ev_best_of | with_reducible apply ev_score_of | with_reducible apply ev_is_bounded | with_reducible apply ev_is_row | with_reducible apply ev_is_listed | with_reducible apply ev_is_within | with_reducible apply ev_is_integer)
end
end K28

set_option Elab.async false
set_option linter.all false
set_option maxRecDepth 100000
set_option maxHeartbeats 4000000
namespace K28
open PySem PySem.Spec PyProof.Rows L2 DL
local macro_rules | `(tactic| walk_at "e") => `(tactic| repeat' (first
  | walk_at "c" | exact DL.ev_v rfl | exact DL.ev_vz rfl | exact DL.ev_vzO rfl | exact DL.ev_C | exact DL.ev_nil
  | with_reducible apply DL.ev_op | with_reducible apply DL.ev_cb | with_reducible apply DL.ev_cbn | with_reducible apply DL.ev_cons | with_reducible apply DL.ev_fld
  | exact DL.er_I0 | with_reducible apply DL.er_I | exact DL.er_isN | exact DL.er_notN | with_reducible apply DL.er_eq | with_reducible apply DL.er_ne | with_reducible apply DL.er_ix
  | with_reducible apply DL.ev_tst | with_reducible apply DL.ev_not | with_reducible apply DL.ev_andT | with_reducible apply DL.ev_orT | with_reducible apply DL.ev_and | with_reducible apply DL.ev_or
  | with_reducible apply DL.ev_notV | with_reducible apply DL.ev_neg | with_reducible apply DL.ev_if | with_reducible apply DL.ev_chain
  | with_reducible apply DL.ev_fz | with_reducible apply DL.ev_star | with_reducible apply DL.ev_tup | with_reducible apply DL.ev_lst
  | with_reducible apply DL.ec_len | with_reducible apply DL.ec_tuple | with_reducible apply DL.ecn_list | exact DL.ec_int | exact DL.ec_intB | exact DL.ec_abs | exact DL.ec_max2 | exact DL.ec_min2 | exact DL.ec_sumM | exact DL.ec_allM | exact DL.ec_anyM
  | exact DL.eo_none | with_reducible apply DL.eo_some | with_reducible apply DL.ev_slT | with_reducible apply DL.ev_slL | with_reducible apply DL.ev_cat | with_reducible apply DL.ev_rep | with_reducible apply DL.ev_isi
  | with_reducible apply DL.ev_ixO | exact DL.ev_lenO rfl | exact DL.eg_n | with_reducible apply DL.eg_t | exact DL.egs_n | with_reducible apply DL.egs_c
  | with_reducible apply DL.ei_seq | with_reducible apply DL.ei_zip | with_reducible apply DL.ei_enum | with_reducible apply DL.ei_rng1 | with_reducible apply DL.ei_rng2
  | with_reducible apply DL.ev_callP | exact DL.eb_nil | with_reducible apply DL.eb_val | with_reducible apply DL.eb_own
  | with_reducible apply DL.ex_set | with_reducible apply DL.ex_setN | with_reducible apply DL.ex_asg | with_reducible apply DL.ex_exp | with_reducible apply DL.ex_par | with_reducible apply DL.ex_par3 | with_reducible apply DL.ex_unp | with_reducible apply DL.ex_app | with_reducible apply DL.ex_ext | with_reducible apply DL.ex_fld | exact DL.ex_next | with_reducible apply DL.ex_seq
  | exact rfl | assumption | decide | intro _))
local macro_rules | `(tactic| walk_at "c") => `(tactic| first | with_reducible apply ev_is_table | with_reducible apply ev_are_heads | with_reducible apply ev_best_of | with_reducible apply ev_score_of | with_reducible apply ev_is_bounded | with_reducible apply ev_is_row | with_reducible apply ev_is_listed | with_reducible apply ev_is_within | with_reducible apply ev_is_integer)
local macro_rules | `(tactic| walk_at "s") => `(tactic| first
  | with_reducible apply DL.es_one | with_reducible (apply DL.es_stop (DL.es_ret ?_ ?_)) | with_reducible apply DL.es_if | with_reducible apply DL.es_ret | with_reducible apply DL.es_seq)
section
variable {P : Program} {w : World} {K : PySem.W.Frag} {mg : Str → Option Value} {base : Heap} {A : AD} {wn : WN} {ρ ρ1 : DL.Env}
theorem noO_items {d : D} {l : List D} (h : items d = some l) : noO d := by cases d <;> first | rfl | cases h
theorem seq_items {d : D} {l : List D} (h : items d = some l) : isSeqD d = true := by cases d <;> first | rfl | cases h
/-! ### layers -/
def okHs (hs : List Hd) (n : Nat) : Prop := hs.length ≤ 2 ∧ ∀ h ∈ hs, h.N.length = n
def R_are_heads (A : AD) (ds : List D) (r : D) : Prop := ∃ d hs n, ds = [d] ∧ (items d = some (hs.map (encH A)) ∧ okHs hs n) ∧ r = .bl true
theorem ev_are_heads {d : D} {hs : List Hd} {n : Nat} (h : EvN wn ρ ρ1 [d]) (hn : items d = some (hs.map (encH A)) ∧ okHs hs n) : Ev (wCall 1 (wfP (R_are_heads A)) [] wn) ρ ρ1 (.bl true) := ev_callP h rfl ⟨d, hs, n, rfl, hn, rfl⟩
theorem ok_are_heads (T : Txt K mg A) : FnOk P w K mg base CX0 2 A.a_are_heads A.d_are_heads ["value"] (spOf K 1 (wfP (R_are_heads A))) := by
  refine dfnV T.F_are_heads sc_are_heads rfl (fun cdv A_ outer s H E hr => ⟨_, (dss_cons (ds_if ((dw_or (dt_not (dt_val (d_call (ok_is_listed T) (hr.mono (by decide)) (by rfl) T.m_is_listed T.F_is_listed.kp T.B_is_listed .nil (fun _ => .nil) pass0 (da_cons (dv 0) da_nil)))) (dw_or (dt_cmp do_gt (d_callB dc_len (by rfl) T.b_len (by decide +kernel) (da_cons (dv 0) da_nil)) (d_gI (by rfl) T.g_MOST_HEADS)) (dw_or1 (dt_not (dt_val (d_callB (dc_all rfl) (by rfl) T.b_all (by decide +kernel) (da_cons (dn_e (dn_lc [("head", 1)] rfl sc_are_heads.nd (di_seq (dv 0)) (show BlkOk ["value", "head"] (defScope s_are_heads) _ [("head", 1)] from blkOk_by (by decide +kernel)) (by decide) (fun _ _ _ _ _ => (dg_name 1 sc_are_heads.nd)) (fun _ _ _ _ _ => dts_nil) (fun _ _ _ _ _ => (d_isiC _ (by rfl) T.b_isinstance (by rfl) T.m_Head (dv 1) (tOwn_ok T.q_Head) (by decide +kernel))))) da_nil)))))))).dt (dss_one (ds_ret d_bl)) dss_nil)
      (dss_one (ds_ret (d_callB (dc_all rfl) (by rfl) T.b_all (by decide +kernel) (da_cons (dn_e (dn_lc [("head", 1)] rfl sc_are_heads.nd (di_seq (dv 0)) (show BlkOk ["value", "head"] (defScope s_are_heads) _ [("head", 1)] from blkOk_by (by decide +kernel)) (by decide) (fun _ _ _ _ _ => (dg_name 1 sc_are_heads.nd)) (fun _ _ _ _ _ => dts_nil) (fun _ _ _ _ _ => (d_cmp (do_eq hr.units) (d_fld (ns := ns_Head) (j := 4) T.cl_Head T.n_Head_length (by decide +kernel) (dv 1)) (d_fld (ns := ns_Head) (j := 4) T.cl_Head T.n_Head_length (by decide +kernel) (d_ix (dv 0) d_int)))))) da_nil))))), fun ds d hl hw => ?_⟩)
  obtain ⟨d, hs, n, rfl, ⟨hi, ok⟩, rfl⟩ := hw
  have hn := noO_items hi
  apply es_if0
  · apply evT_cast
    · apply ev_orT
      · walk_at "e"
      · intro _
        apply ev_orT
        · walk_at "e"
        · intro _
          apply ev_not
          apply ev_tst
          apply ev_cb
          · apply ev_cons
            · apply ev_fz
              apply ev_lc hs (encH A) (fun _ => .bl true)
              · exact ei_seq (ev_v rfl) hi
              · rfl
              · rfl
              · intro x hx
                refine ⟨_, eg_n, ?_, rfl⟩
                apply ev_isi
                · exact ev_v rfl
                · exact if_pos rfl
            · exact ev_nil
          · exact ec_allM
    · rw [seq_items hi, List.length_map]
      have := ok.1
      simp
      omega
  apply es_one
  apply es_ret
  · apply ev_cb
    · apply ev_cons
      · apply ev_fz
        apply ev_lc hs (encH A) (fun _ => .bl true)
        · exact ei_seq (ev_v rfl) hi
        · rfl
        · rfl
        · intro x hx
          refine ⟨_, eg_n, ?_, rfl⟩
          cases hs with
          | nil => cases hx
          | cons h0 r =>
            apply ev_cast
            · apply ev_op
              · walk_at "e"
              · apply ev_fld
                · apply ev_op
                  · walk_at "e"
                  · walk_at "e"
                  · exact er_ix hi atI_zero
                · exact rfl
              · exact er_eq rfl rfl
            · have e1 := ok.2 x hx
              have e2 := ok.2 h0 List.mem_cons_self
              rw [deq_int, e1, e2]
              simp
      · exact ev_nil
    · exact ec_allM
  · simp
local macro_rules | `(tactic| walk_at "c") => `(tactic| first | with_reducible apply ev_are_heads | with_reducible apply ev_is_table | with_reducible apply ev_are_heads | with_reducible apply ev_best_of | with_reducible apply ev_score_of | with_reducible apply ev_is_bounded | with_reducible apply ev_is_row | with_reducible apply ev_is_listed | with_reducible apply ev_is_within | with_reducible apply ev_is_integer)
def wideOf (T : List (List Int)) : Nat := (T.headD []).length
def okT (T : List (List Int)) (hs : List Hd) (n : Nat) : Prop := 1 ≤ T.length ∧ T.length ≤ 4 ∧ 1 ≤ n ∧ n ≤ 4 ∧ hs.length ≤ 2 ∧ (∀ r ∈ T, bndR r (n * (1 + hs.length)) 999) ∧ ∀ h ∈ hs, h.N.length = n
def R_is_table (A : AD) (ds : List D) (r : D) : Prop := ∃ d hd T hs n, ds = [d, hd] ∧ (Rows d T ∧ items hd = some (hs.map (encH A)) ∧ okT T hs n) ∧ r = .bl true
theorem ev_is_table {d hd : D} {T : List (List Int)} {hs : List Hd} {n : Nat} (h : EvN wn ρ ρ1 [d, hd]) (hn : Rows d T ∧ items hd = some (hs.map (encH A)) ∧ okT T hs n) : Ev (wCall 2 (wfP (R_is_table A)) [] wn) ρ ρ1 (.bl true) := ev_callP h rfl ⟨d, hd, T, hs, n, rfl, hn, rfl⟩
theorem ok_is_table (T : Txt K mg A) : FnOk P w K mg base CX0 4 A.a_is_table A.d_is_table ["value", "heads"] (spOf K 2 (wfP (R_is_table A))) := by
  refine dfnV T.F_is_table sc_is_table rfl (fun cdv A_ outer s H E hr => ⟨_, (dss_cons (ds_if ((dw_or (dt_not (dt_val (d_call (ok_is_listed T) (hr.mono (by decide)) (by rfl) T.m_is_listed T.F_is_listed.kp T.B_is_listed .nil (fun _ => .nil) pass0 (da_cons (dv 0) da_nil)))) (dw_or (dt_not (dt_chain do_le do_le d_int (d_callB dc_len (by rfl) T.b_len (by decide +kernel) (da_cons (dv 0) da_nil)) (d_gI (by rfl) T.g_MOST_LENGTH))) (dw_or1 (dt_not (dt_val (d_call (ok_is_listed T) (hr.mono (by decide)) (by rfl) T.m_is_listed T.F_is_listed.kp T.B_is_listed .nil (fun _ => .nil) pass0 (da_cons (d_ix (dv 0) d_int) da_nil)))))))).dt (dss_one (ds_ret d_bl)) dss_nil)
      (dss_cons (ds_set 2 sc_is_table.nd (d_callB dc_len (by rfl) T.b_len (by decide +kernel) (da_cons (d_ix (dv 0) d_int) da_nil)))
      (dss_cons (ds_if ((dw_and (dt_cmp (do_eq hr.units) (d_callB dc_len (by rfl) T.b_len (by decide +kernel) (da_cons (dv 1) da_nil)) d_int) (dw_and1 (dt_not (dt_chain do_le do_le d_int (dv 2) (d_gI (by rfl) T.g_MOST_LENGTH)))))).dt (dss_one (ds_ret d_bl)) dss_nil)
      (dss_cons (ds_if ((dw_and (dt_cmp do_gt (d_callB dc_len (by rfl) T.b_len (by decide +kernel) (da_cons (dv 1) da_nil)) d_int) (dw_and1 (dt_cmp (do_ne hr.units) (dv 2) (d_op do_mul (d_fld (ns := ns_Head) (j := 4) T.cl_Head T.n_Head_length (by decide +kernel) (d_ix (dv 1) d_int)) (d_op do_add d_int (d_callB dc_len (by rfl) T.b_len (by decide +kernel) (da_cons (dv 1) da_nil)))))))).dt (dss_one (ds_ret d_bl)) dss_nil)
      (dss_one (ds_ret (d_callB (dc_all rfl) (by rfl) T.b_all (by decide +kernel) (da_cons (dn_e (dn_lc [("row", 3)] rfl sc_is_table.nd (di_seq (dv 0)) (show BlkOk ["value", "heads", "wide", "row"] (defScope s_is_table) _ [("row", 3)] from blkOk_by (by decide +kernel)) (by decide) (fun _ _ _ _ _ => (dg_name 3 sc_is_table.nd)) (fun _ _ _ _ _ => dts_nil) (fun _ _ _ _ _ => (d_call (ok_is_bounded T) (hr.mono (by decide)) (by rfl) T.m_is_bounded T.F_is_bounded.kp T.B_is_bounded .nil (fun _ => .nil) pass0 (da_cons (dv 3) (da_cons (dv 2) (da_cons (d_gI (by rfl) T.g_MOST_NUMBER) da_nil))))))) da_nil)))))))), fun ds d hl hw => ?_⟩)
  obtain ⟨d, hd, T, hs, n, rfl, ⟨hR, hh, t1, t2, n1, n2, hl2, hb, hN⟩, rfl⟩ := hw
  have hsq := hR.seq
  obtain ⟨hn, xs, hi, hx, hr'⟩ := hR
  have hlen : xs.length = T.length := by rw [hx, List.length_map]
  cases xs with
  | nil => simp at hlen; omega
  | cons x0 xr =>
    have hr0 := hr' x0 List.mem_cons_self
    have hw0 : x0.2.length = n * (1 + hs.length) := (hb x0.2 (by rw [hx]; exact List.mem_cons_self)).1
    have hn0 := hr0.2
    have h0 := hr0.1
    apply es_if0
    · apply evT_cast
      · apply ev_orT
        · walk_at "e"
        · intro _
          apply ev_orT
          · walk_at "e"
          · intro _
            apply ev_not
            apply ev_tst
            apply ev_is_listed
            · apply ev_cons
              · apply ev_op
                · walk_at "e"
                · walk_at "e"
                · exact er_ix hi atI_zero
              · exact ev_nil
            · exact hn0
      · rw [hsq, hr0.seq, List.length_map, hlen]
        simp
        omega
    apply es_one
    apply es_seq
    · apply ex_set
      apply ev_cb
      · apply ev_cons
        · apply ev_op
          · walk_at "e"
          · walk_at "e"
          · exact er_ix hi atI_zero
        · exact ev_nil
      · exact ec_len h0
    rw [List.length_map, hw0]
    apply es_if0
    · apply evT_cast (q := false)
      · apply ev_andT
        · walk_at "e"
        · intro _
          walk_at "e"
      · rw [List.length_map, deq_int]
        cases hs with
        | nil => 
          simp
          omega
        | cons z zr => 
          have : ¬ (((z :: zr).length : Int) = 0) := by rw [List.length_cons]; omega
          simp only [decide_eq_false this, Bool.false_and]
    apply es_one
    apply es_if0 (ρ1 := [.val d, .val hd, .val (.int (n * (1 + hs.length) : Nat)), .un])
    · cases hs with
      | nil =>
        apply ev_andTL
        apply evT_cast
        · walk_at "e"
        · rfl
      | cons z zr =>
        apply evT_cast
        · apply ev_andT
          · walk_at "e"
          · intro _
            apply ev_tst
            apply ev_op
            · walk_at "e"
            · apply ev_op
              · apply ev_fld
                · apply ev_op
                  · walk_at "e"
                  · walk_at "e"
                  · exact er_ix hh atI_zero
                · exact rfl
              · walk_at "e"
              · apply er_I
                have := hN z List.mem_cons_self
                rw [this]
                exact .inl ⟨by omega, by omega⟩
            · exact er_ne rfl rfl
        · have := hN z List.mem_cons_self
          rw [this, deq_int, List.length_map]
          have e : ((n * (1 + (z :: zr).length) : Nat) : Int) = (n : Int) * (1 + ((z :: zr).length : Int)) := by
            rw [Int.natCast_mul, Int.natCast_add]; rfl
          rw [e]
          simp
    apply es_one
    apply es_ret
    · apply ev_cb
      · apply ev_cons
        · apply ev_fz
          apply ev_lc (x0 :: xr) Prod.fst (fun x => .bl (isBnd x.1 (n * (1 + hs.length) : Nat) 999))
          · exact ei_seq (ev_v rfl) hi
          · rfl
          · rfl
          · intro x hx1
            refine ⟨_, eg_n, ?_, rfl⟩
            walk_at "e"
            exact (hr' x hx1).nn
        · exact ev_nil
      · exact ec_allM
    · have : (x0 :: xr).all (fun x => isBnd x.1 (n * (1 + hs.length) : Nat) 999) = true := by
        rw [List.all_eq_true]
        intro x hx1
        exact (hr' x hx1).bnd (hb x.2 (by rw [hx]; exact List.mem_map_of_mem hx1))
      rw [this]
local macro_rules | `(tactic| walk_at "c") => `(tactic| first | with_reducible apply ev_is_table | with_reducible apply ev_are_heads | with_reducible apply ev_is_table | with_reducible apply ev_are_heads | with_reducible apply ev_best_of | with_reducible apply ev_score_of | with_reducible apply ev_is_bounded | with_reducible apply ev_is_row | with_reducible apply ev_is_listed | with_reducible apply ev_is_within | with_reducible apply ev_is_integer)
structure Ly where
  hs : List Hd
  T : List (List Int)
  shift : List Int
  cap : Int
  n : Nat
def Ly.fl (A : AD) (l : Ly) : List D := [.tup (l.hs.map (encH A)), .tup (l.T.map rowT), rowT l.shift, .int l.cap, .int (l.n : Nat)]
def okL (l : Ly) : Prop := okT l.T l.hs l.n ∧ bndR l.shift l.T.length 9999 ∧ 1 ≤ l.cap ∧ l.cap ≤ 99
def encL (A : AD) (l : Ly) : D := .obj A.c_Layer ns_Layer (l.fl A)
def R_Layer_init (A : AD) (ds fl : List D) : Prop := ∃ hd tb sh, ∃ l : Ly, ds = [hd, tb, sh, .int l.cap] ∧ items hd = some (l.hs.map (encH A)) ∧ Rows tb l.T ∧ Row sh l.shift ∧ okL l ∧ fl = l.fl A
theorem ec_len' {d : D} {l : List D} {n : Nat} (h : items d = some l) (e : l.length = n) : EvC wLen [d] (.int (n : Nat)) := e ▸ ec_len h
theorem ok_Layer_init (T : Txt K mg A) : FnOk P w K mg base CX0 5 A.a_Layer_init A.d_Layer_init ["self", "heads", "table", "shift", "cap"] (spOf K 5 (wfM A.c_Layer ns_Layer (R_Layer_init A))) := by
  refine dfnM T.F_Layer_init sc_Layer_init rfl (fun cdv A_ outer s H E hr => ⟨_, (dss_cons (ds_if (dt_not (dt_val (d_call (ok_are_heads T) (hr.mono (by decide)) (by rfl) T.m_are_heads T.F_are_heads.kp T.B_are_heads .nil (fun _ => .nil) pass0 (da_cons (dv 1) da_nil)))) dss_never dss_nil)
      (dss_cons (ds_if (dt_not (dt_val (d_call (ok_is_table T) (hr.mono (by decide)) (by rfl) T.m_is_table T.F_is_table.kp T.B_is_table .nil (fun _ => .nil) pass0 (da_cons (dv 2) (da_cons (dv 1) da_nil))))) dss_never dss_nil)
      (dss_cons (ds_if (dt_not (dt_val (d_call (ok_is_bounded T) (hr.mono (by decide)) (by rfl) T.m_is_bounded T.F_is_bounded.kp T.B_is_bounded .nil (fun _ => .nil) pass0 (da_cons (dv 3) (da_cons (d_callB dc_len (by rfl) T.b_len (by decide +kernel) (da_cons (dv 2) da_nil)) (da_cons (d_gI (by rfl) T.g_MOST_SHIFT) da_nil)))))) dss_never dss_nil)
      (dss_cons (ds_if (dt_not (dt_val (d_call (ok_is_within T) (hr.mono (by decide)) (by rfl) T.m_is_within T.F_is_within.kp T.B_is_within .nil (fun _ => .nil) pass0 (da_cons (dv 4) (da_cons d_int (da_cons (d_gI (by rfl) T.g_MOST_CAP) da_nil)))))) dss_never dss_nil)
      (dss_cons (ds_fldC 0 T.cl_Layer T.n_Layer_heads (d_callT dc_tuple (by rfl) T.b_tuple (by decide +kernel) (da_cons (dv 1) da_nil)))
      (dss_cons (ds_fldC 0 T.cl_Layer T.n_Layer_table (d_callT dc_tuple (by rfl) T.b_tuple (by decide +kernel) (da_cons (dn_e (dn_lc [("row", 5)] rfl sc_Layer_init.nd (di_seq (dv 2)) (show BlkOk ["self", "heads", "table", "shift", "cap", "row"] (defScope s_Layer_init) _ [("row", 5)] from blkOk_by (by decide +kernel)) (by decide) (fun _ _ _ _ _ => (dg_name 5 sc_Layer_init.nd)) (fun _ _ _ _ _ => dts_nil) (fun _ _ _ _ _ => (d_callT dc_tuple (by rfl) T.b_tuple (by decide +kernel) (da_cons (dv 5) da_nil))))) da_nil)))
      (dss_cons (ds_fldC 0 T.cl_Layer T.n_Layer_shift (d_callT dc_tuple (by rfl) T.b_tuple (by decide +kernel) (da_cons (dv 3) da_nil)))
      (dss_cons (ds_fldC 0 T.cl_Layer T.n_Layer_cap (dv 4))
      (dss_one (ds_fldC 0 T.cl_Layer T.n_Layer_length (d_op do_fdiv (d_callB dc_len (by rfl) T.b_len (by decide +kernel) (da_cons (d_ix (dv 2) d_int) da_nil)) (d_op do_add d_int (d_callB dc_len (by rfl) T.b_len (by decide +kernel) (da_cons (dv 1) da_nil)))))))))))))), fun p ds fl hl hw => ?_⟩)
  obtain ⟨hd, tb, sh, l, rfl, hh, hR, hS, ok, rfl⟩ := hw
  have hR0 := hR
  have hsq := hR.seq
  obtain ⟨hn, xs, hi, hx, hr'⟩ := hR
  have hlen : xs.length = l.T.length := by rw [hx, List.length_map]
  have hlen' : (xs.map Prod.fst).length = l.T.length := by rw [List.length_map, hlen]
  have hS1 := hS.1
  cases xs with
  | nil =>
    have := ok.1.1
    simp at hlen
    omega
  | cons x0 xr =>
    have hr0 := hr' x0 List.mem_cons_self
    have hw0 : x0.2.length = l.n * (1 + l.hs.length) := (ok.1.2.2.2.2.2.1 x0.2 (by rw [hx]; exact List.mem_cons_self)).1
    have h0 := hr0.1
    have hq : (x0.2.map D.int).length = l.n * (1 + l.hs.length) := by rw [List.length_map, hw0]
    apply Exists.intro
    apply And.intro
    · apply ex_seq
      · apply ex_if0
        · apply evT_cast
          · apply ev_not
            apply ev_tst
            apply ev_are_heads (hs := l.hs) (n := l.n)
            · walk_at "e"
            · exact ⟨hh, ok.1.2.2.2.2.1, ok.1.2.2.2.2.2.2⟩
          · rfl
        · exact ex_next
      apply ex_seq
      · apply ex_if0
        · apply evT_cast
          · apply ev_not
            apply ev_tst
            apply ev_is_table
            · walk_at "e"
            · exact ⟨hR0, hh, ok.1⟩
          · rfl
        · exact ex_next
      apply ex_seq
      · apply ex_if0
        · apply evT_cast
          · apply ev_not
            apply ev_tst
            apply ev_is_bounded (n := (l.T.length : Nat))
            · apply ev_cons
              · walk_at "e"
              · apply ev_cons
                · exact ev_cb (ev_cons (ev_v rfl) ev_nil) (ec_len' hi hlen')
                · walk_at "e"
            · exact hS.nn
          · rw [hS.bnd ok.2.1]
            rfl
        · exact ex_next
      apply ex_seq
      · apply ex_if0
        · apply evT_cast
          · apply ev_not
            apply ev_tst
            apply ev_is_within (d := .int l.cap) (lo := some 1) (hi := some 99)
            · walk_at "e"
            · rfl
          · have h1 := ok.2.2.1
            have h2 := ok.2.2.2
            simp [within, geO, leO, h1, h2]
        · exact ex_next
      apply ex_seq
      · apply ex_fld (x := .tup (l.hs.map (encH A)))
        · exact ev_cb (ev_cons (ev_v rfl) ev_nil) (ec_tuple hh)
        · exact rfl
        · decide
        · decide
      apply ex_seq
      · apply ex_fld (x := .tup (l.T.map rowT))
        · apply ev_cb
          · apply ev_cons
            · apply ev_fz
              apply ev_lc (x0 :: xr) Prod.fst (fun x => rowT x.2)
              · exact ei_seq (ev_v rfl) hi
              · rfl
              · rfl
              · intro x hx1
                have := (hr' x hx1).1
                exact ⟨_, eg_n, ev_cb (ev_cons (ev_v rfl) ev_nil) (ec_tuple this), rfl⟩
            · exact ev_nil
          · rw [hx, List.map_map]
            exact ec_tuple rfl
        · exact rfl
        · decide
        · decide
      apply ex_seq
      · apply ex_fld (x := rowT l.shift)
        · exact ev_cb (ev_cons (ev_v rfl) ev_nil) (ec_tuple hS1)
        · exact rfl
        · decide
        · decide
      apply ex_seq
      · walk_at "e"
      · apply ex_fld (x := .int (l.n : Nat))
        · apply ev_cast
          · apply ev_op
            · apply ev_cb
              · apply ev_cons
                · apply ev_op
                  · walk_at "e"
                  · walk_at "e"
                  · exact er_ix hi atI_zero
                · exact ev_nil
              · exact ec_len' h0 hq
            · apply ev_op
              · walk_at "e"
              · exact ev_cb (ev_cons (ev_v rfl) ev_nil) (ec_len' hh (List.length_map _))
              · exact er_I0
            · have := ok.1.2.2.2.2.1
              exact er_I ⟨by omega, by omega⟩
          · have e : ((l.n * (1 + l.hs.length) : Nat) : Int) = (l.n : Int) * (1 + (l.hs.length : Int)) := by
              rw [Int.natCast_mul, Int.natCast_add]; rfl
            rw [e, Int.mul_ediv_cancel _ (by omega)]
        · exact rfl
        · decide
        · decide
    · exact ⟨⟨rfl, trivial, trivial, trivial, trivial, trivial⟩, rfl⟩
end
end K28

set_option Elab.async false
set_option linter.all false
set_option maxRecDepth 100000
set_option maxHeartbeats 4000000
namespace K28
open PySem PySem.Spec PyProof.Rows L2 DL
local macro_rules | `(tactic| walk_at "e") => `(tactic| repeat' (first
  | walk_at "c" | exact DL.ev_v rfl | exact DL.ev_vz rfl | exact DL.ev_vzO rfl | exact DL.ev_C | exact DL.ev_nil
  | with_reducible apply DL.ev_op | with_reducible apply DL.ev_cb | with_reducible apply DL.ev_cbn | with_reducible apply DL.ev_cons | with_reducible apply DL.ev_fld
  | exact DL.er_I0 | with_reducible apply DL.er_I | exact DL.er_isN | exact DL.er_notN | with_reducible apply DL.er_eq | with_reducible apply DL.er_ne | with_reducible apply DL.er_ix
  | with_reducible apply DL.ev_tst | with_reducible apply DL.ev_not | with_reducible apply DL.ev_andT | with_reducible apply DL.ev_orT | with_reducible apply DL.ev_and | with_reducible apply DL.ev_or
  | with_reducible apply DL.ev_notV | with_reducible apply DL.ev_neg | with_reducible apply DL.ev_if | with_reducible apply DL.ev_chain
  | with_reducible apply DL.ev_fz | with_reducible apply DL.ev_star | with_reducible apply DL.ev_tup | with_reducible apply DL.ev_lst
  | with_reducible apply DL.ec_len | with_reducible apply DL.ec_tuple | with_reducible apply DL.ecn_list | exact DL.ec_int | exact DL.ec_intB | exact DL.ec_abs | exact DL.ec_max2 | exact DL.ec_min2 | exact DL.ec_sumM | exact DL.ec_allM | exact DL.ec_anyM
  | exact DL.eo_none | with_reducible apply DL.eo_some | with_reducible apply DL.ev_slT | with_reducible apply DL.ev_slL | with_reducible apply DL.ev_cat | with_reducible apply DL.ev_rep | with_reducible apply DL.ev_isi
  | with_reducible apply DL.ev_ixO | exact DL.ev_lenO rfl | exact DL.eg_n | with_reducible apply DL.eg_t | exact DL.egs_n | with_reducible apply DL.egs_c
  | with_reducible apply DL.ei_seq | with_reducible apply DL.ei_zip | with_reducible apply DL.ei_enum | with_reducible apply DL.ei_rng1 | with_reducible apply DL.ei_rng2
  | with_reducible apply DL.ev_callP | exact DL.eb_nil | with_reducible apply DL.eb_val | with_reducible apply DL.eb_own
  | with_reducible apply DL.ex_set | with_reducible apply DL.ex_setN | with_reducible apply DL.ex_asg | with_reducible apply DL.ex_exp | with_reducible apply DL.ex_par | with_reducible apply DL.ex_par3 | with_reducible apply DL.ex_unp | with_reducible apply DL.ex_app | with_reducible apply DL.ex_ext | with_reducible apply DL.ex_fld | exact DL.ex_next | with_reducible apply DL.ex_seq
  | exact rfl | assumption | decide | intro _))
local macro_rules | `(tactic| walk_at "c") => `(tactic| first | with_reducible apply ev_is_table | with_reducible apply ev_are_heads | with_reducible apply ev_best_of | with_reducible apply ev_score_of | with_reducible apply ev_is_bounded | with_reducible apply ev_is_row | with_reducible apply ev_is_listed | with_reducible apply ev_is_within | with_reducible apply ev_is_integer)
local macro_rules | `(tactic| walk_at "s") => `(tactic| first
  | with_reducible apply DL.es_one | with_reducible (apply DL.es_stop (DL.es_ret ?_ ?_)) | with_reducible apply DL.es_if | with_reducible apply DL.es_ret | with_reducible apply DL.es_seq)
section
variable {P : Program} {w : World} {K : PySem.W.Frag} {mg : Str → Option Value} {base : Heap} {A : AD} {wn : WN} {ρ ρ1 : DL.Env}
/-! ### spots_taken, row_made -/
def rowsT (rs : List (List Int)) : D := .tup (rs.map rowT)
def spot (h : Hd) (rows : List (List Int)) (row : List Int) : Option Nat := bestOf h row (if h.strict then rows else rows ++ [row])
def spotsT (l : Ly) (rows : List (List Int)) (row : List Int) : D := .tup (l.hs.map fun h => optN (spot h rows row))
def okR (rows : List (List Int)) : Prop := ∀ r ∈ rows, Sml r ∧ r.length ≤ 4
def pre (l : Ly) (rows : List (List Int)) (row : List Int) : Prop := rows.length ≤ 1000 ∧ okR (rows ++ [row])
def R_spots_taken (A : AD) (ds : List D) (r : D) : Prop := ∃ l rows row, ds = [encL A l, rowsT rows, rowT row] ∧ pre l rows row ∧ r = spotsT l rows row
theorem ev_spots_taken {l : Ly} {rows : List (List Int)} {row : List Int} (h : EvN wn ρ ρ1 [encL A l, rowsT rows, rowT row]) (hn : pre l rows row) : Ev (wCall 3 (wfP (R_spots_taken A)) [] wn) ρ ρ1 (spotsT l rows row) := ev_callP h rfl ⟨l, rows, row, rfl, hn, rfl⟩
theorem okR.last {rows : List (List Int)} {row : List Int} (h : okR (rows ++ [row])) : Sml row ∧ row.length ≤ 4 := h row (by simp)
theorem ok_spots_taken (T : Txt K mg A) : FnOk P w K mg base CX0 3 A.a_spots_taken A.d_spots_taken ["layer", "rows", "row"] (spOf K 3 (wfP (R_spots_taken A))) := by
  refine dfnV T.F_spots_taken sc_spots_taken rfl (fun cdv A_ outer s H E hr => ⟨_, (dss_one (ds_ret (d_callT dc_tuple (by rfl) T.b_tuple (by decide +kernel) (da_cons (dn_e (dn_lc [("head", 3)] rfl sc_spots_taken.nd (di_seq (d_fld (ns := ns_Layer) (j := 0) T.cl_Layer T.n_Layer_heads (by decide +kernel) (dv 0))) (show BlkOk ["layer", "rows", "row", "head"] (defScope s_spots_taken) _ [("head", 3)] from blkOk_by (by decide +kernel)) (by decide) (fun _ _ _ _ _ => (dg_name 3 sc_spots_taken.nd)) (fun _ _ _ _ _ => dts_nil) (fun _ _ _ _ _ => (d_call (ok_best_of T) (hr.mono (by decide)) (by rfl) T.m_best_of T.F_best_of.kp T.B_best_of .nil (fun _ => .nil) pass0 (da_cons (dv 3) (da_cons (dv 2) (da_cons (d_if (dt_val (d_fld (ns := ns_Head) (j := 3) T.cl_Head T.n_Head_strict (by decide +kernel) (dv 3))) (dv 1) (dn_e (dn_lst (da_star (dv 1) (da_cons (dv 2) da_nil))))) da_nil))))))) da_nil)))), fun ds d hl hw => ?_⟩)
  obtain ⟨l, rows, row, rfl, ⟨hl1, ok⟩, rfl⟩ := hw
  apply es_ret
  · apply ev_cb
    · apply ev_cons
      · apply ev_fz
        apply ev_lc l.hs (encH A) (fun h => optN (spot h rows row))
        · apply ei_seq
          · walk_at "e"
          · exact rfl
        · rfl
        · rfl
        · intro h hx
          refine ⟨_, eg_n, ?_, rfl⟩
          have e1 : items (if h.strict then rowsT rows else .lst (rows.map rowT ++ [rowT row])) = some ((if h.strict then rows else rows ++ [row]).map rowT) := by
            cases h.strict with
            | true => rfl
            | false => simp [items]
          apply ev_best_of
          · apply ev_cons
            · walk_at "e"
            · apply ev_cons
              · walk_at "e"
              · apply ev_cons
                · walk_at "e"
                  simp [items, rowsT]
                  omega
                · exact ev_nil
          · refine ⟨e1, ok.last.1, ok.last.2, ?_⟩
            intro o ho
            cases hs : h.strict with
            | true => rw [hs] at ho; exact ok o (List.mem_append_left _ ho)
            | false => rw [hs] at ho; exact ok o ho
      · exact ev_nil
    · exact ec_tuple rfl
  · rfl
local macro_rules | `(tactic| walk_at "c") => `(tactic| first | with_reducible apply ev_spots_taken | with_reducible apply ev_is_table | with_reducible apply ev_are_heads | with_reducible apply ev_best_of | with_reducible apply ev_score_of | with_reducible apply ev_is_bounded | with_reducible apply ev_is_row | with_reducible apply ev_is_listed | with_reducible apply ev_is_within | with_reducible apply ev_is_integer)
theorem bestRun_lt {h : Hd} {row : List Int} : ∀ (os : List (List Int)) (n : Nat) (st : Option (Nat × Int)), (∀ a, st.map Prod.fst = some a → a < n) → ∀ a, ((os.zipIdx n).foldl (bestStep h row) st).map Prod.fst = some a → a < n + os.length
  | [], n, st, h0, a, e => by simpa using h0 a e
  | o :: r, n, st, h0, a, e => by
    rw [List.zipIdx_cons, List.foldl_cons] at e
    have := bestRun_lt r (n + 1) _ (fun b hb => by
      cases st with
      | none => simp [bestStep] at hb; omega
      | some am =>
        simp only [bestStep] at hb
        split at hb
        · simp at hb; omega
        · simp only [Option.map_some, Option.some.injEq] at hb
          have := h0 am.1 rfl
          omega) a e
    rw [List.length_cons]
    omega
theorem bestOf_lt {h : Hd} {row : List Int} {os : List (List Int)} {k : Nat} (e : bestOf h row os = some k) : k < os.length := by
  have := bestRun_lt os 0 none (fun a z => by cases z) k e
  omega
theorem spot_lt {h : Hd} {rows : List (List Int)} {row : List Int} {k : Nat} (e : spot h rows row = some k) : k < (rows ++ [row]).length := by
  have := bestOf_lt e
  cases hs : h.strict with
  | true => rw [hs] at this; simp at this ⊢; omega
  | false => rw [hs] at this; exact this
def pick (rows : List (List Int)) (row : List Int) (h : Hd) : List Int := match spot h rows row with
  | none => h.N
  | some k => (rows ++ [row])[k]?.getD []
def joinOf (l : Ly) (rows : List (List Int)) (row : List Int) (hs : List Hd) : List Int := row ++ (hs.map (pick rows row)).flatten
def dot (line joined : List Int) : Int := ((line.zip joined).map fun p => p.1 * p.2).sum
def clip (t c : Int) : Int := if c < (if 0 > t then 0 else t) then c else (if 0 > t then 0 else t)
def madeOf (l : Ly) (joined : List Int) : List Int := (l.T.zip l.shift).map fun p => clip (p.2 + dot p.1 joined) l.cap
def rowMade (l : Ly) (rows : List (List Int)) (row : List Int) : List Int := madeOf l (joinOf l rows row l.hs)
def R_row_made (A : AD) (ds : List D) (r : D) : Prop := ∃ l rows row, ds = [encL A l, rowsT rows, rowT row] ∧ (okL l ∧ pre l rows row) ∧ r = rowT (rowMade l rows row)
theorem ev_row_made {l : Ly} {rows : List (List Int)} {row : List Int} (h : EvN wn ρ ρ1 [encL A l, rowsT rows, rowT row]) (hn : okL l ∧ pre l rows row) : Ev (wCall 3 (wfP (R_row_made A)) [] wn) ρ ρ1 (rowT (rowMade l rows row)) := ev_callP h rfl ⟨l, rows, row, rfl, hn, rfl⟩
theorem pick_len {l : Ly} {rows : List (List Int)} {row : List Int} {h : Hd} (hn : h.N.length ≤ 4) (ok : okR (rows ++ [row])) : (pick rows row h).length ≤ 4 := by
  unfold pick
  split
  · exact hn
  · rename_i k e
    have := spot_lt e
    rw [List.getElem?_eq_getElem this]
    exact (ok _ (List.getElem_mem this)).2
theorem joinOf_len {l : Ly} {rows : List (List Int)} {row : List Int} {hs : List Hd} (hn : ∀ h ∈ hs, h.N.length ≤ 4) (ok : okR (rows ++ [row])) (h2 : hs.length ≤ 2) : (joinOf l rows row hs).length ≤ 12 := by
  have e : ∀ zs : List Hd, (∀ h ∈ zs, h.N.length ≤ 4) → ((zs.map (pick rows row)).flatten).length ≤ 4 * zs.length := fun zs => by
    induction zs with
    | nil => intro _; simp
    | cons z r ih =>
      intro hz
      have h1 := ih fun h hh => hz h (List.mem_cons_of_mem _ hh)
      have h2 := pick_len (l := l) (hz z List.mem_cons_self) ok
      simp only [List.map_cons, List.flatten_cons, List.length_append, List.length_cons]
      omega
  have := e hs hn
  have h3 := ok.last.2
  unfold joinOf
  rw [List.length_append]
  omega
theorem ok_row_made (T : Txt K mg A) : FnOk P w K mg base CX0 4 A.a_row_made A.d_row_made ["layer", "rows", "row"] (spOf K 3 (wfP (R_row_made A))) := by
  refine dfnV T.F_row_made sc_row_made rfl (fun cdv A_ outer s H E hr => ⟨_, (dss_cons (ds_par 3 4 rfl sc_row_made.nd (dao_own (dn_callT dcn_list (by rfl) T.b_list boot_list (da_cons (dv 2) da_nil)) (dao_own (dn_lst da_nil) dao_nil)))
      (dss_cons (ds_for PassesOwn.never rfl (di_zip (by rfl) T.b_zip (da_cons (d_fld (ns := ns_Layer) (j := 0) T.cl_Layer T.n_Layer_heads (by decide +kernel) (dv 0)) (da_cons (d_call (ok_spots_taken T) (hr.mono (by decide)) (by rfl) T.m_spots_taken T.F_spots_taken.kp T.B_spots_taken .nil (fun _ => .nil) pass0 (da_cons (dv 0) (da_cons (dv 1) (da_cons (dv 2) da_nil)))) da_nil))) (dg_tup (n := 2) rfl (dgs_cons (dg_name 5 sc_row_made.nd) (dgs_cons (dg_name 6 sc_row_made.nd) dgs_nil)))
      (dss_one (ds_ext 3 (d_if (dt_cmp do_isN (dv 6) d_non) (d_fld (ns := ns_Head) (j := 1) T.cl_Head T.n_Head_none (by decide +kernel) (dv 5)) (d_ix (dn_e (dn_lst (da_star (dv 1) (da_cons (dv 2) da_nil)))) (dv 6))))))
      (dss_cons (ds_for PassesOwn.never rfl (di_zip (by rfl) T.b_zip (da_cons (d_fld (ns := ns_Layer) (j := 1) T.cl_Layer T.n_Layer_table (by decide +kernel) (dv 0)) (da_cons (d_fld (ns := ns_Layer) (j := 2) T.cl_Layer T.n_Layer_shift (by decide +kernel) (dv 0)) da_nil))) (dg_tup (n := 2) rfl (dgs_cons (dg_name 7 sc_row_made.nd) (dgs_cons (dg_name 8 sc_row_made.nd) dgs_nil)))
      (dss_cons (ds_set 9 sc_row_made.nd (d_op do_add (dv 8) (d_callB (dc_sum rfl) (by rfl) T.b_sum (by decide +kernel) (da_cons (dn_e (dn_lc [("one", 10), ("other", 11)] rfl sc_row_made.nd (di_zip (by rfl) T.b_zip (da_cons (dv 7) (da_cons (dvz 3) da_nil))) (show BlkOk ["layer", "rows", "row", "joined", "found", "head", "spot", "line", "more", "told", "one", "other"] (defScope s_row_made) _ [("one", 10), ("other", 11)] from blkOk_by (by decide +kernel)) (by decide) (fun _ _ _ _ _ => (dg_tup (n := 2) rfl (dgs_cons (dg_name 10 sc_row_made.nd) (dgs_cons (dg_name 11 sc_row_made.nd) dgs_nil)))) (fun _ _ _ _ _ => dts_nil) (fun _ _ _ _ _ => (d_op do_mul (dv 10) (dv 11))))) da_nil))))
      (dss_one (ds_app 4 (d_callB (dc_min2 rfl) (by rfl) T.b_min (by decide +kernel) (da_cons (d_callB (dc_max2 rfl) (by rfl) T.b_max (by decide +kernel) (da_cons (dv 9) (da_cons d_int da_nil))) (da_cons (d_fld (ns := ns_Layer) (j := 3) T.cl_Layer T.n_Layer_cap (by decide +kernel) (dv 0)) da_nil)))))))
      (dss_one (ds_ret (d_callT dc_tuple (by rfl) T.b_tuple (by decide +kernel) (da_cons (dvz 4) da_nil))))))), fun ds d hl hw => ?_⟩)
  obtain ⟨l, rows, row, rfl, ⟨okl, hl1, ok⟩, rfl⟩ := hw
  have hN4 : ∀ h ∈ l.hs, h.N.length ≤ 4 := fun h hh => by
    have h1 := okl.1.2.2.2.2.2.2 h hh
    have h2 := okl.1.2.2.2.1
    omega
  have hh2 := okl.1.2.2.2.2.1
  apply es_seq
  · walk_at "e"
  apply es_for (fun i ρ => ∃ x y, ρ = [.val (encL A l), .val (rowsT rows), .val (rowT row), .own ((joinOf l rows row (l.hs.take i)).map .int), .own [], x, y, .un, .un, .un, .un, .un])
  · apply ei_zip
    · walk_at "e"
      exact ⟨hl1, ok⟩
    · exact rfl
    · exact rfl
  · refine ⟨.un, .un, ?_⟩
    simp [joinOf]
    rfl
  · rw [zipD_same]
    intro i e ρ he hI
    obtain ⟨x, y, rfl⟩ := hI
    rw [List.getElem?_map, Option.map_eq_some_iff] at he
    obtain ⟨h, hq, rfl⟩ := he
    have hm := List.mem_of_getElem? hq
    have e1 : joinOf l rows row (l.hs.take (i + 1)) = joinOf l rows row (l.hs.take i) ++ pick rows row h := by
      unfold joinOf
      rw [take_snoc hq, List.map_append, List.flatten_append, List.append_assoc]
      simp
    have e2 := joinOf_len (l := l) (hs := l.hs.take i) (fun z hz => hN4 z (List.mem_of_mem_take hz)) ok (by rw [List.length_take]; omega)
    have e3 := pick_len (l := l) (hN4 h hm) ok
    rw [e1, List.map_append]
    generalize joinOf l rows row (l.hs.take i) = J at *
    cases hs : spot h rows row with
    | none =>
      apply Exists.intro
      apply Exists.intro
      apply And.intro
      · exact eg_t rfl (egs_c eg_n (egs_c eg_n egs_n))
      apply And.intro
      · apply ex_ext (x := rowT (pick rows row h))
        · exact rfl
        · apply ev_ifT
          · apply evT_cast <;> walk_at "e"
          · apply ev_cast
            · walk_at "e"
            · simp only [pick, hs]
        · exact rfl
        · exact rfl
        · rw [List.length_map, List.length_map]
          omega
      · exact ⟨_, _, rfl⟩
    | some k =>
      have hk := spot_lt hs
      apply Exists.intro
      apply Exists.intro
      apply And.intro
      · exact eg_t rfl (egs_c eg_n (egs_c eg_n egs_n))
      apply And.intro
      · apply ex_ext (x := rowT (pick rows row h))
        · exact rfl
        · apply ev_ifF
          · apply evT_cast <;> walk_at "e"
          · apply ev_op
            · walk_at "e"
              simp
              omega
            · walk_at "e"
            · refine er_ix rfl ?_
              rw [show rows.map rowT ++ [rowT row] = (rows ++ [row]).map rowT by simp, DL.atI_nat, List.getElem?_map, List.getElem?_eq_getElem hk]
              simp only [pick, hs, List.getElem?_eq_getElem hk, Option.getD_some, Option.map_some]
        · exact rfl
        · exact rfl
        · rw [List.length_map, List.length_map]
          omega
      · exact ⟨_, _, rfl⟩
  · rw [zipD_same, List.length_map, List.take_length]
    rintro ρ ⟨x, y, rfl⟩
    apply es_for (fun i ρ => ∃ jb a b c, (jb = .own ((joinOf l rows row l.hs).map .int) ∨ jb = .val (.lst ((joinOf l rows row l.hs).map .int))) ∧ ρ = [.val (encL A l), .val (rowsT rows), .val (rowT row), jb, .own (((madeOf l (joinOf l rows row l.hs)).take i).map .int), x, y, a, b, c, .un, .un])
    · apply ei_zip
      · walk_at "e"
      · exact rfl
      · exact rfl
    · exact ⟨_, _, _, _, .inl rfl, rfl⟩
    · have e0 : (joinOf l rows row l.hs).length ≤ 12 := joinOf_len hN4 ok hh2
      generalize hJ : joinOf l rows row l.hs = J at *
      rw [zipD_map]
      intro i e ρ he hI
      obtain ⟨jb, a, b, c, hjb, rfl⟩ := hI
      rw [List.getElem?_map, Option.map_eq_some_iff] at he
      obtain ⟨q, hq, rfl⟩ := he
      have hm := List.mem_of_getElem? hq
      have hq1 : bndR q.1 (l.n * (1 + l.hs.length)) 999 := okl.1.2.2.2.2.2.1 q.1 (List.of_mem_zip hm).1
      have e1 : (madeOf l J).take (i + 1) = (madeOf l J).take i ++ [clip (q.2 + dot q.1 J) l.cap] := by
        apply DL.take_snoc
        unfold madeOf
        rw [List.getElem?_map, hq]
        rfl
      have e2 : ((madeOf l J).take i).length ≤ 1000 := by
        have h1 := okl.1.2.1
        unfold madeOf
        rw [List.length_take, List.length_map, List.length_zip]
        omega
      rw [e1, List.map_append]
      generalize (madeOf l J).take i = M at *
      rcases hjb with rfl | rfl
      · apply Exists.intro
        apply Exists.intro
        apply And.intro
        · exact eg_t rfl (egs_c eg_n (egs_c eg_n egs_n))
        apply And.intro
        · apply ex_seq
          · apply ex_set (x := .int (q.2 + dot q.1 J))
            apply ev_op
            · walk_at "e"
            · apply ev_cb
              · apply ev_cons
                · apply ev_fz
                  apply ev_lc (q.1.zip J) (fun p => .tup [.int p.1, .int p.2]) (fun p => .int (p.1 * p.2))
                  · apply ei_zip
                    · walk_at "e"
                    · exact rfl
                    · exact rfl
                  · exact zipD_map _ _ _ _
                  · rfl
                  · intro p hp
                    refine ⟨_, eg_t rfl (egs_c eg_n (egs_c eg_n egs_n)), ?_, rfl⟩
                    have := hq1.2 p.1 (List.of_mem_zip hp).1
                    walk_at "e"
                    exact .inl ⟨by omega, by omega⟩
                · exact ev_nil
              · exact ec_sumM
            · exact er_I0
          · walk_at "e"
            rw [List.length_map]
            omega
        · exact ⟨_, _, _, _, .inr rfl, rfl⟩
      · apply Exists.intro
        apply Exists.intro
        apply And.intro
        · exact eg_t rfl (egs_c eg_n (egs_c eg_n egs_n))
        apply And.intro
        · apply ex_seq
          · apply ex_set (x := .int (q.2 + dot q.1 J))
            apply ev_op
            · walk_at "e"
            · apply ev_cb
              · apply ev_cons
                · apply ev_fz
                  apply ev_lc (q.1.zip J) (fun p => .tup [.int p.1, .int p.2]) (fun p => .int (p.1 * p.2))
                  · apply ei_zip
                    · walk_at "e"
                    · exact rfl
                    · exact rfl
                  · exact zipD_map _ _ _ _
                  · rfl
                  · intro p hp
                    refine ⟨_, eg_t rfl (egs_c eg_n (egs_c eg_n egs_n)), ?_, rfl⟩
                    have := hq1.2 p.1 (List.of_mem_zip hp).1
                    walk_at "e"
                    exact .inl ⟨by omega, by omega⟩
                · exact ev_nil
              · exact ec_sumM
            · exact er_I0
          · walk_at "e"
            rw [List.length_map]
            omega
        · exact ⟨_, _, _, _, .inr rfl, rfl⟩
    · rw [zipD_map, List.length_map]
      rintro ρ ⟨jb, a, b, c, hjb, rfl⟩
      have e3 : (l.T.zip l.shift).length = (madeOf l (joinOf l rows row l.hs)).length := by
        unfold madeOf
        rw [List.length_map]
      rw [e3, List.take_length]
      apply es_ret
      · walk_at "e"
      · rfl
local macro_rules | `(tactic| walk_at "c") => `(tactic| first | with_reducible apply ev_row_made | with_reducible apply ev_spots_taken | with_reducible apply ev_is_table | with_reducible apply ev_are_heads | with_reducible apply ev_best_of | with_reducible apply ev_score_of | with_reducible apply ev_is_bounded | with_reducible apply ev_is_row | with_reducible apply ev_is_listed | with_reducible apply ev_is_within | with_reducible apply ev_is_integer)
end
end K28

set_option Elab.async false
set_option linter.all false
set_option maxRecDepth 100000
set_option maxHeartbeats 4000000
namespace K28
open PySem PySem.Spec PyProof.Rows L2 DL
local macro_rules | `(tactic| walk_at "e") => `(tactic| repeat' (first
  | walk_at "c" | exact DL.ev_v rfl | exact DL.ev_vz rfl | exact DL.ev_vzO rfl | exact DL.ev_C | exact DL.ev_nil
  | with_reducible apply DL.ev_op | with_reducible apply DL.ev_cb | with_reducible apply DL.ev_cbn | with_reducible apply DL.ev_cons | with_reducible apply DL.ev_fld
  | exact DL.er_I0 | with_reducible apply DL.er_I | exact DL.er_isN | exact DL.er_notN | with_reducible apply DL.er_eq | with_reducible apply DL.er_ne | with_reducible apply DL.er_ix
  | with_reducible apply DL.ev_tst | with_reducible apply DL.ev_not | with_reducible apply DL.ev_andT | with_reducible apply DL.ev_orT | with_reducible apply DL.ev_and | with_reducible apply DL.ev_or
  | with_reducible apply DL.ev_notV | with_reducible apply DL.ev_neg | with_reducible apply DL.ev_if | with_reducible apply DL.ev_chain
  | with_reducible apply DL.ev_fz | with_reducible apply DL.ev_star | with_reducible apply DL.ev_tup | with_reducible apply DL.ev_lst
  | with_reducible apply DL.ec_len | with_reducible apply DL.ec_tuple | with_reducible apply DL.ecn_list | exact DL.ec_int | exact DL.ec_intB | exact DL.ec_abs | exact DL.ec_max2 | exact DL.ec_min2 | exact DL.ec_sumM | exact DL.ec_allM | exact DL.ec_anyM
  | exact DL.eo_none | with_reducible apply DL.eo_some | with_reducible apply DL.ev_slT | with_reducible apply DL.ev_slL | with_reducible apply DL.ev_cat | with_reducible apply DL.ev_rep | with_reducible apply DL.ev_isi
  | with_reducible apply DL.ev_ixO | exact DL.ev_lenO rfl | exact DL.eg_n | with_reducible apply DL.eg_t | exact DL.egs_n | with_reducible apply DL.egs_c
  | with_reducible apply DL.ei_seq | with_reducible apply DL.ei_zip | with_reducible apply DL.ei_enum | with_reducible apply DL.ei_rng1 | with_reducible apply DL.ei_rng2
  | with_reducible apply DL.ev_callP | exact DL.eb_nil | with_reducible apply DL.eb_val | with_reducible apply DL.eb_own
  | with_reducible apply DL.ex_set | with_reducible apply DL.ex_setN | with_reducible apply DL.ex_asg | with_reducible apply DL.ex_exp | with_reducible apply DL.ex_par | with_reducible apply DL.ex_par3 | with_reducible apply DL.ex_unp | with_reducible apply DL.ex_app | with_reducible apply DL.ex_ext | with_reducible apply DL.ex_fld | exact DL.ex_next | with_reducible apply DL.ex_seq
  | exact rfl | assumption | decide | intro _))
local macro_rules | `(tactic| walk_at "c") => `(tactic| first | with_reducible apply ev_row_made | with_reducible apply ev_spots_taken | with_reducible apply ev_is_table | with_reducible apply ev_are_heads | with_reducible apply ev_best_of | with_reducible apply ev_score_of | with_reducible apply ev_is_bounded | with_reducible apply ev_is_row | with_reducible apply ev_is_listed | with_reducible apply ev_is_within | with_reducible apply ev_is_integer)
local macro_rules | `(tactic| walk_at "s") => `(tactic| first
  | with_reducible apply DL.es_one | with_reducible (apply DL.es_stop (DL.es_ret ?_ ?_)) | with_reducible apply DL.es_if | with_reducible apply DL.es_ret | with_reducible apply DL.es_seq)
section
variable {P : Program} {w : World} {K : PySem.W.Frag} {mg : Str → Option Value} {base : Heap} {A : AD} {wn : WN} {ρ ρ1 : DL.Env}
/-! ### nets -/
def R_are_rows (ds : List D) (r : D) : Prop := ∃ d S, ∃ m n : Nat, ds = [d, .int m, .int n] ∧ (Rows d S ∧ S.length = m ∧ ∀ r ∈ S, bndR r n 999) ∧ r = .bl true
theorem ev_are_rows {d : D} {S : List (List Int)} {m n : Nat} (h : EvN wn ρ ρ1 [d, .int m, .int n]) (hn : Rows d S ∧ S.length = m ∧ ∀ r ∈ S, bndR r n 999) : Ev (wCall 3 (wfP R_are_rows) [] wn) ρ ρ1 (.bl true) := ev_callP h rfl ⟨d, S, m, n, rfl, hn, rfl⟩
theorem ok_are_rows (T : Txt K mg A) : FnOk P w K mg base CX0 4 A.a_are_rows A.d_are_rows ["value", "many", "length"] (spOf K 3 (wfP (R_are_rows))) := by
  refine dfnV T.F_are_rows sc_are_rows rfl (fun cdv A_ outer s H E hr => ⟨_, (dss_cons (ds_if ((dw_or (dt_not (dt_val (d_call (ok_is_listed T) (hr.mono (by decide)) (by rfl) T.m_is_listed T.F_is_listed.kp T.B_is_listed .nil (fun _ => .nil) pass0 (da_cons (dv 0) da_nil)))) (dw_or1 (dt_cmp (do_ne hr.units) (d_callB dc_len (by rfl) T.b_len (by decide +kernel) (da_cons (dv 0) da_nil)) (dv 1))))).dt (dss_one (ds_ret d_bl)) dss_nil)
      (dss_one (ds_ret (d_callB (dc_all rfl) (by rfl) T.b_all (by decide +kernel) (da_cons (dn_e (dn_lc [("row", 3)] rfl sc_are_rows.nd (di_seq (dv 0)) (show BlkOk ["value", "many", "length", "row"] (defScope s_are_rows) _ [("row", 3)] from blkOk_by (by decide +kernel)) (by decide) (fun _ _ _ _ _ => (dg_name 3 sc_are_rows.nd)) (fun _ _ _ _ _ => dts_nil) (fun _ _ _ _ _ => (d_call (ok_is_bounded T) (hr.mono (by decide)) (by rfl) T.m_is_bounded T.F_is_bounded.kp T.B_is_bounded .nil (fun _ => .nil) pass0 (da_cons (dv 3) (da_cons (dv 2) (da_cons (d_gI (by rfl) T.g_MOST_NUMBER) da_nil))))))) da_nil))))), fun ds d hl hw => ?_⟩)
  obtain ⟨d, S, m, n, rfl, ⟨hR, hm, hb⟩, rfl⟩ := hw
  have hsq := hR.seq
  obtain ⟨hn, xs, hi, hx, hr'⟩ := hR
  have hlen : (xs.map Prod.fst).length = m := by rw [List.length_map, ← hm, hx, List.length_map]
  apply es_if0
  · apply evT_cast
    · walk_at "e"
    · rw [hsq, hlen, deq_int]
      simp
  apply es_one
  apply es_ret
  · apply ev_cb
    · apply ev_cons
      · apply ev_fz
        apply ev_lc xs Prod.fst (fun x => .bl (isBnd x.1 (n : Nat) 999))
        · exact ei_seq (ev_v rfl) hi
        · rfl
        · rfl
        · intro x hx1
          refine ⟨_, eg_n, ?_, rfl⟩
          walk_at "e"
          exact (hr' x hx1).nn
      · exact ev_nil
    · exact ec_allM
  · have : xs.all (fun x => isBnd x.1 (n : Nat) 999) = true := by
      rw [List.all_eq_true]
      intro x hx1
      exact (hr' x hx1).bnd (hb x.2 (by rw [hx]; exact List.mem_map_of_mem hx1))
    rw [this]
local macro_rules | `(tactic| walk_at "c") => `(tactic| first | with_reducible apply ev_are_rows | with_reducible apply ev_row_made | with_reducible apply ev_spots_taken | with_reducible apply ev_is_table | with_reducible apply ev_are_heads | with_reducible apply ev_best_of | with_reducible apply ev_score_of | with_reducible apply ev_is_bounded | with_reducible apply ev_is_row | with_reducible apply ev_is_listed | with_reducible apply ev_is_within | with_reducible apply ev_is_integer)
def okRows (S : List (List Int)) (n : Nat) : Prop := 2 < S.length ∧ S.length ≤ 5 ∧ 1 ≤ n ∧ n ≤ 4 ∧ ∀ r ∈ S, bndR r n 999
def R_are_letter_rows (ds : List D) (r : D) : Prop := ∃ d S n, ds = [d] ∧ (Rows d S ∧ okRows S n) ∧ r = .bl true
theorem ev_are_letter_rows {d : D} {S : List (List Int)} {n : Nat} (h : EvN wn ρ ρ1 [d]) (hn : Rows d S ∧ okRows S n) : Ev (wCall 1 (wfP R_are_letter_rows) [] wn) ρ ρ1 (.bl true) := ev_callP h rfl ⟨d, S, n, rfl, hn, rfl⟩
theorem ok_are_letter_rows (T : Txt K mg A) : FnOk P w K mg base CX0 5 A.a_are_letter_rows A.d_are_letter_rows ["value"] (spOf K 1 (wfP (R_are_letter_rows))) := by
  refine dfnV T.F_are_letter_rows sc_are_letter_rows rfl (fun cdv A_ outer s H E hr => ⟨_, (dss_cons (ds_if ((dw_or (dt_not (dt_val (d_call (ok_is_listed T) (hr.mono (by decide)) (by rfl) T.m_is_listed T.F_is_listed.kp T.B_is_listed .nil (fun _ => .nil) pass0 (da_cons (dv 0) da_nil)))) (dw_or (dt_not (dt_chain do_lt do_le (d_gI (by rfl) T.g_LEAST_LETTERS) (d_callB dc_len (by rfl) T.b_len (by decide +kernel) (da_cons (dv 0) da_nil)) (d_op do_add (d_gI (by rfl) T.g_MOST_LETTERS) d_int))) (dw_or1 (dt_not (dt_val (d_call (ok_is_listed T) (hr.mono (by decide)) (by rfl) T.m_is_listed T.F_is_listed.kp T.B_is_listed .nil (fun _ => .nil) pass0 (da_cons (d_ix (dv 0) d_int) da_nil)))))))).dt (dss_one (ds_ret d_bl)) dss_nil)
      (dss_one (ds_ret (d_and (d_chain do_le do_le d_int (d_callB dc_len (by rfl) T.b_len (by decide +kernel) (da_cons (d_ix (dv 0) d_int) da_nil)) (d_gI (by rfl) T.g_MOST_LENGTH)) (d_one (d_call (ok_are_rows T) (hr.mono (by decide)) (by rfl) T.m_are_rows T.F_are_rows.kp T.B_are_rows .nil (fun _ => .nil) pass0 (da_cons (dv 0) (da_cons (d_callB dc_len (by rfl) T.b_len (by decide +kernel) (da_cons (dv 0) da_nil)) (da_cons (d_callB dc_len (by rfl) T.b_len (by decide +kernel) (da_cons (d_ix (dv 0) d_int) da_nil)) da_nil))))))))), fun ds d hl hw => ?_⟩)
  obtain ⟨d, S, n, rfl, ⟨hR, s1, s2, n1, n2, hb⟩, rfl⟩ := hw
  have hR0 := hR
  have hsq := hR.seq
  obtain ⟨hn, xs, hi, hx, hr'⟩ := hR
  have hlen : (xs.map Prod.fst).length = S.length := by rw [List.length_map, hx, List.length_map]
  cases xs with
  | nil => simp at hlen; omega
  | cons x0 xr =>
    have hr0 := hr' x0 List.mem_cons_self
    have hw0 : (x0.2.map D.int).length = n := by rw [List.length_map]; exact (hb x0.2 (by rw [hx]; exact List.mem_cons_self)).1
    have hn0 := hr0.2
    have h0 := hr0.1
    apply es_if0
    · apply evT_cast
      · apply ev_orT
        · walk_at "e"
        · intro _
          apply ev_orT
          · walk_at "e"
          · intro _
            apply ev_not
            apply ev_tst
            apply ev_is_listed
            · apply ev_cons
              · apply ev_op
                · walk_at "e"
                · walk_at "e"
                · exact er_ix hi atI_zero
              · exact ev_nil
            · exact hn0
      · rw [hsq, hr0.seq, hlen]
        simp
        omega
    apply es_one
    apply es_ret
    · apply ev_andR
      · apply ev_cast
        · apply ev_chain
          · walk_at "e"
          · apply ev_cb
            · apply ev_cons
              · apply ev_op
                · walk_at "e"
                · walk_at "e"
                · exact er_ix hi atI_zero
              · exact ev_nil
            · exact ec_len' h0 hw0
          · exact er_I0
          · intro _
            walk_at "e"
          · intro _
            exact er_I0
        · simp
          omega
      · apply ev_are_rows
        · apply ev_cons
          · walk_at "e"
          · apply ev_cons
            · exact ev_cb (ev_cons (ev_v rfl) ev_nil) (ec_len' hi hlen)
            · apply ev_cons
              · apply ev_cb
                · apply ev_cons
                  · apply ev_op
                    · walk_at "e"
                    · walk_at "e"
                    · exact er_ix hi atI_zero
                  · exact ev_nil
                · exact ec_len' h0 hw0
              · exact ev_nil
        · exact ⟨hR0, rfl, hb⟩
    · rfl
local macro_rules | `(tactic| walk_at "c") => `(tactic| first | with_reducible apply ev_are_letter_rows | with_reducible apply ev_are_rows | with_reducible apply ev_row_made | with_reducible apply ev_spots_taken | with_reducible apply ev_is_table | with_reducible apply ev_are_heads | with_reducible apply ev_best_of | with_reducible apply ev_score_of | with_reducible apply ev_is_bounded | with_reducible apply ev_is_row | with_reducible apply ev_is_listed | with_reducible apply ev_is_within | with_reducible apply ev_is_integer)
def chainOk : List Ly → Nat → Prop
  | [], _ => True
  | l :: r, n => l.n = n ∧ chainOk r l.T.length
def R_are_layers (A : AD) (ds : List D) (r : D) : Prop := ∃ d ls, ∃ n : Nat, ds = [d, .int n] ∧ (items d = some (ls.map (encL A)) ∧ ls.length ≤ 3 ∧ chainOk ls n) ∧ r = .bl true
theorem ev_are_layers {d : D} {ls : List Ly} {n : Nat} (h : EvN wn ρ ρ1 [d, .int n]) (hn : items d = some (ls.map (encL A)) ∧ ls.length ≤ 3 ∧ chainOk ls n) : Ev (wCall 2 (wfP (R_are_layers A)) [] wn) ρ ρ1 (.bl true) := ev_callP h rfl ⟨d, ls, n, rfl, hn, rfl⟩
def chainAt : List Ly → Nat → Nat → Nat
  | [], n, _ => n
  | _ :: _, n, 0 => n
  | l :: r, _, i + 1 => chainAt r l.T.length i
theorem chainOk_at : ∀ (ls : List Ly) (n i : Nat) (l : Ly), chainOk ls n → ls[i]? = some l → l.n = chainAt ls n i ∧ l.T.length = chainAt ls n (i + 1)
  | [], _, _, _, _, e => by simp at e
  | z :: r, n, 0, l, h, e => by
    simp at e
    subst e
    refine ⟨h.1, ?_⟩
    cases r <;> rfl
  | z :: r, n, i + 1, l, h, e => by
    simp only [List.getElem?_cons_succ] at e
    exact chainOk_at r z.T.length i l h.2 e
theorem ok_are_layers (T : Txt K mg A) : FnOk P w K mg base CX0 2 A.a_are_layers A.d_are_layers ["value", "length"] (spOf K 2 (wfP (R_are_layers A))) := by
  refine dfnV T.F_are_layers sc_are_layers rfl (fun cdv A_ outer s H E hr => ⟨_, (dss_cons (ds_if ((dw_or (dt_not (dt_val (d_call (ok_is_listed T) (hr.mono (by decide)) (by rfl) T.m_is_listed T.F_is_listed.kp T.B_is_listed .nil (fun _ => .nil) pass0 (da_cons (dv 0) da_nil)))) (dw_or (dt_cmp do_gt (d_callB dc_len (by rfl) T.b_len (by decide +kernel) (da_cons (dv 0) da_nil)) (d_gI (by rfl) T.g_MOST_LAYERS)) (dw_or1 (dt_not (dt_val (d_callB (dc_all rfl) (by rfl) T.b_all (by decide +kernel) (da_cons (dn_e (dn_lc [("layer", 2)] rfl sc_are_layers.nd (di_seq (dv 0)) (show BlkOk ["value", "length", "layer"] (defScope s_are_layers) _ [("layer", 2)] from blkOk_by (by decide +kernel)) (by decide) (fun _ _ _ _ _ => (dg_name 2 sc_are_layers.nd)) (fun _ _ _ _ _ => dts_nil) (fun _ _ _ _ _ => (d_isiC _ (by rfl) T.b_isinstance (by rfl) T.m_Layer (dv 2) (tOwn_ok T.q_Layer) (by decide +kernel))))) da_nil)))))))).dt (dss_one (ds_ret d_bl)) dss_nil)
      (dss_cons (ds_for PassesOwn.never rfl (di_seq (dv 0)) (dg_name 2 sc_are_layers.nd)
      (dss_cons (ds_if (dt_cmp (do_ne hr.units) (d_fld (ns := ns_Layer) (j := 4) T.cl_Layer T.n_Layer_length (by decide +kernel) (dv 2)) (dv 1)) (dss_one (ds_ret d_bl)) dss_nil)
      (dss_one (ds_set 1 sc_are_layers.nd (d_callB dc_len (by rfl) T.b_len (by decide +kernel) (da_cons (d_fld (ns := ns_Layer) (j := 1) T.cl_Layer T.n_Layer_table (by decide +kernel) (dv 2)) da_nil))))))
      (dss_one (ds_ret d_bl)))), fun ds d hl hw => ?_⟩)
  obtain ⟨d, ls, n, rfl, ⟨hi, hl3, hc⟩, rfl⟩ := hw
  have hn := noO_items hi
  have hsq := seq_items hi
  apply es_if0
  · apply evT_cast
    · apply ev_orT
      · walk_at "e"
      · intro _
        apply ev_orT
        · walk_at "e"
        · intro _
          apply ev_not
          apply ev_tst
          apply ev_cb
          · apply ev_cons
            · apply ev_fz
              apply ev_lc ls (encL A) (fun _ => .bl true)
              · exact ei_seq (ev_v rfl) hi
              · rfl
              · rfl
              · intro x hx
                refine ⟨_, eg_n, ?_, rfl⟩
                apply ev_isi
                · exact ev_v rfl
                · exact if_pos rfl
            · exact ev_nil
          · exact ec_allM
    · rw [hsq, List.length_map]
      simp
      omega
  apply es_one
  apply es_for (fun i ρ => ∃ x, ρ = [.val d, .val (.int (chainAt ls n i : Nat)), x])
  · exact ei_seq (ev_v rfl) hi
  · refine ⟨.un, ?_⟩
    cases ls <;> rfl
  · intro i e ρ he hI
    obtain ⟨x, rfl⟩ := hI
    rw [List.getElem?_map, Option.map_eq_some_iff] at he
    obtain ⟨l, hq, rfl⟩ := he
    obtain ⟨e1, e2⟩ := chainOk_at ls n i l hc hq
    apply Exists.intro
    apply Exists.intro
    apply And.intro
    · exact eg_n
    apply And.intro
    · apply ex_seq
      · apply ex_if0
        · apply evT_cast
          · walk_at "e"
          · rw [e1, deq_int]
            simp
        · exact ex_next
      · apply ex_set (x := .int (chainAt ls n (i + 1) : Nat))
        apply ev_cb
        · walk_at "e"
        · exact ec_len' rfl (by rw [List.length_map]; exact e2)
    · exact ⟨_, rfl⟩
  · rintro ρ ⟨x, rfl⟩
    apply es_ret <;> walk_at "e"
local macro_rules | `(tactic| walk_at "c") => `(tactic| first | with_reducible apply ev_are_layers | with_reducible apply ev_are_letter_rows | with_reducible apply ev_are_rows | with_reducible apply ev_row_made | with_reducible apply ev_spots_taken | with_reducible apply ev_is_table | with_reducible apply ev_are_heads | with_reducible apply ev_best_of | with_reducible apply ev_score_of | with_reducible apply ev_is_bounded | with_reducible apply ev_is_row | with_reducible apply ev_is_listed | with_reducible apply ev_is_within | with_reducible apply ev_is_integer)
end
end K28

set_option Elab.async false
set_option linter.all false
set_option maxRecDepth 100000
set_option maxHeartbeats 4000000
namespace K28
open PySem PySem.Spec PyProof.Rows L2 DL
local macro_rules | `(tactic| walk_at "e") => `(tactic| repeat' (first
  | walk_at "c" | exact DL.ev_v rfl | exact DL.ev_vz rfl | exact DL.ev_vzO rfl | exact DL.ev_C | exact DL.ev_nil
  | with_reducible apply DL.ev_op | with_reducible apply DL.ev_cb | with_reducible apply DL.ev_cbn | with_reducible apply DL.ev_cons | with_reducible apply DL.ev_fld
  | exact DL.er_I0 | with_reducible apply DL.er_I | exact DL.er_isN | exact DL.er_notN | with_reducible apply DL.er_eq | with_reducible apply DL.er_ne | with_reducible apply DL.er_ix
  | with_reducible apply DL.ev_tst | with_reducible apply DL.ev_not | with_reducible apply DL.ev_andT | with_reducible apply DL.ev_orT | with_reducible apply DL.ev_and | with_reducible apply DL.ev_or
  | with_reducible apply DL.ev_notV | with_reducible apply DL.ev_neg | with_reducible apply DL.ev_if | with_reducible apply DL.ev_chain
  | with_reducible apply DL.ev_fz | with_reducible apply DL.ev_star | with_reducible apply DL.ev_tup | with_reducible apply DL.ev_lst
  | with_reducible apply DL.ec_len | with_reducible apply DL.ec_tuple | with_reducible apply DL.ecn_list | exact DL.ec_int | exact DL.ec_intB | exact DL.ec_abs | exact DL.ec_max2 | exact DL.ec_min2 | exact DL.ec_sumM | exact DL.ec_allM | exact DL.ec_anyM
  | exact DL.eo_none | with_reducible apply DL.eo_some | with_reducible apply DL.ev_slT | with_reducible apply DL.ev_slL | with_reducible apply DL.ev_cat | with_reducible apply DL.ev_rep | with_reducible apply DL.ev_isi
  | with_reducible apply DL.ev_ixO | exact DL.ev_lenO rfl | exact DL.eg_n | with_reducible apply DL.eg_t | exact DL.egs_n | with_reducible apply DL.egs_c
  | with_reducible apply DL.ei_seq | with_reducible apply DL.ei_zip | with_reducible apply DL.ei_enum | with_reducible apply DL.ei_rng1 | with_reducible apply DL.ei_rng2
  | with_reducible apply DL.ev_callP | exact DL.eb_nil | with_reducible apply DL.eb_val | with_reducible apply DL.eb_own
  | with_reducible apply DL.ex_set | with_reducible apply DL.ex_setN | with_reducible apply DL.ex_asg | with_reducible apply DL.ex_exp | with_reducible apply DL.ex_par | with_reducible apply DL.ex_par3 | with_reducible apply DL.ex_unp | with_reducible apply DL.ex_app | with_reducible apply DL.ex_ext | with_reducible apply DL.ex_fld | exact DL.ex_next | with_reducible apply DL.ex_seq
  | exact rfl | assumption | decide | intro _))
local macro_rules | `(tactic| walk_at "c") => `(tactic| first | with_reducible apply ev_are_layers | with_reducible apply ev_are_letter_rows | with_reducible apply ev_are_rows | with_reducible apply ev_row_made | with_reducible apply ev_spots_taken | with_reducible apply ev_is_table | with_reducible apply ev_are_heads | with_reducible apply ev_best_of | with_reducible apply ev_score_of | with_reducible apply ev_is_bounded | with_reducible apply ev_is_row | with_reducible apply ev_is_listed | with_reducible apply ev_is_within | with_reducible apply ev_is_integer)
local macro_rules | `(tactic| walk_at "s") => `(tactic| first
  | with_reducible apply DL.es_one | with_reducible (apply DL.es_stop (DL.es_ret ?_ ?_)) | with_reducible apply DL.es_if | with_reducible apply DL.es_ret | with_reducible apply DL.es_seq)
section
variable {P : Program} {w : World} {K : PySem.W.Frag} {mg : Str → Option Value} {base : Heap} {A : AD} {wn : WN} {ρ ρ1 : DL.Env}
structure Nt where
  rows : List (List Int)
  ls : List Ly
  worths : List (List Int)
  n : Nat
def lastOf (N : Nt) : Nat := match N.ls.getLast? with
  | some l => l.T.length
  | none => N.n
def okN (N : Nt) : Prop := okRows N.rows N.n ∧ N.ls.length ≤ 3 ∧ chainOk N.ls N.n ∧ (∀ l ∈ N.ls, okL l) ∧ N.worths.length + 1 = N.rows.length ∧ ∀ r ∈ N.worths, bndR r (lastOf N) 999
def Nt.fl (A : AD) (N : Nt) : List D := [rowsT N.rows, .tup (N.ls.map (encL A)), rowsT N.worths, .int (N.worths.length : Nat), .tup (D.int (N.n : Nat) :: N.ls.map fun l => .int (l.T.length : Nat))]
def encN (A : AD) (N : Nt) : D := .obj A.c_Net ns_Net (N.fl A)
def R_Net_init (A : AD) (ds fl : List D) : Prop := ∃ rd ld wd, ∃ N : Nt, ds = [rd, ld, wd] ∧ (Rows rd N.rows ∧ items ld = some (N.ls.map (encL A)) ∧ Rows wd N.worths ∧ okN N) ∧ fl = N.fl A
theorem getLast_atI {l : List D} {x : D} (h : l.getLast? = some x) : atI l (-1) = some x := by
  unfold atI ixN
  cases l with
  | nil => cases h
  | cons a r =>
    rw [if_neg (by omega), if_pos (by rw [List.length_cons]; omega)]
    rw [List.getLast?_eq_getElem?] at h
    rw [← h]
    show (a :: r)[(-1 + ((a :: r).length : Int)).toNat]? = _
    congr 1
    omega
theorem ok_Net_init (T : Txt K mg A) : FnOk P w K mg base CX0 6 A.a_Net_init A.d_Net_init ["self", "rows", "layers", "worths"] (spOf K 4 (wfM A.c_Net ns_Net (R_Net_init A))) := by
  refine dfnM T.F_Net_init sc_Net_init rfl (fun cdv A_ outer s H E hr => ⟨_, (dss_cons (ds_if (dt_not (dt_val (d_call (ok_are_letter_rows T) (hr.mono (by decide)) (by rfl) T.m_are_letter_rows T.F_are_letter_rows.kp T.B_are_letter_rows .nil (fun _ => .nil) pass0 (da_cons (dv 1) da_nil)))) dss_never dss_nil)
      (dss_cons (ds_if (dt_not (dt_val (d_call (ok_are_layers T) (hr.mono (by decide)) (by rfl) T.m_are_layers T.F_are_layers.kp T.B_are_layers .nil (fun _ => .nil) pass0 (da_cons (dv 2) (da_cons (d_callB dc_len (by rfl) T.b_len (by decide +kernel) (da_cons (d_ix (dv 1) d_int) da_nil)) da_nil))))) dss_never dss_nil)
      (dss_cons (ds_set 4 sc_Net_init.nd (d_if (dt_cmp do_gt (d_callB dc_len (by rfl) T.b_len (by decide +kernel) (da_cons (dv 2) da_nil)) d_int) (d_callB dc_len (by rfl) T.b_len (by decide +kernel) (da_cons (d_fld (ns := ns_Layer) (j := 1) T.cl_Layer T.n_Layer_table (by decide +kernel) (d_ix (dv 2) (d_neg d_int))) da_nil)) (d_callB dc_len (by rfl) T.b_len (by decide +kernel) (da_cons (d_ix (dv 1) d_int) da_nil))))
      (dss_cons (ds_if (dt_not (dt_val (d_call (ok_are_rows T) (hr.mono (by decide)) (by rfl) T.m_are_rows T.F_are_rows.kp T.B_are_rows .nil (fun _ => .nil) pass0 (da_cons (dv 3) (da_cons (d_op do_sub (d_callB dc_len (by rfl) T.b_len (by decide +kernel) (da_cons (dv 1) da_nil)) d_int) (da_cons (dv 4) da_nil)))))) dss_never dss_nil)
      (dss_cons (ds_fldC 0 T.cl_Net T.n_Net_rows (d_callT dc_tuple (by rfl) T.b_tuple (by decide +kernel) (da_cons (dn_e (dn_lc [("row", 5)] rfl sc_Net_init.nd (di_seq (dv 1)) (show BlkOk ["self", "rows", "layers", "worths", "last", "row", "layer"] (defScope s_Net_init) _ [("row", 5)] from blkOk_by (by decide +kernel)) (by decide) (fun _ _ _ _ _ => (dg_name 5 sc_Net_init.nd)) (fun _ _ _ _ _ => dts_nil) (fun _ _ _ _ _ => (d_callT dc_tuple (by rfl) T.b_tuple (by decide +kernel) (da_cons (dv 5) da_nil))))) da_nil)))
      (dss_cons (ds_fldC 0 T.cl_Net T.n_Net_layers (d_callT dc_tuple (by rfl) T.b_tuple (by decide +kernel) (da_cons (dv 2) da_nil)))
      (dss_cons (ds_fldC 0 T.cl_Net T.n_Net_worths (d_callT dc_tuple (by rfl) T.b_tuple (by decide +kernel) (da_cons (dn_e (dn_lc [("row", 5)] rfl sc_Net_init.nd (di_seq (dv 3)) (show BlkOk ["self", "rows", "layers", "worths", "last", "row", "layer"] (defScope s_Net_init) _ [("row", 5)] from blkOk_by (by decide +kernel)) (by decide) (fun _ _ _ _ _ => (dg_name 5 sc_Net_init.nd)) (fun _ _ _ _ _ => dts_nil) (fun _ _ _ _ _ => (d_callT dc_tuple (by rfl) T.b_tuple (by decide +kernel) (da_cons (dv 5) da_nil))))) da_nil)))
      (dss_cons (ds_fldC 0 T.cl_Net T.n_Net_letters (d_callB dc_len (by rfl) T.b_len (by decide +kernel) (da_cons (dv 3) da_nil)))
      (dss_one (ds_fldC 0 T.cl_Net T.n_Net_lengths (d_callT dc_tuple (by rfl) T.b_tuple (by decide +kernel) (da_cons (dn_e (dn_cat (dn_e (dn_lst (da_cons (d_callB dc_len (by rfl) T.b_len (by decide +kernel) (da_cons (d_ix (dv 1) d_int) da_nil)) da_nil))) (dn_e (dn_lc [("layer", 6)] rfl sc_Net_init.nd (di_seq (dv 2)) (show BlkOk ["self", "rows", "layers", "worths", "last", "row", "layer"] (defScope s_Net_init) _ [("layer", 6)] from blkOk_by (by decide +kernel)) (by decide) (fun _ _ _ _ _ => (dg_name 6 sc_Net_init.nd)) (fun _ _ _ _ _ => dts_nil) (fun _ _ _ _ _ => (d_callB dc_len (by rfl) T.b_len (by decide +kernel) (da_cons (d_fld (ns := ns_Layer) (j := 1) T.cl_Layer T.n_Layer_table (by decide +kernel) (dv 6)) da_nil))))))) da_nil)))))))))))), fun p ds fl hl hw => ?_⟩)
  obtain ⟨rd, ld, wd, N, rfl, ⟨hR, hi2, hW, okr, hl3, hc, hok, hwl, hwb⟩, rfl⟩ := hw
  have hR0 := hR
  have hW0 := hW
  obtain ⟨hn, xs, hi, hx, hr'⟩ := hR
  obtain ⟨hnw, ys, hiw, hxw, hrw⟩ := hW
  have hlen : (xs.map Prod.fst).length = N.rows.length := by rw [List.length_map, hx, List.length_map]
  have hlenw : (ys.map Prod.fst).length = N.worths.length := by rw [List.length_map, hxw, List.length_map]
  cases xs with
  | nil => have := okr.1; simp at hlen; omega
  | cons x0 xr =>
    have hr0 := hr' x0 List.mem_cons_self
    have hw0 : (x0.2.map D.int).length = N.n := by rw [List.length_map]; exact (okr.2.2.2.2 x0.2 (by rw [hx]; exact List.mem_cons_self)).1
    have h0 := hr0.1
    have hrow0 : ∀ ρ : DL.Env, nth ρ 1 = .val rd → Ev (wCB wLen (wCons (wOp wIx (wv 1) (wC (.int 0))) wNil)) ρ ρ (.int (N.n : Nat)) := fun ρ hρ => by
      apply ev_cb
      · apply ev_cons
        · apply ev_op
          · exact ev_v hρ
          · exact ev_C
          · exact er_ix hi atI_zero
        · exact ev_nil
      · exact ec_len' h0 hw0
    apply Exists.intro
    apply And.intro
    · apply ex_seq
      · apply ex_if0
        · apply evT_cast
          · apply ev_not
            apply ev_tst
            apply ev_are_letter_rows
            · walk_at "e"
            · exact ⟨hR0, okr⟩
          · rfl
        · exact ex_next
      apply ex_seq
      · apply ex_if0
        · apply evT_cast
          · apply ev_not
            apply ev_tst
            apply ev_are_layers (n := N.n) (ls := N.ls)
            · apply ev_cons
              · walk_at "e"
              · apply ev_cons
                · exact hrow0 _ rfl
                · exact ev_nil
            · exact ⟨hi2, hl3, hc⟩
          · rfl
        · exact ex_next
      apply ex_seq
      · apply ex_set (x := .int (lastOf N : Nat)) (ρ1 := [.ins p A.c_Net [] [], .val rd, .val ld, .val wd, .un, .un, .un])
        cases hls : N.ls.getLast? with
        | none =>
          have : N.ls = [] := List.getLast?_eq_none_iff.mp hls
          rw [this] at hi2
          apply ev_ifF
          · apply evT_cast
            · walk_at "e"
            · rfl
          · apply ev_cast
            · exact hrow0 _ rfl
            · simp only [lastOf, hls]
        | some l =>
          have hg : (N.ls.map (encL A)).getLast? = some (encL A l) := by rw [List.getLast?_map, hls]; rfl
          have hpos : 0 < N.ls.length := by
            cases hz : N.ls with
            | nil => rw [hz] at hls; cases hls
            | cons _ _ => simp
          apply ev_ifT
          · apply evT_cast
            · walk_at "e"
            · rw [List.length_map]
              simp
              omega
          · apply ev_cast
            · apply ev_cb
              · apply ev_cons
                · apply ev_fld
                  · apply ev_op
                    · walk_at "e"
                    · walk_at "e"
                    · exact er_ix hi2 (getLast_atI hg)
                  · exact rfl
                · exact ev_nil
              · exact ec_len' rfl (List.length_map _)
            · simp only [lastOf, hls]
      apply ex_seq
      · apply ex_if0
        · apply evT_cast
          · apply ev_not
            apply ev_tst
            apply ev_are_rows (S := N.worths) (m := N.worths.length) (n := lastOf N)
            · apply ev_cons
              · walk_at "e"
              · apply ev_cons
                · apply ev_cast
                  · apply ev_op
                    · exact ev_cb (ev_cons (ev_v rfl) ev_nil) (ec_len' hi hlen)
                    · walk_at "e"
                    · exact er_I0
                  · congr 1
                    omega
                · walk_at "e"
            · exact ⟨hW0, rfl, hwb⟩
          · rfl
        · exact ex_next
      apply ex_seq
      · apply ex_fld (x := rowsT N.rows)
        · apply ev_cb
          · apply ev_cons
            · apply ev_fz
              apply ev_lc (x0 :: xr) Prod.fst (fun x => rowT x.2)
              · exact ei_seq (ev_v rfl) hi
              · rfl
              · rfl
              · intro x hx1
                have := (hr' x hx1).1
                exact ⟨_, eg_n, ev_cb (ev_cons (ev_v rfl) ev_nil) (ec_tuple this), rfl⟩
            · exact ev_nil
          · unfold rowsT
            rw [hx, List.map_map]
            exact ec_tuple rfl
        · exact rfl
        · decide
        · decide
      apply ex_seq
      · apply ex_fld (x := .tup (N.ls.map (encL A)))
        · exact ev_cb (ev_cons (ev_v rfl) ev_nil) (ec_tuple hi2)
        · exact rfl
        · decide
        · decide
      apply ex_seq
      · apply ex_fld (x := rowsT N.worths)
        · apply ev_cb
          · apply ev_cons
            · apply ev_fz
              apply ev_lc ys Prod.fst (fun x => rowT x.2)
              · exact ei_seq (ev_v rfl) hiw
              · rfl
              · rfl
              · intro x hx1
                have := (hrw x hx1).1
                exact ⟨_, eg_n, ev_cb (ev_cons (ev_v rfl) ev_nil) (ec_tuple this), rfl⟩
            · exact ev_nil
          · unfold rowsT
            rw [hxw, List.map_map]
            exact ec_tuple rfl
        · exact rfl
        · decide
        · decide
      apply ex_seq
      · apply ex_fld (x := .int (N.worths.length : Nat))
        · exact ev_cb (ev_cons (ev_v rfl) ev_nil) (ec_len' hiw hlenw)
        · exact rfl
        · decide
        · decide
      · apply ex_fld (x := .tup (D.int (N.n : Nat) :: N.ls.map fun l => .int (l.T.length : Nat)))
        · apply ev_cb
          · apply ev_cons
            · apply ev_fz
              apply ev_cat
              · apply ev_fz
                apply ev_lst
                · apply ev_cons
                  · exact hrow0 _ rfl
                  · exact ev_nil
                · simp
              · apply ev_fz
                apply ev_lc N.ls (encL A) (fun l => .int (l.T.length : Nat))
                · exact ei_seq (ev_v rfl) hi2
                · rfl
                · rfl
                · intro x hx1
                  refine ⟨_, eg_n, ?_, rfl⟩
                  apply ev_cb
                  · walk_at "e"
                  · exact ec_len' rfl (List.length_map _)
              · rw [List.length_map]
                simp
                omega
            · exact ev_nil
          · exact ec_tuple rfl
        · exact rfl
        · decide
        · decide
    · exact ⟨⟨rfl, trivial, trivial, trivial, trivial⟩, rfl⟩
/-! ### what is asked of a net and a text -/
def R_need_net (A : AD) (ds : List D) (r : D) : Prop := ∃ N, ds = [encN A N] ∧ r = .non
theorem ev_need_net {N : Nt} (h : EvN wn ρ ρ1 [encN A N]) : Ev (wCall 1 (wfP (R_need_net A)) [] wn) ρ ρ1 .non := ev_callP h rfl ⟨N, rfl, rfl⟩
theorem ok_need_net (T : Txt K mg A) : FnOk P w K mg base CX0 1 A.a_need_net A.d_need_net ["value"] (spOf K 1 (wfP (R_need_net A))) := by
  refine dfnV T.F_need_net sc_need_net rfl (fun cdv A_ outer s H E hr => ⟨_, (dss_one (ds_if (dt_not (dt_val (d_isiC _ (by rfl) T.b_isinstance (by rfl) T.m_Net (dv 0) (tOwn_ok T.q_Net) (by decide +kernel)))) dss_never dss_nil)), fun ds d hl hw => ?_⟩)
  obtain ⟨N, rfl, rfl⟩ := hw
  apply es_end
  apply ex_if0
  · apply evT_cast
    · apply ev_not
      apply ev_tst
      apply ev_isi
      · exact ev_v rfl
      · exact if_pos rfl
    · rfl
  · exact ex_next
local macro_rules | `(tactic| walk_at "c") => `(tactic| first | with_reducible apply ev_need_net | with_reducible apply ev_are_layers | with_reducible apply ev_are_letter_rows | with_reducible apply ev_are_rows | with_reducible apply ev_row_made | with_reducible apply ev_spots_taken | with_reducible apply ev_is_table | with_reducible apply ev_are_heads | with_reducible apply ev_best_of | with_reducible apply ev_score_of | with_reducible apply ev_is_bounded | with_reducible apply ev_is_row | with_reducible apply ev_is_listed | with_reducible apply ev_is_within | with_reducible apply ev_is_integer)
def textD (t : List Nat) : List D := t.map fun x => .int (x : Nat)
def okText (N : Nt) (t : List Nat) (m : Nat) : Prop := t.length ≤ m ∧ ∀ x ∈ t, x < N.worths.length
def R_need_text (A : AD) (ds : List D) (r : D) : Prop := ∃ N td t, ∃ m : Nat, ds = [encN A N, td, .int m] ∧ (items td = some (textD t) ∧ okText N t m) ∧ r = .non
theorem ev_need_text {N : Nt} {td : D} {t : List Nat} {m : Nat} (h : EvN wn ρ ρ1 [encN A N, td, .int m]) (hn : items td = some (textD t) ∧ okText N t m) : Ev (wCall 3 (wfP (R_need_text A)) [] wn) ρ ρ1 .non := ev_callP h rfl ⟨N, td, t, m, rfl, hn, rfl⟩
theorem ok_need_text (T : Txt K mg A) : FnOk P w K mg base CX0 3 A.a_need_text A.d_need_text ["net", "value", "most"] (spOf K 3 (wfP (R_need_text A))) := by
  refine dfnV T.F_need_text sc_need_text rfl (fun cdv A_ outer s H E hr => ⟨_, (dss_one (ds_if ((dw_or (dt_not (dt_val (d_call (ok_is_listed T) (hr.mono (by decide)) (by rfl) T.m_is_listed T.F_is_listed.kp T.B_is_listed .nil (fun _ => .nil) pass0 (da_cons (dv 1) da_nil)))) (dw_or (dt_cmp do_gt (d_callB dc_len (by rfl) T.b_len (by decide +kernel) (da_cons (dv 1) da_nil)) (dv 2)) (dw_or1 (dt_not (dt_val (d_callB (dc_all rfl) (by rfl) T.b_all (by decide +kernel) (da_cons (dn_e (dn_lc [("one", 3)] rfl sc_need_text.nd (di_seq (dv 1)) (show BlkOk ["net", "value", "most", "one"] (defScope s_need_text) _ [("one", 3)] from blkOk_by (by decide +kernel)) (by decide) (fun _ _ _ _ _ => (dg_name 3 sc_need_text.nd)) (fun _ _ _ _ _ => dts_nil) (fun _ _ _ _ _ => (d_call (ok_is_within T) (hr.mono (by decide)) (by rfl) T.m_is_within T.F_is_within.kp T.B_is_within .nil (fun _ => .nil) pass0 (da_cons (dv 3) (da_cons d_int (da_cons (d_op do_sub (d_fld (ns := ns_Net) (j := 3) T.cl_Net T.n_Net_letters (by decide +kernel) (dv 0)) d_int) da_nil))))))) da_nil)))))))).dt dss_never dss_nil)), fun ds d hl hw => ?_⟩)
  obtain ⟨N, td, t, m, rfl, ⟨hi, ht, hb⟩, rfl⟩ := hw
  have hn := noO_items hi
  have hsq := seq_items hi
  apply es_end
  apply ex_if0
  · apply evT_cast
    · apply ev_orT
      · walk_at "e"
      · intro _
        apply ev_orT
        · walk_at "e"
        · intro _
          apply ev_not
          apply ev_tst
          apply ev_cb
          · apply ev_cons
            · apply ev_fz
              apply ev_lc t (fun x => .int (x : Nat)) (fun _ => .bl true)
              · exact ei_seq (ev_v rfl) hi
              · rfl
              · rfl
              · intro x hx
                refine ⟨_, eg_n, ?_, rfl⟩
                apply ev_cast
                · apply ev_is_within (d := .int (x : Nat)) (lo := some 0) (hi := some ((N.worths.length : Nat) - 1))
                  · walk_at "e"
                  · rfl
                · have := hb x hx
                  simp [within, geO, leO]
                  omega
            · exact ev_nil
          · exact ec_allM
    · rw [hsq, textD, List.length_map]
      simp
      omega
  · exact ex_next
local macro_rules | `(tactic| walk_at "c") => `(tactic| first | with_reducible apply ev_need_text | with_reducible apply ev_need_net | with_reducible apply ev_are_layers | with_reducible apply ev_are_letter_rows | with_reducible apply ev_are_rows | with_reducible apply ev_row_made | with_reducible apply ev_spots_taken | with_reducible apply ev_is_table | with_reducible apply ev_are_heads | with_reducible apply ev_best_of | with_reducible apply ev_score_of | with_reducible apply ev_is_bounded | with_reducible apply ev_is_row | with_reducible apply ev_is_listed | with_reducible apply ev_is_within | with_reducible apply ev_is_integer)
def R_need_short (A : AD) (ds : List D) (r : D) : Prop := ∃ N td t, ds = [encN A N, td] ∧ (items td = some (textD t) ∧ okText N t 60) ∧ r = .non
theorem ev_need_short {N : Nt} {td : D} {t : List Nat} (h : EvN wn ρ ρ1 [encN A N, td]) (hn : items td = some (textD t) ∧ okText N t 60) : Ev (wCall 2 (wfP (R_need_short A)) [] wn) ρ ρ1 .non := ev_callP h rfl ⟨N, td, t, rfl, hn, rfl⟩
theorem ok_need_short (T : Txt K mg A) : FnOk P w K mg base CX0 4 A.a_need_short A.d_need_short ["net", "text"] (spOf K 2 (wfP (R_need_short A))) := by
  refine dfnV T.F_need_short sc_need_short rfl (fun cdv A_ outer s H E hr => ⟨_, (dss_cons (ds_exp (d_call (ok_need_net T) (hr.mono (by decide)) (by rfl) T.m_need_net T.F_need_net.kp T.B_need_net .nil (fun _ => .nil) pass0 (da_cons (dv 0) da_nil)))
      (dss_one (ds_exp (d_call (ok_need_text T) (hr.mono (by decide)) (by rfl) T.m_need_text T.F_need_text.kp T.B_need_text .nil (fun _ => .nil) pass0 (da_cons (dv 0) (da_cons (dv 1) (da_cons (d_gI (by rfl) T.g_MOST_SHORT) da_nil))))))), fun ds d hl hw => ?_⟩)
  obtain ⟨N, td, t, rfl, ⟨hi, ok⟩, rfl⟩ := hw
  apply es_end
  apply ex_seq
  · apply ex_exp
    apply ev_need_net (N := N)
    walk_at "e"
  · apply ex_exp
    apply ev_need_text (N := N) (m := 60) (t := t)
    · walk_at "e"
    · exact ⟨hi, ok⟩
local macro_rules | `(tactic| walk_at "c") => `(tactic| first | with_reducible apply ev_need_short | with_reducible apply ev_need_text | with_reducible apply ev_need_net | with_reducible apply ev_are_layers | with_reducible apply ev_are_letter_rows | with_reducible apply ev_are_rows | with_reducible apply ev_row_made | with_reducible apply ev_spots_taken | with_reducible apply ev_is_table | with_reducible apply ev_are_heads | with_reducible apply ev_best_of | with_reducible apply ev_score_of | with_reducible apply ev_is_bounded | with_reducible apply ev_is_row | with_reducible apply ev_is_listed | with_reducible apply ev_is_within | with_reducible apply ev_is_integer)
end
end K28

set_option Elab.async false
set_option linter.all false
set_option maxRecDepth 100000
set_option maxHeartbeats 4000000
namespace K28
open PySem PySem.Spec PyProof.Rows L2 DL
local macro_rules | `(tactic| walk_at "e") => `(tactic| repeat' (first
  | walk_at "c" | exact DL.ev_v rfl | exact DL.ev_vz rfl | exact DL.ev_vzO rfl | exact DL.ev_C | exact DL.ev_nil
  | with_reducible apply DL.ev_op | with_reducible apply DL.ev_cb | with_reducible apply DL.ev_cbn | with_reducible apply DL.ev_cons | with_reducible apply DL.ev_fld
  | exact DL.er_I0 | with_reducible apply DL.er_I | exact DL.er_isN | exact DL.er_notN | with_reducible apply DL.er_eq | with_reducible apply DL.er_ne | with_reducible apply DL.er_ix
  | with_reducible apply DL.ev_tst | with_reducible apply DL.ev_not | with_reducible apply DL.ev_andT | with_reducible apply DL.ev_orT | with_reducible apply DL.ev_and | with_reducible apply DL.ev_or
  | with_reducible apply DL.ev_notV | with_reducible apply DL.ev_neg | with_reducible apply DL.ev_if | with_reducible apply DL.ev_chain
  | with_reducible apply DL.ev_fz | with_reducible apply DL.ev_star | with_reducible apply DL.ev_tup | with_reducible apply DL.ev_lst
  | with_reducible apply DL.ec_len | with_reducible apply DL.ec_tuple | with_reducible apply DL.ecn_list | exact DL.ec_int | exact DL.ec_intB | exact DL.ec_abs | exact DL.ec_max2 | exact DL.ec_min2 | exact DL.ec_sumM | exact DL.ec_allM | exact DL.ec_anyM
  | exact DL.eo_none | with_reducible apply DL.eo_some | with_reducible apply DL.ev_slT | with_reducible apply DL.ev_slL | with_reducible apply DL.ev_cat | with_reducible apply DL.ev_rep | with_reducible apply DL.ev_isi
  | with_reducible apply DL.ev_ixO | exact DL.ev_lenO rfl | exact DL.eg_n | with_reducible apply DL.eg_t | exact DL.egs_n | with_reducible apply DL.egs_c
  | with_reducible apply DL.ei_seq | with_reducible apply DL.ei_zip | with_reducible apply DL.ei_enum | with_reducible apply DL.ei_rng1 | with_reducible apply DL.ei_rng2
  | with_reducible apply DL.ev_callP | exact DL.eb_nil | with_reducible apply DL.eb_val | with_reducible apply DL.eb_own
  | with_reducible apply DL.ex_set | with_reducible apply DL.ex_setN | with_reducible apply DL.ex_asg | with_reducible apply DL.ex_exp | with_reducible apply DL.ex_par | with_reducible apply DL.ex_par3 | with_reducible apply DL.ex_unp | with_reducible apply DL.ex_app | with_reducible apply DL.ex_ext | with_reducible apply DL.ex_fld | exact DL.ex_next | with_reducible apply DL.ex_seq
  | exact rfl | assumption | decide | intro _))
local macro_rules | `(tactic| walk_at "c") => `(tactic| first | with_reducible apply ev_need_short | with_reducible apply ev_need_text | with_reducible apply ev_need_net | with_reducible apply ev_are_layers | with_reducible apply ev_are_letter_rows | with_reducible apply ev_are_rows | with_reducible apply ev_row_made | with_reducible apply ev_spots_taken | with_reducible apply ev_is_table | with_reducible apply ev_are_heads | with_reducible apply ev_best_of | with_reducible apply ev_score_of | with_reducible apply ev_is_bounded | with_reducible apply ev_is_row | with_reducible apply ev_is_listed | with_reducible apply ev_is_within | with_reducible apply ev_is_integer)
local macro_rules | `(tactic| walk_at "s") => `(tactic| first
  | with_reducible apply DL.es_one | with_reducible (apply DL.es_stop (DL.es_ret ?_ ?_)) | with_reducible apply DL.es_if | with_reducible apply DL.es_ret | with_reducible apply DL.es_seq)
section
variable {P : Program} {w : World} {K : PySem.W.Frag} {mg : Str → Option Value} {base : Heap} {A : AD} {wn : WN} {ρ ρ1 : DL.Env}
/-! ### runs -/
def above (l : Ly) (rows : List (List Int)) : List (List Int) := rows.zipIdx.map fun p => rowMade l (rows.take p.2) p.1
def okLev (rows : List (List Int)) : Prop := rows.length ≤ 1000 ∧ okR rows
def R_rows_above (A : AD) (ds : List D) (r : D) : Prop := ∃ l rows, ds = [encL A l, rowsT rows] ∧ (okL l ∧ okLev rows) ∧ r = rowsT (above l rows)
theorem ev_rows_above {l : Ly} {rows : List (List Int)} (h : EvN wn ρ ρ1 [encL A l, rowsT rows]) (hn : okL l ∧ okLev rows) : Ev (wCall 2 (wfP (R_rows_above A)) [] wn) ρ ρ1 (rowsT (above l rows)) := ev_callP h rfl ⟨l, rows, rfl, hn, rfl⟩
theorem zipIdx_at {α : Type} {l : List α} {p : α × Nat} (h : p ∈ l.zipIdx) : l[p.2]? = some p.1 := by
  rw [List.mem_zipIdx_iff_getElem?] at h
  exact h
theorem okLev.pre {l : Ly} {rows : List (List Int)} {p : List Int × Nat} (h : okLev rows) (hp : p ∈ rows.zipIdx) : pre l (rows.take p.2) p.1 := by
  have e := zipIdx_at hp
  have e2 := List.mem_of_getElem? e
  refine ⟨?_, fun r hr => ?_⟩
  · rw [List.length_take]
    have := h.1
    omega
  · rw [List.mem_append, List.mem_singleton] at hr
    rcases hr with hr | rfl
    · exact h.2 r (List.mem_of_mem_take hr)
    · exact h.2 _ e2
theorem cut_rows {rows : List (List Int)} {k : Nat} (h : k ≤ rows.length) : D.tup (cutD (rows.map rowT) none (some (k : Int))) = rowsT (rows.take k) := by
  rw [cutD_to _ _ (by rw [List.length_map]; exact h)]
  unfold rowsT
  rw [List.map_take]
theorem zipIdx_le {α : Type} {l : List α} {p : α × Nat} (h : p ∈ l.zipIdx) : p.2 ≤ l.length := by
  have := (List.getElem?_eq_some_iff.mp (zipIdx_at h)).1
  omega
theorem ok_rows_above (T : Txt K mg A) : FnOk P w K mg base CX0 5 A.a_rows_above A.d_rows_above ["layer", "rows"] (spOf K 2 (wfP (R_rows_above A))) := by
  refine dfnV T.F_rows_above sc_rows_above rfl (fun cdv A_ outer s H E hr => ⟨_, (dss_one (ds_ret (d_callT dc_tuple (by rfl) T.b_tuple (by decide +kernel) (da_cons (dn_e (dn_lc [("at", 2), ("row", 3)] rfl sc_rows_above.nd (di_enum (by rfl) T.b_enumerate (da_cons (dv 1) da_nil)) (show BlkOk ["layer", "rows", "at", "row"] (defScope s_rows_above) _ [("at", 2), ("row", 3)] from blkOk_by (by decide +kernel)) (by decide) (fun _ _ _ _ _ => (dg_tup (n := 2) rfl (dgs_cons (dg_name 2 sc_rows_above.nd) (dgs_cons (dg_name 3 sc_rows_above.nd) dgs_nil)))) (fun _ _ _ _ _ => dts_nil) (fun _ _ _ _ _ => (d_call (ok_row_made T) (hr.mono (by decide)) (by rfl) T.m_row_made T.F_row_made.kp T.B_row_made .nil (fun _ => .nil) pass0 (da_cons (dv 0) (da_cons (d_sliceT (dv 1) do_none (do_some (dv 2))) (da_cons (dv 3) da_nil))))))) da_nil)))), fun ds d hl hw => ?_⟩)
  obtain ⟨l, rows, rfl, ⟨okl, okr⟩, rfl⟩ := hw
  apply es_ret
  · apply ev_cb
    · apply ev_cons
      · apply ev_fz
        apply ev_lc rows.zipIdx (fun p => .tup [.int (p.2 : Nat), rowT p.1]) (fun p => rowT (rowMade l (rows.take p.2) p.1))
        · apply ei_enum
          · walk_at "e"
          · exact rfl
        · exact enumD_map _ _
        · rfl
        · intro p hp
          refine ⟨_, eg_t rfl (egs_c eg_n (egs_c eg_n egs_n)), ?_, rfl⟩
          apply ev_row_made
          · apply ev_cons
            · walk_at "e"
            · apply ev_cons
              · apply ev_cast
                · apply ev_slT
                  · exact ev_v rfl
                  · exact eo_none
                  · exact eo_some (ev_v rfl)
                · exact cut_rows (zipIdx_le hp)
              · walk_at "e"
          · exact ⟨okl, okr.pre hp⟩
      · exact ev_nil
    · exact ec_tuple rfl
  · unfold rowsT above
    rw [List.map_map]
    rfl
local macro_rules | `(tactic| walk_at "c") => `(tactic| first | with_reducible apply ev_rows_above | with_reducible apply ev_need_short | with_reducible apply ev_need_text | with_reducible apply ev_need_net | with_reducible apply ev_are_layers | with_reducible apply ev_are_letter_rows | with_reducible apply ev_are_rows | with_reducible apply ev_row_made | with_reducible apply ev_spots_taken | with_reducible apply ev_is_table | with_reducible apply ev_are_heads | with_reducible apply ev_best_of | with_reducible apply ev_score_of | with_reducible apply ev_is_bounded | with_reducible apply ev_is_row | with_reducible apply ev_is_listed | with_reducible apply ev_is_within | with_reducible apply ev_is_integer)
def lev0 (N : Nt) (t : List Nat) : List (List Int) := N.rows.headD [] :: t.map fun x => N.rows[x + 1]?.getD []
def curAt (ls : List Ly) (c : List (List Int)) : List (List Int) := ls.foldl (fun rows l => above l rows) c
def levs (N : Nt) (t : List Nat) (k : Nat) : List (List (List Int)) := (List.range (k + 1)).map fun i => curAt (N.ls.take i) (lev0 N t)
def levels (N : Nt) (t : List Nat) : List (List (List Int)) := levs N t N.ls.length
def levelsT (N : Nt) (t : List Nat) : D := .tup ((levels N t).map rowsT)
def R_levels_of (A : AD) (ds : List D) (r : D) : Prop := ∃ N td t, ds = [encN A N, td] ∧ (items td = some (textD t) ∧ okN N ∧ okText N t 60) ∧ r = levelsT N t
theorem ev_levels_of {N : Nt} {td : D} {t : List Nat} (h : EvN wn ρ ρ1 [encN A N, td]) (hn : items td = some (textD t) ∧ okN N ∧ okText N t 60) : Ev (wCall 2 (wfP (R_levels_of A)) [] wn) ρ ρ1 (levelsT N t) := ev_callP h rfl ⟨N, td, t, rfl, hn, rfl⟩
theorem above_len (l : Ly) (rows : List (List Int)) : (above l rows).length = rows.length := by
  unfold above
  rw [List.length_map, List.length_zipIdx]
theorem rowMade_ok {l : Ly} (ok : okL l) (rows : List (List Int)) (row : List Int) : Sml (rowMade l rows row) ∧ (rowMade l rows row).length ≤ 4 := by
  unfold rowMade madeOf
  refine ⟨fun x hx => ?_, ?_⟩
  · rw [List.mem_map] at hx
    obtain ⟨p, _, rfl⟩ := hx
    have h1 := ok.2.2.1
    have h2 := ok.2.2.2
    unfold clip
    split <;> split <;> omega
  · have := ok.1.2.1
    rw [List.length_map, List.length_zip]
    omega
theorem above_ok {l : Ly} {rows : List (List Int)} (ok : okL l) (h : okLev rows) : okLev (above l rows) := by
  refine ⟨by rw [above_len]; exact h.1, fun r hr => ?_⟩
  unfold above at hr
  rw [List.mem_map] at hr
  obtain ⟨p, _, rfl⟩ := hr
  exact rowMade_ok ok _ _
theorem curAt_ok : ∀ {ls : List Ly} {c : List (List Int)}, (∀ l ∈ ls, okL l) → okLev c → okLev (curAt ls c)
  | [], _, _, h => h
  | l :: r, c, hl, h => curAt_ok (ls := r) (fun z hz => hl z (List.mem_cons_of_mem _ hz)) (above_ok (hl l List.mem_cons_self) h)
theorem row_sml {r : List Int} {n : Nat} (h : bndR r n 999) (hn : n ≤ 4) : Sml r ∧ r.length ≤ 4 := ⟨fun x hx => by
  have := h.2 x hx
  omega, by rw [h.1]; exact hn⟩
theorem lev0_ok {N : Nt} {t : List Nat} (ok : okN N) (ht : okText N t 60) : okLev (lev0 N t) := by
  have hr : ∀ r ∈ N.rows, Sml r ∧ r.length ≤ 4 := fun r hr => row_sml (ok.1.2.2.2.2 r hr) ok.1.2.2.2.1
  refine ⟨?_, fun r hr' => ?_⟩
  · unfold lev0
    rw [List.length_cons, List.length_map]
    have := ht.1
    omega
  · unfold lev0 at hr'
    rw [List.mem_cons, List.mem_map] at hr'
    rcases hr' with rfl | ⟨x, hx, rfl⟩
    · cases hz : N.rows with
      | nil => have := ok.1.1; rw [hz] at this; simp at this
      | cons a b => exact hr _ (by rw [hz]; exact List.mem_cons_self)
    · have h1 := ht.2 x hx
      have h2 := ok.2.2.2.2.1
      have h3 : x + 1 < N.rows.length := by omega
      rw [List.getElem?_eq_getElem h3]
      exact hr _ (List.getElem_mem h3)
theorem levs_succ {N : Nt} {t : List Nat} {k : Nat} {l : Ly} (h : N.ls[k]? = some l) : levs N t (k + 1) = levs N t k ++ [above l (curAt (N.ls.take k) (lev0 N t))] := by
  unfold levs
  rw [List.range_succ, List.map_append]
  congr 1
  simp only [List.map_cons, List.map_nil]
  rw [DL.take_snoc h]
  unfold curAt
  rw [List.foldl_append]
  rfl
theorem levs_last (N : Nt) (t : List Nat) (k : Nat) : (levs N t k).getLast? = some (curAt (N.ls.take k) (lev0 N t)) := by
  unfold levs
  rw [List.range_succ, List.map_append]
  simp
theorem ok_levels_of (T : Txt K mg A) : FnOk P w K mg base CX0 6 A.a_levels_of A.d_levels_of ["net", "text"] (spOf K 2 (wfP (R_levels_of A))) := by
  refine dfnV T.F_levels_of sc_levels_of rfl (fun cdv A_ outer s H E hr => ⟨_, (dss_cons (ds_setN 2 sc_levels_of.nd (dn_lst (da_cons (d_tup (da_cons (d_ix (d_fld (ns := ns_Net) (j := 0) T.cl_Net T.n_Net_rows (by decide +kernel) (dv 0)) d_int) (da_star (dn_e (dn_lc [("letter", 4)] rfl sc_levels_of.nd (di_seq (dv 1)) (show BlkOk ["net", "text", "found", "layer", "letter"] (defScope s_levels_of) _ [("letter", 4)] from blkOk_by (by decide +kernel)) (by decide) (fun _ _ _ _ _ => (dg_name 4 sc_levels_of.nd)) (fun _ _ _ _ _ => dts_nil) (fun _ _ _ _ _ => (d_ix (d_fld (ns := ns_Net) (j := 0) T.cl_Net T.n_Net_rows (by decide +kernel) (dv 0)) (d_op do_add (dv 4) d_int))))) da_nil))) da_nil)))
      (dss_cons (ds_for PassesOwn.never rfl (di_seq (d_fld (ns := ns_Net) (j := 1) T.cl_Net T.n_Net_layers (by decide +kernel) (dv 0))) (dg_name 3 sc_levels_of.nd)
      (dss_one (ds_app 2 (d_call (ok_rows_above T) (hr.mono (by decide)) (by rfl) T.m_rows_above T.F_rows_above.kp T.B_rows_above .nil (fun _ => .nil) pass0 (da_cons (dv 3) (da_cons (d_ixO 2 (d_neg d_int)) da_nil))))))
      (dss_one (ds_ret (d_callT dc_tuple (by rfl) T.b_tuple (by decide +kernel) (da_cons (dvz 2) da_nil)))))), fun ds d hl hw => ?_⟩)
  obtain ⟨N, td, t, rfl, ⟨hi, ok, ht⟩, rfl⟩ := hw
  have hr0 : N.rows ≠ [] := fun z => by have := ok.1.1; rw [z] at this; simp at this
  apply es_seq
  · apply ex_setN (l := (levs N t 0).map rowsT)
    apply evN_cast
    · apply ev_lst
      · apply ev_cons
        · apply ev_tup
          · apply ev_cons (d := rowT (N.rows.headD []))
            · apply ev_op
              · walk_at "e"
              · walk_at "e"
              · refine er_ix rfl ?_
                cases hz : N.rows with
                | nil => exact absurd hz hr0
                | cons a b => exact atI_zero
            · apply ev_star
              · apply ev_fz
                apply ev_lc t (fun x => .int (x : Nat)) (fun x => rowT (N.rows[x + 1]?.getD []))
                · apply ei_seq
                  · walk_at "e"
                  · exact hi
                · rfl
                · rfl
                · intro x hx
                  refine ⟨_, eg_n, ?_, rfl⟩
                  apply ev_op
                  · walk_at "e"
                  · walk_at "e"
                  · have h1 := ht.2 x hx
                    have h2 := ok.2.2.2.2.1
                    have h3 : x + 1 < N.rows.length := by omega
                    refine er_ix rfl ?_
                    rw [show ((x : Int) + 1) = ((x + 1 : Nat) : Int) by omega, DL.atI_nat, List.getElem?_map, List.getElem?_eq_getElem h3]
                    rfl
              · exact rfl
              · exact ev_nil
          · have := ht.1
            simp
            omega
        · exact ev_nil
      · simp
    · unfold levs
      simp only [List.range_one, List.map_cons, List.map_nil, List.take_zero, List.append_nil, Nat.zero_add]
      unfold curAt lev0 rowsT
      simp
  apply es_for (fun i ρ => ∃ x, ρ = [.val (encN A N), .val td, .own ((levs N t i).map rowsT), x, .un])
  · walk_at "e"
  · exact ⟨_, rfl⟩
  · intro i e ρ he hI
    obtain ⟨x, rfl⟩ := hI
    rw [List.getElem?_map, Option.map_eq_some_iff] at he
    obtain ⟨l, hq, rfl⟩ := he
    have hlk := (List.getElem?_eq_some_iff.mp hq).1
    apply Exists.intro
    apply Exists.intro
    apply And.intro
    · exact eg_n
    apply And.intro
    · apply ex_app
      · exact rfl
      · apply ev_rows_above (l := l) (rows := curAt (N.ls.take i) (lev0 N t))
        · apply ev_cons
          · walk_at "e"
          · apply ev_cons
            · apply ev_ixO
              · exact rfl
              · walk_at "e"
              · apply getLast_atI
                rw [List.getLast?_map, levs_last]
                rfl
            · exact ev_nil
        · exact ⟨ok.2.2.2.1 l (List.mem_of_getElem? hq), curAt_ok (fun z hz => ok.2.2.2.1 z (List.mem_of_mem_take hz)) (lev0_ok ok ht)⟩
      · exact rfl
      · have := ok.2.1
        unfold levs
        rw [List.length_map, List.length_map, List.length_range]
        omega
    · refine ⟨.val (encL A l), ?_⟩
      rw [levs_succ hq, List.map_append]
      rfl
  · rw [List.length_map]
    rintro ρ ⟨x, rfl⟩
    apply es_ret
    · walk_at "e"
    · rfl
local macro_rules | `(tactic| walk_at "c") => `(tactic| first | with_reducible apply ev_levels_of | with_reducible apply ev_rows_above | with_reducible apply ev_need_short | with_reducible apply ev_need_text | with_reducible apply ev_need_net | with_reducible apply ev_are_layers | with_reducible apply ev_are_letter_rows | with_reducible apply ev_are_rows | with_reducible apply ev_row_made | with_reducible apply ev_spots_taken | with_reducible apply ev_is_table | with_reducible apply ev_are_heads | with_reducible apply ev_best_of | with_reducible apply ev_score_of | with_reducible apply ev_is_bounded | with_reducible apply ev_is_row | with_reducible apply ev_is_listed | with_reducible apply ev_is_within | with_reducible apply ev_is_integer)
def placesOf (N : Nt) (t : List Nat) : List D := (N.ls.zip (levels N t)).map fun p => .tup (p.2.zipIdx.map fun q => spotsT p.1 (p.2.take q.2) q.1)
def R_places_of (A : AD) (ds : List D) (r : D) : Prop := ∃ N td t, ds = [encN A N, td] ∧ (items td = some (textD t) ∧ okN N ∧ okText N t 60) ∧ r = .tup (placesOf N t)
theorem ev_places_of {N : Nt} {td : D} {t : List Nat} (h : EvN wn ρ ρ1 [encN A N, td]) (hn : items td = some (textD t) ∧ okN N ∧ okText N t 60) : Ev (wCall 2 (wfP (R_places_of A)) [] wn) ρ ρ1 (.tup (placesOf N t)) := ev_callP h rfl ⟨N, td, t, rfl, hn, rfl⟩
theorem ok_places_of (T : Txt K mg A) : FnOk P w K mg base CX0 7 A.a_places_of A.d_places_of ["net", "text"] (spOf K 2 (wfP (R_places_of A))) := by
  refine dfnV T.F_places_of sc_places_of rfl (fun cdv A_ outer s H E hr => ⟨_, (dss_cons (ds_setN 2 sc_places_of.nd (dn_lst da_nil))
      (dss_cons (ds_for PassesOwn.never rfl (di_zip (by rfl) T.b_zip (da_cons (d_fld (ns := ns_Net) (j := 1) T.cl_Net T.n_Net_layers (by decide +kernel) (dv 0)) (da_cons (d_call (ok_levels_of T) (hr.mono (by decide)) (by rfl) T.m_levels_of T.F_levels_of.kp T.B_levels_of .nil (fun _ => .nil) pass0 (da_cons (dv 0) (da_cons (dv 1) da_nil))) da_nil))) (dg_tup (n := 2) rfl (dgs_cons (dg_name 3 sc_places_of.nd) (dgs_cons (dg_name 4 sc_places_of.nd) dgs_nil)))
      (dss_one (ds_app 2 (d_callT dc_tuple (by rfl) T.b_tuple (by decide +kernel) (da_cons (dn_e (dn_lc [("at", 5), ("row", 6)] rfl sc_places_of.nd (di_enum (by rfl) T.b_enumerate (da_cons (dv 4) da_nil)) (show BlkOk ["net", "text", "found", "layer", "rows", "at", "row"] (defScope s_places_of) _ [("at", 5), ("row", 6)] from blkOk_by (by decide +kernel)) (by decide) (fun _ _ _ _ _ => (dg_tup (n := 2) rfl (dgs_cons (dg_name 5 sc_places_of.nd) (dgs_cons (dg_name 6 sc_places_of.nd) dgs_nil)))) (fun _ _ _ _ _ => dts_nil) (fun _ _ _ _ _ => (d_call (ok_spots_taken T) (hr.mono (by decide)) (by rfl) T.m_spots_taken T.F_spots_taken.kp T.B_spots_taken .nil (fun _ => .nil) pass0 (da_cons (dv 3) (da_cons (d_sliceT (dv 4) do_none (do_some (dv 5))) (da_cons (dv 6) da_nil))))))) da_nil)))))
      (dss_one (ds_ret (d_callT dc_tuple (by rfl) T.b_tuple (by decide +kernel) (da_cons (dvz 2) da_nil)))))), fun ds d hl hw => ?_⟩)
  obtain ⟨N, td, t, rfl, ⟨hi, ok, ht⟩, rfl⟩ := hw
  apply es_seq
  · walk_at "e"
  apply es_for (fun i ρ => ∃ x y, ρ = [.val (encN A N), .val td, .own ((placesOf N t).take i), x, y, .un, .un])
  · apply ei_zip
    · walk_at "e"
      exact ⟨hi, ok, ht⟩
    · exact rfl
    · exact rfl
  · exact ⟨_, _, rfl⟩
  · rw [zipD_map]
    intro i e ρ he hI
    obtain ⟨x, y, rfl⟩ := hI
    rw [List.getElem?_map, Option.map_eq_some_iff] at he
    obtain ⟨p, hq, rfl⟩ := he
    have hok : okLev p.2 := by
      have := (List.of_mem_zip (List.mem_of_getElem? hq)).2
      unfold levels levs at this
      rw [List.mem_map] at this
      obtain ⟨k, _, e⟩ := this
      rw [← e]
      exact curAt_ok (fun z hz => ok.2.2.2.1 z (List.mem_of_mem_take hz)) (lev0_ok ok ht)
    have e1 : (placesOf N t).take (i + 1) = (placesOf N t).take i ++ [.tup (p.2.zipIdx.map fun q => spotsT p.1 (p.2.take q.2) q.1)] := by
      apply DL.take_snoc
      unfold placesOf
      rw [List.getElem?_map, hq]
      rfl
    rw [e1]
    apply Exists.intro
    apply Exists.intro
    apply And.intro
    · exact eg_t rfl (egs_c eg_n (egs_c eg_n egs_n))
    apply And.intro
    · apply ex_app
      · exact rfl
      · apply ev_cb
        · apply ev_cons
          · apply ev_fz
            apply ev_lc p.2.zipIdx (fun q => .tup [.int (q.2 : Nat), rowT q.1]) (fun q => spotsT p.1 (p.2.take q.2) q.1)
            · apply ei_enum
              · walk_at "e"
              · exact rfl
            · exact enumD_map _ _
            · rfl
            · intro q hq
              refine ⟨_, eg_t rfl (egs_c eg_n (egs_c eg_n egs_n)), ?_, rfl⟩
              apply ev_spots_taken
              · apply ev_cons
                · walk_at "e"
                · apply ev_cons
                  · apply ev_cast
                    · apply ev_slT
                      · exact ev_v rfl
                      · exact eo_none
                      · exact eo_some (ev_v rfl)
                    · exact cut_rows (zipIdx_le hq)
                  · walk_at "e"
              · exact hok.pre hq
          · exact ev_nil
        · exact ec_tuple rfl
      · exact rfl
      · have := ok.2.1
        unfold placesOf
        rw [List.length_take, List.length_map, List.length_zip]
        omega
    · exact ⟨_, _, rfl⟩
  · rw [zipD_map, List.length_map]
    rintro ρ ⟨x, y, rfl⟩
    have e3 : (N.ls.zip (levels N t)).length = (placesOf N t).length := by
      unfold placesOf
      rw [List.length_map]
    rw [e3, List.take_length]
    apply es_ret
    · walk_at "e"
    · rfl
local macro_rules | `(tactic| walk_at "c") => `(tactic| first | with_reducible apply ev_places_of | with_reducible apply ev_levels_of | with_reducible apply ev_rows_above | with_reducible apply ev_need_short | with_reducible apply ev_need_text | with_reducible apply ev_need_net | with_reducible apply ev_are_layers | with_reducible apply ev_are_letter_rows | with_reducible apply ev_are_rows | with_reducible apply ev_row_made | with_reducible apply ev_spots_taken | with_reducible apply ev_is_table | with_reducible apply ev_are_heads | with_reducible apply ev_best_of | with_reducible apply ev_score_of | with_reducible apply ev_is_bounded | with_reducible apply ev_is_row | with_reducible apply ev_is_listed | with_reducible apply ev_is_within | with_reducible apply ev_is_integer)
def R_levels_behind (A : AD) (ds : List D) (r : D) : Prop := R_levels_of A ds r
theorem ev_levels_behind {N : Nt} {td : D} {t : List Nat} (h : EvN wn ρ ρ1 [encN A N, td]) (hn : items td = some (textD t) ∧ okN N ∧ okText N t 60) : Ev (wCall 2 (wfP (R_levels_behind A)) [] wn) ρ ρ1 (levelsT N t) := ev_callP h rfl ⟨N, td, t, rfl, hn, rfl⟩
theorem ok_levels_behind (T : Txt K mg A) : FnOk P w K mg base CX0 7 A.a_levels_behind A.d_levels_behind ["net", "text"] (spOf K 2 (wfP (R_levels_behind A))) := by
  refine dfnV T.F_levels_behind sc_levels_behind rfl (fun cdv A_ outer s H E hr => ⟨_, (dss_cons (ds_exp (d_call (ok_need_short T) (hr.mono (by decide)) (by rfl) T.m_need_short T.F_need_short.kp T.B_need_short .nil (fun _ => .nil) pass0 (da_cons (dv 0) (da_cons (dv 1) da_nil))))
      (dss_one (ds_ret (d_call (ok_levels_of T) (hr.mono (by decide)) (by rfl) T.m_levels_of T.F_levels_of.kp T.B_levels_of .nil (fun _ => .nil) pass0 (da_cons (dv 0) (da_cons (dv 1) da_nil)))))), fun ds d hl hw => ?_⟩)
  obtain ⟨N, td, t, rfl, ⟨hi, ok, ht⟩, rfl⟩ := hw
  apply es_seq
  · apply ex_exp
    apply ev_need_short (N := N)
    · walk_at "e"
    · exact ⟨hi, ht⟩
  · apply es_ret
    · apply ev_levels_of (N := N)
      · walk_at "e"
      · exact ⟨hi, ok, ht⟩
    · rfl
def R_places_behind (A : AD) (ds : List D) (r : D) : Prop := R_places_of A ds r
theorem ev_places_behind {N : Nt} {td : D} {t : List Nat} (h : EvN wn ρ ρ1 [encN A N, td]) (hn : items td = some (textD t) ∧ okN N ∧ okText N t 60) : Ev (wCall 2 (wfP (R_places_behind A)) [] wn) ρ ρ1 (.tup (placesOf N t)) := ev_callP h rfl ⟨N, td, t, rfl, hn, rfl⟩
theorem ok_places_behind (T : Txt K mg A) : FnOk P w K mg base CX0 8 A.a_places_behind A.d_places_behind ["net", "text"] (spOf K 2 (wfP (R_places_behind A))) := by
  refine dfnV T.F_places_behind sc_places_behind rfl (fun cdv A_ outer s H E hr => ⟨_, (dss_cons (ds_exp (d_call (ok_need_short T) (hr.mono (by decide)) (by rfl) T.m_need_short T.F_need_short.kp T.B_need_short .nil (fun _ => .nil) pass0 (da_cons (dv 0) (da_cons (dv 1) da_nil))))
      (dss_one (ds_ret (d_call (ok_places_of T) (hr.mono (by decide)) (by rfl) T.m_places_of T.F_places_of.kp T.B_places_of .nil (fun _ => .nil) pass0 (da_cons (dv 0) (da_cons (dv 1) da_nil)))))), fun ds d hl hw => ?_⟩)
  obtain ⟨N, td, t, rfl, ⟨hi, ok, ht⟩, rfl⟩ := hw
  apply es_seq
  · apply ex_exp
    apply ev_need_short (N := N)
    · walk_at "e"
    · exact ⟨hi, ht⟩
  · apply es_ret
    · apply ev_places_of (N := N)
      · walk_at "e"
      · exact ⟨hi, ok, ht⟩
    · rfl
end
end K28

set_option Elab.async false
set_option linter.all false
set_option maxRecDepth 100000
set_option maxHeartbeats 4000000
namespace K28
open PySem PySem.Spec PyProof.Rows L2 DL
local macro_rules | `(tactic| walk_at "h") => `(tactic| repeat' (first
  | exact DL.pw0 rfl | exact DL.pw1 rfl | exact DL.pw2 rfl | exact DL.pwLen rfl (by assumption) (by assumption) | exact DL.he_var rfl | exact DL.he_c | exact DL.pwNe rfl (by assumption) (by assumption)
  | with_reducible apply DL.he_I0 | with_reducible apply DL.he_I | with_reducible apply DL.he_intLt | with_reducible apply DL.he_int | with_reducible apply DL.he_intB | with_reducible apply DL.he_abs
  | with_reducible apply DL.ht_test | with_reducible apply DL.ht_and | intro _))
section
variable {P : Program} {w : World} {K : PySem.W.Frag} {mg : Str → Option Value} {base : Heap} {A : AD}
theorem ok__law_draw (T : Txt K mg A) : FnOk P w K mg base CX0 1 A.a__law_draw A.d__law_draw ["pen", "many"] (spOf K 2 wfDraw) := by
  refine T.F__law_draw.ok sc__law_draw (fun vs H Q E h => ?_) (fun cdv A_ outer s H vs Q E hr h => ?_)
  · obtain ⟨Fz, bs, post, I, hl, _⟩ := h
    have := I.len
    rw [List.length_map] at this
    show vs.length = 2
    omega
  · refine ⟨_, (show PSs (cxOf CX0 P w K mg base ["pen", "many", "digit", "at", "cell", "great", "mixed"] "_law_draw" (defScope s__law_draw) A.a__law_draw cdv A_ outer s H E).nox (defBody s__law_draw) _ from
      (pss_cons (ps_if (pt_cmpR op_gt (pe_ix ix_list (pe_var (i := 0) rfl (Or.inl rfl) (by decide) (by decide)) pe_int (fun _ _ => rfl)) pe_int (nomark _)) (pss_cons (ps_set (i := 2) sc__law_draw.nd rfl (Or.inl rfl) (pe_op op_mod (pe_callTy call_int1 (by rfl) T.b_int (by decide +kernel) (pa_cons (pe_ix ix_list (pe_var (i := 0) rfl (Or.inl rfl) (by decide) (by decide)) pe_int (fun _ _ => rfl)) pa_nil) (by decide +kernel)) (pe_var (i := 1) rfl (Or.inl rfl) (by decide) (by decide))))
      (pss_cons (ps_asg (pe_op op_fdiv (pe_callTy call_int1 (by rfl) T.b_int (by decide +kernel) (pa_cons (pe_ix ix_list (pe_var (i := 0) rfl (Or.inl rfl) (by decide) (by decide)) pe_int (fun _ _ => rfl)) pa_nil) (by decide +kernel)) (pe_var (i := 1) rfl (Or.inl rfl) (by decide) (by decide))) (pg_sub (pe_var (i := 0) rfl (Or.inl rfl) (by decide) (by decide)) pe_int set_list))
      (pss_one (ps_ret (pe_var (i := 2) rfl (Or.inl rfl) (by decide) (by decide)))))) pss_nil)
      (pss_cons (ps_set (i := 3) sc__law_draw.nd rfl (Or.inl rfl) (pe_ix ix_list (pe_var (i := 0) rfl (Or.inl rfl) (by decide) (by decide)) pe_int (fun _ _ => rfl)))
      (pss_cons (ps_asg (pe_op op_add (pe_var (i := 3) rfl (Or.inl rfl) (by decide) (by decide)) pe_int) (pg_sub (pe_var (i := 0) rfl (Or.inl rfl) (by decide) (by decide)) pe_int set_list))
      (pss_cons (ps_set (i := 4) sc__law_draw.nd rfl (Or.inl rfl) (pe_op op_add (pe_op op_mul pe_int (pe_var (i := 3) rfl (Or.inl rfl) (by decide) (by decide))) pe_int))
      (pss_cons (ps_if (pt_cmpR (op_neD hr.units) (pe_ix ix_list (pe_var (i := 0) rfl (Or.inl rfl) (by decide) (by decide)) pe_int (fun _ _ => rfl)) (pe_lst pa_nil) (nomark _)) (pss_one (ps_set (i := 4) sc__law_draw.nd rfl (Or.inl rfl) (pe_ix ix_list (pe_ix ix_list (pe_var (i := 0) rfl (Or.inl rfl) (by decide) (by decide)) pe_int (fun _ _ => rfl)) (pe_op op_mod (pe_callTy call_int1 (by rfl) T.b_int (by decide +kernel) (pa_cons (pe_var (i := 3) rfl (Or.inl rfl) (by decide) (by decide)) pa_nil) (by decide +kernel)) (pe_callB call_len_seq (by rfl) T.b_len (by decide +kernel) (pa_cons (pe_ix ix_list (pe_var (i := 0) rfl (Or.inl rfl) (by decide) (by decide)) pe_int (fun _ _ => rfl)) pa_nil))) (fun _ _ => rfl)))) pss_nil)
      (pss_cons (ps_if ((pw_and (pt_cmpR op_lt (pe_var (i := 3) rfl (Or.inl rfl) (by decide) (by decide)) (pe_callB call_len_seq (by rfl) T.b_len (by decide +kernel) (pa_cons (pe_ix ix_list (pe_var (i := 0) rfl (Or.inl rfl) (by decide) (by decide)) pe_int (fun _ _ => rfl)) pa_nil)) (nomark _)) (pw_and1 (pt_cmpR op_ge (pe_callB call_abs (by rfl) T.b_abs (by decide +kernel) (pa_cons (pe_var (i := 4) rfl (Or.inl rfl) (by decide) (by decide)) pa_nil)) (pe_op op_pow pe_int pe_int) (nomark _))))).pt (pss_cons (ps_set (i := 5) sc__law_draw.nd rfl (Or.inl rfl) (pe_op op_add (pe_op op_mul pe_int (pe_op op_sub (pe_callB call_abs (by rfl) T.b_abs (by decide +kernel) (pa_cons (pe_var (i := 4) rfl (Or.inl rfl) (by decide) (by decide)) pa_nil)) (pe_op op_pow pe_int pe_int))) (pe_callTy call_int1 (by rfl) T.b_int (by decide +kernel) (pa_cons (pe_cmpR op_lt (pe_var (i := 4) rfl (Or.inl rfl) (by decide) (by decide)) pe_int (nomark _)) pa_nil) (by decide +kernel))))
      (pss_cons (ps_asg (pe_op op_fdiv (pe_callTy call_int1 (by rfl) T.b_int (by decide +kernel) (pa_cons (pe_var (i := 5) rfl (Or.inl rfl) (by decide) (by decide)) pa_nil) (by decide +kernel)) (pe_var (i := 1) rfl (Or.inl rfl) (by decide) (by decide))) (pg_sub (pe_var (i := 0) rfl (Or.inl rfl) (by decide) (by decide)) pe_int set_list))
      (pss_one (ps_ret (pe_op op_mod (pe_callTy call_int1 (by rfl) T.b_int (by decide +kernel) (pa_cons (pe_var (i := 5) rfl (Or.inl rfl) (by decide) (by decide)) pa_nil) (by decide +kernel)) (pe_var (i := 1) rfl (Or.inl rfl) (by decide) (by decide))))))) pss_nil)
      (pss_cons (ps_set (i := 6) sc__law_draw.nd rfl (Or.inl rfl) (pe_op op_mod (pe_callTy call_int1 (by rfl) T.b_int (by decide +kernel) (pa_cons (pe_op op_pow (pe_op op_add (pe_op op_add (pe_op op_mod (pe_callTy call_int1 (by rfl) T.b_int (by decide +kernel) (pa_cons (pe_var (i := 4) rfl (Or.inl rfl) (by decide) (by decide)) pa_nil) (by decide +kernel)) pe_int) (pe_op op_mul pe_int (pe_var (i := 3) rfl (Or.inl rfl) (by decide) (by decide)))) pe_int) pe_int) pa_nil) (by decide +kernel)) pe_int))
      (pss_cons (ps_set (i := 6) sc__law_draw.nd rfl (Or.inl rfl) (pe_op op_mod (pe_callTy call_int1 (by rfl) T.b_int (by decide +kernel) (pa_cons (pe_op op_pow (pe_op op_add (pe_op op_add (pe_op op_mul (pe_var (i := 6) rfl (Or.inl rfl) (by decide) (by decide)) (pe_op op_add (pe_op op_mul pe_int (pe_var (i := 3) rfl (Or.inl rfl) (by decide) (by decide))) pe_int)) (pe_op op_mul (pe_op op_mul pe_int (pe_var (i := 3) rfl (Or.inl rfl) (by decide) (by decide))) (pe_var (i := 3) rfl (Or.inl rfl) (by decide) (by decide)))) pe_int) pe_int) pa_nil) (by decide +kernel)) pe_int))
      (pss_one (ps_ret (pe_op op_mod (pe_callTy call_int1 (by rfl) T.b_int (by decide +kernel) (pa_cons (pe_op op_fdiv (pe_var (i := 6) rfl (Or.inl rfl) (by decide) (by decide)) pe_int) pa_nil) (by decide +kernel)) (pe_var (i := 1) rfl (Or.inl rfl) (by decide) (by decide)))))))))))))).nox, ?_⟩
    obtain ⟨Fz, bs, post, I, hl, hw, q⟩ := h
    obtain ⟨p, c, cells, a, r, k, m, rfl, hc, hcp, hlen, a0, ak, r0, ⟨m0, m1, k1⟩, hP, hq⟩ := draw_start I hw q
    apply hs_ifN (I := Pw H p c a r) (σ := start ["pen", "many", "digit", "at", "cell", "great", "mixed"] [V.ref p, V.int (m : Nat)])
    · walk_at "h"
    · exact hP
    · intro hr0 H1 h1
      have hr1 : 0 < r := of_decide_eq_true hr0
      apply hs_set (I := Pw H p c a r)
      · walk_at "h"
        show (0 : Int) < (m : Int)
        omega
      · exact h1
      intro H2 h2
      apply hs_put (I := Pw H p c a r) (J := Pw H p c a (r / (m : Nat)))
      · walk_at "h"
        exact ⟨by omega, by omega⟩
      · exact h2
      · rfl
      · exact fun H h => ⟨_, _, h.pen, rfl, h.put⟩
      intro H3 h3
      apply hs_ret (I := Pw H p c a (r / (m : Nat)))
      · walk_at "h"
      · exact h3
      intro H4 h4
      exact hq _ a (r / (m : Nat)) H4 (Int.emod_nonneg _ (by omega)) (Int.emod_lt_of_pos _ (by omega)) a0 (by omega) (Int.ediv_nonneg r0 (by omega)) h4
    intro _ H1 h1
    apply hs_set (I := Pw H p c a r)
    · walk_at "h"
    · exact h1
    intro H2 h2
    apply hs_put (I := Pw H p c a r) (J := Pw H p c (a + 1) r)
    · walk_at "h"
    · exact h2
    · rfl
    · exact fun H h => ⟨_, _, h.pen, rfl, h.put⟩
    intro H3 h3
    apply hs_set (I := Pw H p c (a + 1) r)
    · walk_at "h"
      exact .inl ⟨by decide, by decide⟩
    · exact h3
    intro H4 h4
    apply hs_ifSet (I := Pw H p c (a + 1) r)
    · walk_at "h"
    · exact h4
    · intro hne
      have hne' : cells ≠ [] := by simpa using hne
      have hpos : 0 < cells.length := List.length_pos_iff.mpr hne'
      have hj : (a % (cells.length : Nat)).toNat < cells.length := by
        have h1 := Int.emod_nonneg a (b := (cells.length : Nat)) (by omega)
        have h2 := Int.emod_lt_of_pos a (b := (cells.length : Nat)) (by omega)
        omega
      refine ⟨cells[(a % (cells.length : Nat)).toNat], pwCell rfl hc hcp (b := a % (cells.length : Nat)) ?_ ?_⟩
      · walk_at "h"
        show (0 : Int) < (cells.length : Nat)
        omega
      · have h1 := Int.emod_nonneg a (b := (cells.length : Nat)) (by omega)
        conv => lhs; rw [show a % (cells.length : Nat) = ((a % (cells.length : Nat)).toNat : Int) by omega]
        rw [DL.atI_nat, List.getElem?_eq_getElem hj]
    intro cell H5 h5
    apply hs_ifN (I := Pw H p c (a + 1) r)
    · walk_at "h"
      all_goals exact ⟨by decide, by decide, by decide⟩
    · exact h5
    · intro hb H6 h6
      rw [Bool.and_eq_true] at hb
      have hb2 := of_decide_eq_true hb.2
      have g0 : ∀ z : Bool, 0 ≤ 2 * ((if cell < 0 then -cell else cell) - 10 ^ (18 : Int).toNat) + (if z = true then 1 else 0) := fun z => by
        have e : (10 : Int) ^ (18 : Int).toNat = 1000000000000000000 := by decide
        rw [e] at hb2 ⊢
        split <;> omega
      apply hs_set (I := Pw H p c (a + 1) r)
      · walk_at "h"
        · exact ⟨by decide, by decide, by decide⟩
        · exact .inl ⟨by decide, by decide⟩
      · exact h6
      intro H7 h7
      have g1 := g0 (decide (cell < 0))
      generalize 2 * ((if cell < 0 then -cell else cell) - 10 ^ (18 : Int).toNat) + (if decide (cell < 0) = true then 1 else 0) = great at g1
      apply hs_put (I := Pw H p c (a + 1) r) (J := Pw H p c (a + 1) (great / (m : Nat)))
      · walk_at "h"
        exact ⟨by omega, by omega⟩
      · exact h7
      · rfl
      · exact fun H h => ⟨_, _, h.pen, rfl, h.put⟩
      intro H8 h8
      apply hs_ret (I := Pw H p c (a + 1) (great / (m : Nat)))
      · walk_at "h"
        show (0 : Int) < (m : Int)
        omega
      · exact h8
      intro H9 h9
      exact hq _ (a + 1) (great / (m : Nat)) H9 (Int.emod_nonneg _ (by omega)) (Int.emod_lt_of_pos _ (by omega)) (by omega) (by omega) (Int.ediv_nonneg g1 (by omega)) h9
    · intro hb H6 h6
      apply hs_setMod (I := Pw H p c (a + 1) r)
      · walk_at "h"
        · show (0 : Int) < _
          decide
        · exact .inl ⟨by decide, by decide⟩
        · refine ⟨by decide, by decide, ?_⟩
          omega
      · decide
      · exact h6
      intro mixed H7 x0 x1 h7
      apply hs_setMod (I := Pw H p c (a + 1) r)
      · walk_at "h"
        · exact .inl ⟨by decide, by decide⟩
        · exact .inl ⟨by omega, by omega⟩
        · exact .inl ⟨by decide, by decide⟩
        · exact .inr ⟨by omega, by omega⟩
        · refine ⟨by decide, by decide, ?_⟩
          have q1 := mul_bnd (a := a) (b := a) (A := 100000) (B := 100000) a0 (by omega) a0 (by omega)
          rw [Int.mul_assoc]
          have q2 := mul_bnd (a := mixed) (b := 2 * a + 2000) (A := 2147483648) (B := 300000) x0 (by omega) (by omega) (by omega)
          have q3 : ∀ e : Int, 0 ≤ e → e ≤ 2000 → 0 ≤ mixed * (2 * a + e) ∧ mixed * (2 * a + e) ≤ 2147483648 * 300000 := fun e e0 e1 => mul_bnd x0 (by omega) (by omega) (by omega)
          have q4 := q3 1303 (by decide) (by decide)
          omega
      · decide
      · exact h7
      intro mixed2 H8 y0 y1 h8
      apply hs_ret (I := Pw H p c (a + 1) r)
      · walk_at "h"
        · exact ⟨by decide, by decide⟩
        · show (0 : Int) < (m : Int)
          omega
      · exact h8
      intro H9 h9
      exact hq _ (a + 1) r H9 (Int.emod_nonneg _ (by omega)) (Int.emod_lt_of_pos _ (by omega)) (by omega) (by omega) r0 h9
end
end K28

set_option Elab.async false
set_option linter.all false
set_option maxRecDepth 100000
set_option maxHeartbeats 4000000
namespace K28
open PySem PySem.Spec PyProof.Rows L2 DL
local macro_rules | `(tactic| walk_at "e") => `(tactic| repeat' (first
  | walk_at "c" | exact DL.ev_v rfl | exact DL.ev_vz rfl | exact DL.ev_vzO rfl | exact DL.ev_C | exact DL.ev_nil
  | with_reducible apply DL.ev_op | with_reducible apply DL.ev_cb | with_reducible apply DL.ev_cbn | with_reducible apply DL.ev_cons | with_reducible apply DL.ev_fld
  | exact DL.er_I0 | with_reducible apply DL.er_I | exact DL.er_isN | exact DL.er_notN | with_reducible apply DL.er_eq | with_reducible apply DL.er_ne | with_reducible apply DL.er_ix
  | with_reducible apply DL.ev_tst | with_reducible apply DL.ev_not | with_reducible apply DL.ev_andT | with_reducible apply DL.ev_orT | with_reducible apply DL.ev_and | with_reducible apply DL.ev_or
  | with_reducible apply DL.ev_notV | with_reducible apply DL.ev_neg | with_reducible apply DL.ev_if | with_reducible apply DL.ev_chain
  | with_reducible apply DL.ev_fz | with_reducible apply DL.ev_star | with_reducible apply DL.ev_tup | with_reducible apply DL.ev_lst
  | with_reducible apply DL.ec_len | with_reducible apply DL.ec_tuple | with_reducible apply DL.ecn_list | exact DL.ec_int | exact DL.ec_intB | exact DL.ec_abs | exact DL.ec_max2 | exact DL.ec_min2 | exact DL.ec_sumM | exact DL.ec_allM | exact DL.ec_anyM
  | exact DL.eo_none | with_reducible apply DL.eo_some | with_reducible apply DL.ev_slT | with_reducible apply DL.ev_slL | with_reducible apply DL.ev_cat | with_reducible apply DL.ev_rep | with_reducible apply DL.ev_isi
  | with_reducible apply DL.ev_ixO | exact DL.ev_lenO rfl | exact DL.eg_n | with_reducible apply DL.eg_t | exact DL.egs_n | with_reducible apply DL.egs_c
  | with_reducible apply DL.ei_seq | with_reducible apply DL.ei_zip | with_reducible apply DL.ei_enum | with_reducible apply DL.ei_rng1 | with_reducible apply DL.ei_rng2
  | with_reducible apply DL.ev_callP | exact DL.eb_nil | with_reducible apply DL.eb_val | with_reducible apply DL.eb_own
  | with_reducible apply DL.ex_set | with_reducible apply DL.ex_setN | with_reducible apply DL.ex_asg | with_reducible apply DL.ex_exp | with_reducible apply DL.ex_par | with_reducible apply DL.ex_par3 | with_reducible apply DL.ex_unp | with_reducible apply DL.ex_app | with_reducible apply DL.ex_ext | with_reducible apply DL.ex_fld | exact DL.ex_next | with_reducible apply DL.ex_seq
  | exact rfl | assumption | decide | intro _))
local macro_rules | `(tactic| walk_at "c") => `(tactic| first | with_reducible apply ev_places_behind | with_reducible apply ev_levels_behind | with_reducible apply ev_places_of | with_reducible apply ev_levels_of | with_reducible apply ev_rows_above | with_reducible apply ev_need_short | with_reducible apply ev_need_text | with_reducible apply ev_need_net | with_reducible apply ev_are_layers | with_reducible apply ev_are_letter_rows | with_reducible apply ev_are_rows | with_reducible apply ev_row_made | with_reducible apply ev_spots_taken | with_reducible apply ev_is_table | with_reducible apply ev_are_heads | with_reducible apply ev_best_of | with_reducible apply ev_score_of | with_reducible apply ev_is_bounded | with_reducible apply ev_is_row | with_reducible apply ev_is_listed | with_reducible apply ev_is_within | with_reducible apply ev_is_integer)
local macro_rules | `(tactic| walk_at "s") => `(tactic| first
  | with_reducible apply DL.es_one | with_reducible (apply DL.es_stop (DL.es_ret ?_ ?_)) | with_reducible apply DL.es_if | with_reducible apply DL.es_ret | with_reducible apply DL.es_seq)
section
variable {P : Program} {w : World} {K : PySem.W.Frag} {mg : Str → Option Value} {base : Heap} {A : AD} {wn : WN} {ρ ρ1 : DL.Env}
theorem nd_draw {i k m : Nat} {p : Addr} {post : DL.Env → D → Prop} (h0 : nth ρ i = .pen p k) (hA : EvN wn ρ ρ [.int (m : Nat)]) (hb : 0 < m ∧ m < 1048576 ∧ k < 100000) (hp : ∀ j : Nat, j < m → post (ρ.set i (.pen p (k + 1))) (.int (j : Nat))) : wCallP i 2 wfDraw wn ρ post := by
  unfold wCallP
  rw [h0]
  refine hA.run _ ?_
  simp only [h0]
  exact ⟨rfl, p, k, m, rfl, hb, fun j hj => ⟨rfl, hp j hj⟩⟩
def wfPick : WF := fun bs post => ∃ p k sd l, bs = [.pen p k, .val sd] ∧ (items sd = some l ∧ 0 < l.length ∧ l.length < 1048576 ∧ k < 100000) ∧ ∀ x ∈ l, post [.pen p (k + 1), .val sd] x
theorem nd_pick {i k : Nat} {p : Addr} {sd : D} {l : List D} {post : DL.Env → D → Prop} (h0 : nth ρ i = .pen p k) (hA : EvN wn ρ ρ [sd]) (hb : items sd = some l ∧ 0 < l.length ∧ l.length < 1048576 ∧ k < 100000) (hp : ∀ x ∈ l, post (ρ.set i (.pen p (k + 1))) x) : wCallP i 2 wfPick wn ρ post := by
  unfold wCallP
  rw [h0]
  refine hA.run _ ?_
  simp only [h0]
  exact ⟨rfl, p, k, sd, l, rfl, hb, fun x hx => ⟨rfl, hp x hx⟩⟩
theorem ok__law_pick (T : Txt K mg A) : FnOk P w K mg base CX0 2 A.a__law_pick A.d__law_pick ["pen", "some"] (spOf K 2 wfPick) := by
  refine dfnD T.F__law_pick sc__law_pick rfl (fun cdv A_ outer s H E hr => ⟨_, (dss_one (ds_ret (d_ix (dv 1) (d_callP 0 (ok__law_draw T) (hr.mono (by decide)) (by rfl) T.m__law_draw T.F__law_draw.kp T.B__law_draw pass0 (da_cons (d_callB dc_len (by rfl) T.b_len (by decide +kernel) (da_cons (dv 1) da_nil)) da_nil))))), fun bs post hl hw => ?_⟩)
  obtain ⟨p, k, sd, l, rfl, ⟨hi, l0, l1, hk⟩, hp⟩ := hw
  unfold wRet wOp
  refine (ev_v (i := 1) (d := sd) rfl).run _ ?_
  refine nd_draw (i := 0) (p := p) (k := k) (m := l.length) rfl ?_ ⟨l0, l1, hk⟩ fun j hj => ?_
  · exact ev_cons (ev_cb (ev_cons (ev_v rfl) ev_nil) (ec_len hi)) ev_nil
  · refine (er_ix (d := l[j]) hi ?_).run _ ⟨⟨rfl, trivial, trivial⟩, ?_⟩
    · rw [DL.atI_nat, List.getElem?_eq_getElem hj]
    · exact hp _ (List.getElem_mem hj)
/-! ### the law's own nets -/
def oneT (n : Nat) : List Int := List.replicate n 0 ++ [1] ++ List.replicate (n - 1) 0
def oneL (h : Hd) : Ly := ⟨[h], [oneT h.N.length], [1], 99, h.N.length⟩
def oneN (h : Hd) (rows : List (List Int)) : Nt := ⟨rows, [oneL h], List.replicate (rows.length - 1) [0], h.N.length⟩
theorem oneT_len {n : Nat} (h : 1 ≤ n) : (oneT n).length = n * 2 := by
  unfold oneT
  simp
  omega
theorem oneT_mem {n : Nat} {x : Int} (h : x ∈ oneT n) : x = 0 ∨ x = 1 := by
  unfold oneT at h
  simp only [List.mem_append, List.mem_replicate, List.mem_singleton] at h
  rcases h with (⟨_, h⟩ | h) | ⟨_, h⟩
  · exact .inl h
  · exact .inr h
  · exact .inl h
theorem okH_n {h : Hd} (ok : okH h.S h.N) : 1 ≤ h.N.length ∧ h.N.length ≤ 4 := by
  have h1 := ok.1
  have h2 := ok.2.1
  have h3 := ok.2.2.2.1
  omega
theorem oneL_ok {h : Hd} (ok : okH h.S h.N) : okL (oneL h) := by
  have h1 := okH_n ok
  refine ⟨⟨Nat.le_refl 1, by show 1 ≤ 4; decide, h1.1, h1.2, by show 1 ≤ 2; decide, fun r hr => ?_, fun z hz => ?_⟩, ⟨rfl, ?_⟩, by show (1 : Int) ≤ 99; decide, by show (99 : Int) ≤ 99; decide⟩
  · have : r = oneT h.N.length := by simpa [oneL] using hr
    subst this
    refine ⟨oneT_len h1.1, fun i hi => ?_⟩
    rcases oneT_mem hi with rfl | rfl <;> decide
  · have : z = h := by simpa [oneL] using hz
    subst this
    rfl
  · intro i hi
    have : i = 1 := by simpa [oneL] using hi
    subst this
    decide
theorem oneN_ok {h : Hd} {rows : List (List Int)} (ok : okH h.S h.N) (hr : okRows rows h.N.length) : okN (oneN h rows) := by
  refine ⟨hr, by show 1 ≤ 3; decide, ⟨rfl, trivial⟩, fun l hl => ?_, ?_, fun r hr' => ?_⟩
  · have : l = oneL h := by simpa [oneN] using hl
    subst this
    exact oneL_ok ok
  · have := hr.1
    show (List.replicate (rows.length - 1) [(0 : Int)]).length + 1 = rows.length
    rw [List.length_replicate]
    omega
  · have : r = [0] := List.eq_of_mem_replicate hr'
    subst this
    refine ⟨rfl, fun i hi => ?_⟩
    have : i = 0 := by simpa using hi
    subst this
    decide
def R__law_one (A : AD) (ds : List D) (r : D) : Prop := ∃ sc nn rd, ∃ h : Hd, ∃ rows, ds = [sc, nn, .bl h.late, .bl h.strict, rd] ∧ (Rows sc h.S ∧ Row nn h.N ∧ okH h.S h.N ∧ Rows rd rows ∧ okRows rows h.N.length) ∧ r = encN A (oneN h rows)
theorem ev__law_one {sc nn rd : D} {h : Hd} {rows : List (List Int)} (hh : EvN wn ρ ρ1 [sc, nn, .bl h.late, .bl h.strict, rd]) (hn : Rows sc h.S ∧ Row nn h.N ∧ okH h.S h.N ∧ Rows rd rows ∧ okRows rows h.N.length) : Ev (wCall 5 (wfP (R__law_one A)) [] wn) ρ ρ1 (encN A (oneN h rows)) := ev_callP hh rfl ⟨sc, nn, rd, h, rows, rfl, hn, rfl⟩
theorem rep_one (n : Nat) (d : D) : (List.replicate (n : Int).toNat [d]).flatten = List.replicate n d := by
  rw [Int.toNat_natCast]
  induction n with
  | zero => rfl
  | succ n ih => rw [List.replicate_succ, List.flatten_cons, ih]; rfl
theorem ev_mkH {sc nn : D} {h : Hd} (hh : EvN wn ρ ρ1 [sc, nn, .bl h.late, .bl h.strict]) (h1 : Rows sc h.S) (h2 : Row nn h.N) (h3 : okH h.S h.N) : Ev (wMake A.c_Head 5 (wfM A.c_Head ns_Head R_Head_init) [] wn) ρ ρ1 (encH A h) := ev_make hh rfl ⟨sc, nn, h, rfl, h1, h2, h3, rfl⟩
theorem ev_mkL {hd tb sh : D} {l : Ly} (hh : EvN wn ρ ρ1 [hd, tb, sh, .int l.cap]) (h1 : items hd = some (l.hs.map (encH A))) (h2 : Rows tb l.T) (h3 : Row sh l.shift) (h4 : okL l) : Ev (wMake A.c_Layer 5 (wfM A.c_Layer ns_Layer (R_Layer_init A)) [] wn) ρ ρ1 (encL A l) := ev_make hh rfl ⟨hd, tb, sh, l, rfl, h1, h2, h3, h4, rfl⟩
theorem ev_mkN {rd ld wd : D} {N : Nt} (hh : EvN wn ρ ρ1 [rd, ld, wd]) (h1 : Rows rd N.rows) (h2 : items ld = some (N.ls.map (encL A))) (h3 : Rows wd N.worths) (h4 : okN N) : Ev (wMake A.c_Net 4 (wfM A.c_Net ns_Net (R_Net_init A)) [] wn) ρ ρ1 (encN A N) := ev_make hh rfl ⟨rd, ld, wd, N, rfl, ⟨h1, h2, h3, h4⟩, rfl⟩
theorem row_of (r : List Int) : Row (.lst (r.map .int)) r := ⟨rfl, rfl⟩
theorem rows_of {S : List (List Int)} : Rows (.lst (S.map fun r => .lst (r.map .int))) S := ⟨rfl, S.map fun r => (.lst (r.map .int), r), by
  rw [List.map_map]
  rfl, by
  rw [List.map_map]
  exact (List.map_id S).symm, fun x hx => by
  rw [List.mem_map] at hx
  obtain ⟨r, _, rfl⟩ := hx
  exact row_of r⟩
theorem ok__law_one (T : Txt K mg A) : FnOk P w K mg base CX0 8 A.a__law_one A.d__law_one ["scores", "none", "late", "strict", "rows"] (spOf K 5 (wfP (R__law_one A))) := by
  refine dfnV T.F__law_one sc__law_one rfl (fun cdv A_ outer s H E hr => ⟨_, (dss_cons (ds_set 5 sc__law_one.nd (d_callB dc_len (by rfl) T.b_len (by decide +kernel) (da_cons (dv 1) da_nil)))
      (dss_one (ds_ret (d_make T.k_Net (ok_Net_init T) (hr.mono (by decide)) (by rfl) T.m_Net T.B_Net_init .nil (fun _ => .nil) pass0 (da_cons (dv 4) (da_cons (dn_e (dn_lst (da_cons (d_make T.k_Layer (ok_Layer_init T) (hr.mono (by decide)) (by rfl) T.m_Layer T.B_Layer_init .nil (fun _ => .nil) pass0 (da_cons (dn_e (dn_lst (da_cons (d_make T.k_Head (ok_Head_init T) (hr.mono (by decide)) (by rfl) T.m_Head T.B_Head_init .nil (fun _ => .nil) pass0 (da_cons (dv 0) (da_cons (dv 1) (da_cons (dv 2) (da_cons (dv 3) da_nil))))) da_nil))) (da_cons (dn_e (dn_lst (da_cons (dn_e (dn_cat (dn_e (dn_cat (dn_e (dn_rep (dn_e (dn_lst (da_cons d_int da_nil))) (dv 5))) (dn_e (dn_lst (da_cons d_int da_nil))))) (dn_e (dn_rep (dn_e (dn_lst (da_cons d_int da_nil))) (d_op do_sub (dv 5) d_int))))) da_nil))) (da_cons (dn_e (dn_lst (da_cons d_int da_nil))) (da_cons d_int da_nil))))) da_nil))) (da_cons (dn_e (dn_rep (dn_e (dn_lst (da_cons (dn_e (dn_lst (da_cons d_int da_nil))) da_nil))) (d_op do_sub (d_callB dc_len (by rfl) T.b_len (by decide +kernel) (da_cons (dv 4) da_nil)) d_int))) da_nil))))))), fun ds d hl hw => ?_⟩)
  obtain ⟨sc, nn, rd, h, rows, rfl, ⟨hS, hN, ok, hR, okr⟩, rfl⟩ := hw
  have hn := okH_n ok
  have hN1 := hN.1
  apply es_seq
  · apply ex_set (x := .int (h.N.length : Nat))
    exact ev_cb (ev_cons (ev_v rfl) ev_nil) (ec_len' hN1 (List.length_map _))
  obtain ⟨hrn, xs, hri, hrx, hrr⟩ := hR
  have hlr : (xs.map Prod.fst).length = rows.length := by rw [List.length_map, hrx, List.length_map]
  have r1 := okr.1
  have r2 := okr.2.1
  apply es_ret
  · apply ev_mkN (N := oneN h rows)
    · apply ev_cons
      · walk_at "e"
      · apply ev_cons
        · apply ev_fz
          apply ev_lst
          · apply ev_cons
            · apply ev_mkL (l := oneL h)
              · apply ev_cons
                · apply ev_fz
                  apply ev_lst
                  · apply ev_cons
                    · apply ev_mkH (h := h)
                      · walk_at "e"
                      · exact hS
                      · exact hN
                      · exact ok
                    · exact ev_nil
                  · simp
                · apply ev_cons
                  · apply ev_cast (x := .lst [.lst ((oneT h.N.length).map .int)])
                    · apply ev_fz
                      apply ev_lst
                      · apply ev_cons
                        · apply ev_fz
                          apply evN_cast
                          · apply ev_cat
                            · apply ev_fz
                              apply ev_cat
                              · apply ev_fz
                                apply ev_rep
                                · walk_at "e" <;> simp
                                · walk_at "e"
                                · simp
                                  omega
                              · walk_at "e" <;> simp
                              · simp
                                omega
                            · apply ev_fz
                              apply ev_rep (a := ((h.N.length - 1 : Nat) : Int))
                              · walk_at "e" <;> simp
                              · apply ev_cast
                                · walk_at "e"
                                · congr 1
                                  omega
                              · simp
                                omega
                            · rw [rep_one, rep_one]
                              simp
                              omega
                          · rw [rep_one, rep_one]
                            unfold oneT
                            simp
                        · exact ev_nil
                      · simp
                    · rfl
                  · apply ev_cons
                    · walk_at "e" <;> simp
                    · walk_at "e"
              · rfl
              · exact rows_of (S := [oneT h.N.length])
              · exact row_of [1]
              · exact oneL_ok ok
            · exact ev_nil
          · simp
        · apply ev_cons
          · apply ev_fz
            apply ev_rep (a := ((rows.length - 1 : Nat) : Int))
            · walk_at "e" <;> simp
            · apply ev_cast
              · apply ev_op
                · exact ev_cb (ev_cons (ev_v rfl) ev_nil) (ec_len' hri hlr)
                · walk_at "e"
                · exact er_I0
              · congr 1
                omega
            · simp
              omega
          · exact ev_nil
    · exact ⟨hrn, xs, hri, hrx, hrr⟩
    · rfl
    · rw [rep_one]
      have := rows_of (S := List.replicate (rows.length - 1) [(0 : Int)])
      rw [List.map_replicate] at this
      exact this
    · exact oneN_ok ok okr
  · rfl
local macro_rules | `(tactic| walk_at "c") => `(tactic| first | with_reducible apply ev__law_one | with_reducible apply ev_places_behind | with_reducible apply ev_levels_behind | with_reducible apply ev_places_of | with_reducible apply ev_levels_of | with_reducible apply ev_rows_above | with_reducible apply ev_need_short | with_reducible apply ev_need_text | with_reducible apply ev_need_net | with_reducible apply ev_are_layers | with_reducible apply ev_are_letter_rows | with_reducible apply ev_are_rows | with_reducible apply ev_row_made | with_reducible apply ev_spots_taken | with_reducible apply ev_is_table | with_reducible apply ev_are_heads | with_reducible apply ev_best_of | with_reducible apply ev_score_of | with_reducible apply ev_is_bounded | with_reducible apply ev_is_row | with_reducible apply ev_is_listed | with_reducible apply ev_is_within | with_reducible apply ev_is_integer)
end
end K28

set_option Elab.async false
set_option linter.all false
set_option maxRecDepth 100000
set_option maxHeartbeats 4000000
namespace K28
open PySem PySem.Spec PyProof.Rows L2 DL
local macro_rules | `(tactic| walk_at "e") => `(tactic| repeat' (first
  | walk_at "c" | exact DL.ev_v rfl | exact DL.ev_vz rfl | exact DL.ev_vzO rfl | exact DL.ev_C | exact DL.ev_nil
  | with_reducible apply DL.ev_op | with_reducible apply DL.ev_cb | with_reducible apply DL.ev_cbn | with_reducible apply DL.ev_cons | with_reducible apply DL.ev_fld
  | exact DL.er_I0 | with_reducible apply DL.er_I | exact DL.er_isN | exact DL.er_notN | with_reducible apply DL.er_eq | with_reducible apply DL.er_ne | with_reducible apply DL.er_ix
  | with_reducible apply DL.ev_tst | with_reducible apply DL.ev_not | with_reducible apply DL.ev_andT | with_reducible apply DL.ev_orT | with_reducible apply DL.ev_and | with_reducible apply DL.ev_or
  | with_reducible apply DL.ev_notV | with_reducible apply DL.ev_neg | with_reducible apply DL.ev_if | with_reducible apply DL.ev_chain
  | with_reducible apply DL.ev_fz | with_reducible apply DL.ev_star | with_reducible apply DL.ev_tup | with_reducible apply DL.ev_lst
  | with_reducible apply DL.ec_len | with_reducible apply DL.ec_tuple | with_reducible apply DL.ecn_list | exact DL.ec_int | exact DL.ec_intB | exact DL.ec_abs | exact DL.ec_max2 | exact DL.ec_min2 | exact DL.ec_sumM | exact DL.ec_allM | exact DL.ec_anyM
  | exact DL.eo_none | with_reducible apply DL.eo_some | with_reducible apply DL.ev_slT | with_reducible apply DL.ev_slL | with_reducible apply DL.ev_cat | with_reducible apply DL.ev_rep | with_reducible apply DL.ev_isi
  | with_reducible apply DL.ev_ixO | exact DL.ev_lenO rfl | exact DL.eg_n | with_reducible apply DL.eg_t | exact DL.egs_n | with_reducible apply DL.egs_c
  | with_reducible apply DL.ei_seq | with_reducible apply DL.ei_zip | with_reducible apply DL.ei_enum | with_reducible apply DL.ei_rng1 | with_reducible apply DL.ei_rng2
  | with_reducible apply DL.ev_callP | exact DL.eb_nil | with_reducible apply DL.eb_val | with_reducible apply DL.eb_own
  | with_reducible apply DL.ex_set | with_reducible apply DL.ex_setN | with_reducible apply DL.ex_asg | with_reducible apply DL.ex_exp | with_reducible apply DL.ex_par | with_reducible apply DL.ex_par3 | with_reducible apply DL.ex_unp | with_reducible apply DL.ex_app | with_reducible apply DL.ex_ext | with_reducible apply DL.ex_fld | exact DL.ex_next | with_reducible apply DL.ex_seq
  | exact rfl | assumption | decide | intro _))
local macro_rules | `(tactic| walk_at "c") => `(tactic| first | with_reducible apply ev__law_one | with_reducible apply ev_places_behind | with_reducible apply ev_levels_behind | with_reducible apply ev_places_of | with_reducible apply ev_levels_of | with_reducible apply ev_rows_above | with_reducible apply ev_need_short | with_reducible apply ev_need_text | with_reducible apply ev_need_net | with_reducible apply ev_are_layers | with_reducible apply ev_are_letter_rows | with_reducible apply ev_are_rows | with_reducible apply ev_row_made | with_reducible apply ev_spots_taken | with_reducible apply ev_is_table | with_reducible apply ev_are_heads | with_reducible apply ev_best_of | with_reducible apply ev_score_of | with_reducible apply ev_is_bounded | with_reducible apply ev_is_row | with_reducible apply ev_is_listed | with_reducible apply ev_is_within | with_reducible apply ev_is_integer)
local macro_rules | `(tactic| walk_at "s") => `(tactic| first
  | with_reducible apply DL.es_one | with_reducible (apply DL.es_stop (DL.es_ret ?_ ?_)) | with_reducible apply DL.es_if | with_reducible apply DL.es_ret | with_reducible apply DL.es_seq)
section
variable {P : Program} {w : World} {K : PySem.W.Frag} {mg : Str → Option Value} {base : Heap} {A : AD} {wn : WN} {ρ ρ1 : DL.Env}
def rowL (r : List Int) : D := .lst (r.map .int)
def rowsL (S : List (List Int)) : D := .lst (S.map rowL)
theorem rowsL_ok (S : List (List Int)) : Rows (rowsL S) S := rows_of
def baseRows (rows : List (List Int)) (t : List Nat) : List (List Int) := rows.headD [] :: t.map fun x => rows[x + 1]?.getD []
def numAt (L : List (List Int)) (N : List Int) : Option Nat → Int
  | none => N.headD 0
  | some k => (L[k]?.getD []).headD 0
def cap99 (v : Int) : Int := if (if 1 + v > 0 then 1 + v else 0) < 99 then (if 1 + v > 0 then 1 + v else 0) else 99
def firstT (L : List (List Int)) (N : List Int) (sp : List (Option Nat)) : D := .tup (sp.map fun s => .tup [.int (cap99 (numAt L N s))])
def okFirst (rows : List (List Int)) (t : List Nat) (sp : List (Option Nat)) (N : List Int) : Prop := rows ≠ [] ∧ (∀ r ∈ rows, r ≠ []) ∧ t.length ≤ 1000 ∧ (∀ x ∈ t, x + 1 < rows.length) ∧ (∀ k, some k ∈ sp → k < t.length + 1) ∧ N ≠ []
def R__law_first_numbers (ds : List D) (r : D) : Prop := ∃ rows td t sd sp nn N, ds = [rowsL rows, td, sd, nn] ∧ (items td = some (textD t) ∧ items sd = some (sp.map optN) ∧ Row nn N ∧ okFirst rows t sp N) ∧ r = firstT (baseRows rows t) N sp
theorem ev__law_first_numbers {rows : List (List Int)} {td sd nn : D} {t : List Nat} {sp : List (Option Nat)} {N : List Int} (hh : EvN wn ρ ρ1 [rowsL rows, td, sd, nn]) (hn : items td = some (textD t) ∧ items sd = some (sp.map optN) ∧ Row nn N ∧ okFirst rows t sp N) : Ev (wCall 4 (wfP R__law_first_numbers) [] wn) ρ ρ1 (firstT (baseRows rows t) N sp) := ev_callP hh rfl ⟨rows, td, t, sd, sp, nn, N, rfl, hn, rfl⟩
theorem opt_cases (s : Option Nat) : s = none ∨ ∃ k, s = some k := by cases s <;> simp
theorem head_at {r : List Int} (h : r ≠ []) : atI (r.map D.int) 0 = some (.int (r.headD 0)) := by
  cases r with
  | nil => exact absurd rfl h
  | cons a b => exact atI_zero
theorem baseRows_ne {rows : List (List Int)} {t : List Nat} (h0 : rows ≠ []) (h : ∀ r ∈ rows, r ≠ []) (ht : ∀ x ∈ t, x + 1 < rows.length) : ∀ r ∈ baseRows rows t, r ≠ [] := fun r hr => by
  unfold baseRows at hr
  rw [List.mem_cons, List.mem_map] at hr
  rcases hr with rfl | ⟨x, hx, rfl⟩
  · cases rows with
    | nil => exact absurd rfl h0
    | cons a b => exact h _ List.mem_cons_self
  · have := ht x hx
    rw [List.getElem?_eq_getElem this]
    exact h _ (List.getElem_mem this)
theorem ok__law_first_numbers (T : Txt K mg A) : FnOk P w K mg base CX0 1 A.a__law_first_numbers A.d__law_first_numbers ["rows", "text", "spots", "none"] (spOf K 4 (wfP (R__law_first_numbers))) := by
  refine dfnV T.F__law_first_numbers sc__law_first_numbers rfl (fun cdv A_ outer s H E hr => ⟨_, (dss_cons (ds_set 4 sc__law_first_numbers.nd (dn_e (dn_cat (dn_e (dn_lst (da_cons (d_ix (dv 0) d_int) da_nil))) (dn_e (dn_lc [("letter", 5)] rfl sc__law_first_numbers.nd (di_seq (dv 1)) (show BlkOk ["rows", "text", "spots", "none", "told", "letter", "spot"] (defScope s__law_first_numbers) _ [("letter", 5)] from blkOk_by (by decide +kernel)) (by decide) (fun _ _ _ _ _ => (dg_name 5 sc__law_first_numbers.nd)) (fun _ _ _ _ _ => dts_nil) (fun _ _ _ _ _ => (d_ix (dv 0) (d_op do_add (dv 5) d_int))))))))
      (dss_one (ds_ret (d_callT dc_tuple (by rfl) T.b_tuple (by decide +kernel) (da_cons (dn_e (dn_lc [("spot", 6)] rfl sc__law_first_numbers.nd (di_seq (dv 2)) (show BlkOk ["rows", "text", "spots", "none", "told", "letter", "spot"] (defScope s__law_first_numbers) _ [("spot", 6)] from blkOk_by (by decide +kernel)) (by decide) (fun _ _ _ _ _ => (dg_name 6 sc__law_first_numbers.nd)) (fun _ _ _ _ _ => dts_nil) (fun _ _ _ _ _ => (d_tup (da_cons (d_callB (dc_min2 rfl) (by rfl) T.b_min (by decide +kernel) (da_cons d_int (da_cons (d_callB (dc_max2 rfl) (by rfl) T.b_max (by decide +kernel) (da_cons d_int (da_cons (d_op do_add d_int (d_if (dt_cmp do_isN (dv 6) d_non) (d_ix (dv 3) d_int) (d_ix (d_ix (dv 4) (dv 6)) d_int))) da_nil))) da_nil))) da_nil))))) da_nil))))), fun ds d hl hw => ?_⟩)
  obtain ⟨rows, td, t, sd, sp, nn, N, rfl, ⟨hi, hs, hN, r0, hr1, ht, htx, hsp, hN0⟩, rfl⟩ := hw
  have hN1 := hN.1
  have hlen : (baseRows rows t).length = t.length + 1 := by
    unfold baseRows
    rw [List.length_cons, List.length_map]
  apply es_seq
  · apply ex_set (x := rowsL (baseRows rows t))
    apply ev_cast
    · apply ev_fz
      apply ev_cat
      · apply ev_fz
        apply ev_lst
        · apply ev_cons (d := rowL (rows.headD []))
          · apply ev_op
            · walk_at "e"
            · walk_at "e"
            · refine er_ix rfl ?_
              cases rows with
              | nil => exact absurd rfl r0
              | cons a b => exact atI_zero
          · exact ev_nil
        · simp
      · apply ev_fz
        apply ev_lc t (fun x => .int (x : Nat)) (fun x => rowL (rows[x + 1]?.getD []))
        · exact ei_seq (ev_v rfl) hi
        · rfl
        · rfl
        · intro x hx
          refine ⟨_, eg_n, ?_, rfl⟩
          apply ev_op
          · walk_at "e"
          · walk_at "e"
          · have h3 := htx x hx
            refine er_ix rfl ?_
            rw [show ((x : Int) + 1) = ((x + 1 : Nat) : Int) by omega, DL.atI_nat, List.getElem?_map, List.getElem?_eq_getElem h3]
            rfl
      · simp
        omega
    · unfold rowsL baseRows
      simp
  apply es_ret
  · apply ev_cb
    · apply ev_cons
      · apply ev_fz
        apply ev_lc sp optN (fun s => .tup [.int (cap99 (numAt (baseRows rows t) N s))])
        · exact ei_seq (ev_v rfl) hs
        · rfl
        · rfl
        · intro s hsm
          refine ⟨_, eg_n, ?_, rfl⟩
          apply ev_tup
          · apply ev_cons
            · apply ev_cb
              · apply ev_cons
                · walk_at "e"
                · apply ev_cons
                  · apply ev_cb
                    · apply ev_cons
                      · walk_at "e"
                      · apply ev_cons
                        · apply ev_op
                          · walk_at "e"
                          · rcases opt_cases s with h | ⟨k, h⟩
                            · apply ev_ifT (x := .int (numAt (baseRows rows t) N s))
                              · apply evT_cast
                                · walk_at "e"
                                · rw [h]
                                  rfl
                              · apply ev_op
                                · walk_at "e"
                                · walk_at "e"
                                · rw [h]
                                  exact er_ix hN1 (head_at hN0)
                            · rw [h] at hsm
                              have hk : k < (baseRows rows t).length := by rw [hlen]; exact hsp k hsm
                              have hne := baseRows_ne r0 hr1 htx _ (List.getElem_mem hk)
                              apply ev_ifF (x := .int (numAt (baseRows rows t) N s))
                              · apply evT_cast
                                · walk_at "e"
                                · rw [h]
                                  rfl
                              · apply ev_op (x := rowL (baseRows rows t)[k])
                                · apply ev_op
                                  · walk_at "e"
                                  · walk_at "e"
                                  · rw [h]
                                    refine er_ix (a := (k : Nat)) rfl ?_
                                    rw [DL.atI_nat, List.getElem?_map, List.getElem?_eq_getElem hk]
                                    rfl
                                · walk_at "e"
                                · refine er_ix rfl ?_
                                  rw [head_at hne, h]
                                  simp only [numAt, List.getElem?_eq_getElem hk, Option.getD_some]
                          · exact er_I0
                        · exact ev_nil
                    · exact ec_max2
                  · exact ev_nil
              · exact ec_min2
            · exact ev_nil
          · simp
      · exact ev_nil
    · exact ec_tuple rfl
  · rfl
local macro_rules | `(tactic| walk_at "c") => `(tactic| first | with_reducible apply ev__law_first_numbers | with_reducible apply ev__law_one | with_reducible apply ev_places_behind | with_reducible apply ev_levels_behind | with_reducible apply ev_places_of | with_reducible apply ev_levels_of | with_reducible apply ev_rows_above | with_reducible apply ev_need_short | with_reducible apply ev_need_text | with_reducible apply ev_need_net | with_reducible apply ev_are_layers | with_reducible apply ev_are_letter_rows | with_reducible apply ev_are_rows | with_reducible apply ev_row_made | with_reducible apply ev_spots_taken | with_reducible apply ev_is_table | with_reducible apply ev_are_heads | with_reducible apply ev_best_of | with_reducible apply ev_score_of | with_reducible apply ev_is_bounded | with_reducible apply ev_is_row | with_reducible apply ev_is_listed | with_reducible apply ev_is_within | with_reducible apply ev_is_integer)
end
end K28

set_option Elab.async false
set_option linter.all false
set_option maxRecDepth 100000
set_option maxHeartbeats 4000000
namespace K28
open PySem PySem.Spec PyProof.Rows L2 DL
/-! ### the plain law: what best_of finds -/
def IsBest (late : Bool) (f : Nat → Int) (n : Nat) : Option Nat → Prop
  | none => n = 0
  | some k => k < n ∧ (∀ j, j < n → f j ≤ f k) ∧ ∀ j, j < n → f j = f k → if late = true then j ≤ k else k ≤ j
theorem IsBest.uniq {late : Bool} {f : Nat → Int} {n : Nat} {a b : Option Nat} (h1 : IsBest late f n a) (h2 : IsBest late f n b) : a = b := by
  cases a with
  | none =>
    cases b with
    | none => rfl
    | some k => have h : n = 0 := h1; have := h2.1; omega
  | some k =>
    cases b with
    | none => have h : n = 0 := h2; have := h1.1; omega
    | some j =>
      have e : f j = f k := Int.le_antisymm (h1.2.1 j h2.1) (h2.2.1 k h1.1)
      have a1 := h1.2.2 j h2.1 e
      have a2 := h2.2.2 k h1.1 e.symm
      cases late with
      | true => simp at a1 a2; congr 1; omega
      | false => simp at a1 a2; congr 1; omega
theorem IsBest.congr {late : Bool} {f g : Nat → Int} {n : Nat} {a : Option Nat} (h : IsBest late f n a) (e : ∀ i j, i < n → j < n → (f i ≤ f j ↔ g i ≤ g j)) : IsBest late g n a := by
  cases a with
  | none => exact h
  | some k =>
    refine ⟨h.1, fun j hj => (e j k hj h.1).mp (h.2.1 j hj), fun j hj ej => h.2.2 j hj ?_⟩
    have a1 := (e j k hj h.1).mpr (by omega)
    have a2 := (e k j h.1 hj).mpr (by omega)
    omega
def fS (h : Hd) (row : List Int) (ps : List (List Int)) (i : Nat) : Int := scoreOf h.S row (ps[i]?.getD [])
def Good (h : Hd) (row : List Int) (ps : List (List Int)) : Option (Nat × Int) → Prop
  | none => ps = []
  | some (k, m) => IsBest h.late (fS h row ps) ps.length (some k) ∧ m = fS h row ps k
theorem fS_lt {h : Hd} {row o : List Int} {ps : List (List Int)} {i : Nat} (hi : i < ps.length) : fS h row (ps ++ [o]) i = fS h row ps i := by
  unfold fS
  rw [List.getElem?_append_left hi]
theorem fS_eq {h : Hd} {row o : List Int} {ps : List (List Int)} : fS h row (ps ++ [o]) ps.length = scoreOf h.S row o := by
  unfold fS
  rw [List.getElem?_append_right (Nat.le_refl _), Nat.sub_self]
  rfl
theorem Good.step {h : Hd} {row o : List Int} {ps : List (List Int)} {st : Option (Nat × Int)} (g : Good h row ps st) : Good h row (ps ++ [o]) (bestStep h row st (o, ps.length)) := by
  cases st with
  | none =>
    have e : ps = [] := g
    subst e
    refine ⟨⟨by simp, fun j hj => ?_, fun j hj _ => ?_⟩, ?_⟩
    · simp at hj; subst hj; exact Int.le_refl _
    · simp at hj; subst hj; split <;> exact Nat.le_refl _
    · rfl
  | some km =>
    obtain ⟨k, m⟩ := km
    obtain ⟨⟨g1, g2, g3⟩, rfl⟩ := g
    have hlen : (ps ++ [o]).length = ps.length + 1 := by simp
    have ho := fS_eq (h := h) (row := row) (o := o) (ps := ps)
    have hlt : ∀ j, j < ps.length → fS h row (ps ++ [o]) j = fS h row ps j := fun j hj => fS_lt hj
    unfold bestStep
    simp only []
    by_cases hc : (decide (fS h row ps k < scoreOf h.S row o) || (decide (scoreOf h.S row o = fS h row ps k) && h.late)) = true
    · rw [if_pos hc]
      rw [Bool.or_eq_true, Bool.and_eq_true, decide_eq_true_eq, decide_eq_true_eq] at hc
      have hge : fS h row ps k ≤ scoreOf h.S row o := by rcases hc with h1 | ⟨h1, _⟩ <;> omega
      refine ⟨⟨by rw [hlen]; omega, fun j hj => ?_, fun j hj e => ?_⟩, ho.symm⟩
      · rw [hlen] at hj
        rw [ho]
        by_cases hj' : j < ps.length
        · rw [hlt j hj']; have := g2 j hj'; omega
        · have : j = ps.length := by omega
          subst this
          rw [ho]
          exact Int.le_refl _
      · rw [hlen] at hj
        rw [ho] at e
        split
        · omega
        · rename_i hl
          have hl' : h.late = false := by simpa using hl
          have h1 : fS h row ps k < scoreOf h.S row o := by
            rcases hc with h1 | ⟨_, h2⟩
            · exact h1
            · rw [hl'] at h2; cases h2
          by_cases hj' : j < ps.length
          · rw [hlt j hj'] at e; have := g2 j hj'; omega
          · omega
    · rw [if_neg hc]
      have hc' : ¬ (fS h row ps k < scoreOf h.S row o) ∧ ¬ (scoreOf h.S row o = fS h row ps k ∧ h.late = true) := by
        rw [Bool.or_eq_true, Bool.and_eq_true, decide_eq_true_eq, decide_eq_true_eq] at hc
        exact not_or.mp hc
      refine ⟨⟨by rw [hlen]; omega, fun j hj => ?_, fun j hj e => ?_⟩, (hlt k g1).symm⟩
      · rw [hlen] at hj
        rw [hlt k g1]
        by_cases hj' : j < ps.length
        · rw [hlt j hj']; exact g2 j hj'
        · have : j = ps.length := by omega
          subst this
          rw [ho]
          omega
      · rw [hlen] at hj
        rw [hlt k g1] at e
        by_cases hj' : j < ps.length
        · rw [hlt j hj'] at e; exact g3 j hj' e
        · have : j = ps.length := by omega
          subst this
          rw [ho] at e
          split
          · rename_i hl
            exact absurd ⟨e, hl⟩ hc'.2
          · omega
theorem Good.fold {h : Hd} {row : List Int} : ∀ (os ps : List (List Int)) (st : Option (Nat × Int)), Good h row ps st → Good h row (ps ++ os) ((os.zipIdx ps.length).foldl (bestStep h row) st)
  | [], ps, st, g => by simpa using g
  | o :: r, ps, st, g => by
    rw [List.zipIdx_cons, List.foldl_cons]
    have := Good.fold r (ps ++ [o]) _ (g.step (o := o))
    rw [List.append_assoc, List.length_append] at this
    exact this
theorem bestOf_best (h : Hd) (row : List Int) (os : List (List Int)) : IsBest h.late (fS h row os) os.length (bestOf h row os) := by
  have := Good.fold (h := h) (row := row) os [] none rfl
  rw [List.nil_append] at this
  unfold bestOf bestRun
  change Good h row os (os.zipIdx.foldl (bestStep h row) none) at this
  cases e : os.zipIdx.foldl (bestStep h row) none with
  | none =>
    rw [e] at this
    have e2 : os = [] := this
    subst e2
    rfl
  | some km =>
    rw [e] at this
    exact this.1
/-- the places a head looks at in each row of L, told by scores f -/
def Spots (late strict : Bool) (f : Nat → Nat → Int) (n : Nat) (sp : List (Option Nat)) : Prop := sp.length = n ∧ ∀ k s, sp[k]? = some s → IsBest late (f k) (if strict = true then k else k + 1) s
theorem spot_of {h : Hd} {L : List (List Int)} {f : Nat → Nat → Int} {sp : List (Option Nat)} (hs : Spots h.late h.strict f L.length sp)
    (hf : ∀ k i j : Nat, k < L.length → i < L.length → j < L.length → (f k i ≤ f k j ↔ scoreOf h.S (L[k]?.getD []) (L[i]?.getD []) ≤ scoreOf h.S (L[k]?.getD []) (L[j]?.getD []))) :
    (L.zipIdx.map fun q => spot h (L.take q.2) q.1) = sp := by
  apply List.ext_getElem?
  intro k
  rw [List.getElem?_map, List.getElem?_zipIdx]
  by_cases hk : k < L.length
  · rw [List.getElem?_eq_getElem hk]
    have hk2 : k < sp.length := by rw [hs.1]; exact hk
    rw [List.getElem?_eq_getElem hk2]
    simp only [Option.map_some, Nat.zero_add, Option.some.injEq]
    have h2 := hs.2 k _ (List.getElem?_eq_getElem hk2)
    have h1 := bestOf_best h L[k] (if h.strict then L.take k else L.take k ++ [L[k]])
    have e1 : (if h.strict then L.take k else L.take k ++ [L[k]]) = L.take (if h.strict = true then k else k + 1) := by
      cases h.strict with
      | true => rfl
      | false =>
        show L.take k ++ [L[k]] = L.take (k + 1)
        rw [List.take_add_one, List.getElem?_eq_getElem hk]
        rfl
    have e2 : (L.take (if h.strict = true then k else k + 1)).length = if h.strict = true then k else k + 1 := by
      rw [List.length_take]
      split <;> omega
    unfold spot
    rw [e1, e2] at h1
    rw [e1]
    refine IsBest.uniq (h1.congr fun i j hi hj => ?_) h2
    have hb : (if h.strict = true then k else k + 1) ≤ L.length := by split <;> omega
    rw [hf k i j hk (by omega) (by omega)]
    unfold fS
    rw [List.getElem?_take_of_lt hi, List.getElem?_take_of_lt hj, List.getElem?_eq_getElem hk]
    rfl
  · rw [List.getElem?_eq_none (by omega), List.getElem?_eq_none (by rw [hs.1]; omega)]
    rfl
/-! ### what the law's nets answer -/
theorem dot_app {a b c d : List Int} (h : a.length = c.length) : dot (a ++ b) (c ++ d) = dot a c + dot b d := by
  unfold dot
  rw [List.zip_append h, List.map_append, List.sum_append]
theorem dot_zero (n : Nat) (r : List Int) : dot (List.replicate n 0) r = 0 := by
  unfold dot
  induction n generalizing r with
  | zero => rfl
  | succ n ih =>
    cases r with
    | nil => rfl
    | cons x r => simp only [List.replicate_succ, List.zip_cons_cons, List.map_cons, List.sum_cons, ih r]; omega
theorem dot_one {n : Nat} {row p : List Int} (hr : row.length = n) (hp : p ≠ []) : dot (oneT n) (row ++ p) = p.headD 0 := by
  cases p with
  | nil => exact absurd rfl hp
  | cons x r =>
    unfold oneT
    rw [List.append_assoc, dot_app (by rw [List.length_replicate, hr]), dot_zero, List.singleton_append]
    have h := dot_zero (n - 1) r
    unfold dot at h ⊢
    rw [List.zip_cons_cons, List.map_cons, List.sum_cons, h]
    show 0 + (1 * x + 0) = x
    omega
theorem clip_cap (v : Int) : clip (1 + v) 99 = cap99 v := by
  unfold clip cap99
  split <;> split <;> split <;> omega
theorem lev0_base (h : Hd) (rows : List (List Int)) (t : List Nat) : lev0 (oneN h rows) t = baseRows rows t := rfl
theorem levels_one (h : Hd) (rows : List (List Int)) (t : List Nat) : levels (oneN h rows) t = [baseRows rows t, above (oneL h) (baseRows rows t)] := rfl
theorem places_one {h : Hd} {rows : List (List Int)} {t : List Nat} {sp : List (Option Nat)} (hs : ((baseRows rows t).zipIdx.map fun q => spot h ((baseRows rows t).take q.2) q.1) = sp) : placesOf (oneN h rows) t = [.tup (sp.map fun s => .tup [optN s])] := by
  unfold placesOf
  rw [levels_one, ← hs, List.map_map]
  rfl
theorem pick_at {h : Hd} {L : List (List Int)} {k : Nat} (hk : k < L.length) : pick (L.take k) L[k] h = match spot h (L.take k) L[k] with
    | none => h.N
    | some j => L[j]?.getD [] := by
  unfold pick
  have e : L.take k ++ [L[k]] = L.take (k + 1) := by
    rw [List.take_add_one, List.getElem?_eq_getElem hk]
    rfl
  cases e1 : spot h (L.take k) L[k] with
  | none => rfl
  | some j =>
    show (L.take k ++ [L[k]])[j]?.getD [] = L[j]?.getD []
    have := spot_lt e1
    rw [e] at this ⊢
    rw [List.length_take] at this
    rw [List.getElem?_take_of_lt (by omega)]
theorem firsts_one {h : Hd} {L : List (List Int)} {sp : List (Option Nat)} (hs : (L.zipIdx.map fun q => spot h (L.take q.2) q.1) = sp) (hn : h.N ≠ []) (hL : ∀ r ∈ L, r.length = h.N.length) : rowsT (above (oneL h) L) = firstT L h.N sp := by
  subst hs
  unfold rowsT firstT above
  congr 1
  rw [List.map_map, List.map_map]
  apply List.map_congr_left
  intro q hq
  have e := zipIdx_at hq
  have hk := (List.getElem?_eq_some_iff.mp e).1
  have hx : L[q.2] = q.1 := (List.getElem?_eq_some_iff.mp e).2
  have hp := pick_at (h := h) hk
  rw [hx] at hp
  have hne : pick (L.take q.2) q.1 h ≠ [] := by
    rw [hp]
    split
    · exact hn
    · rename_i j e1
      have hj := spot_lt e1
      have hj' : j < L.length := by
        rw [List.length_append, List.length_take] at hj
        simp at hj
        omega
      rw [List.getElem?_eq_getElem hj']
      intro z
      have h1 := hL _ (List.getElem_mem hj')
      have z' : L[j] = [] := z
      rw [z'] at h1
      cases hN : h.N with
      | nil => exact hn hN
      | cons a b => rw [hN] at h1; simp at h1
  have hrow : q.1.length = h.N.length := hL _ (List.mem_of_getElem? e)
  have e2 : joinOf (oneL h) (L.take q.2) q.1 (oneL h).hs = q.1 ++ pick (L.take q.2) q.1 h := by
    show q.1 ++ [pick (L.take q.2) q.1 h].flatten = _
    simp
  show rowT (rowMade (oneL h) (L.take q.2) q.1) = .tup [.int (cap99 (numAt L h.N (spot h (L.take q.2) q.1)))]
  unfold rowMade
  rw [e2]
  show rowT [clip (1 + dot (oneT h.N.length) (q.1 ++ pick (L.take q.2) q.1 h)) 99] = _
  rw [dot_one hrow hne, clip_cap, hp]
  show D.tup [.int _] = _
  congr 4
  unfold numAt
  cases spot h (L.take q.2) q.1 <;> rfl
/-! ### the law's own tables -/
def spA (n : Nat) : List (Option Nat) := none :: (List.range (n - 1)).map some
def spB (n : Nat) : List (Option Nat) := (List.range n).map some
def spC (n : Nat) : List (Option Nat) := List.replicate n (some 0)
def spD (n : Nat) : List (Option Nat) := none :: List.replicate (n - 1) (some 0)
theorem spA_ok {n : Nat} (h : 0 < n) : Spots true true (fun _ _ => 0) n (spA n) := by
  refine ⟨by simp [spA]; omega, fun k s e => ?_⟩
  cases k with
  | zero =>
    simp [spA] at e
    subst e
    rfl
  | succ k =>
    simp only [spA, List.getElem?_cons_succ, List.getElem?_map, Option.map_eq_some_iff] at e
    obtain ⟨x, e, rfl⟩ := e
    rw [List.getElem?_range (by have := (List.getElem?_eq_some_iff.mp e).1; simpa using this)] at e
    cases e
    exact ⟨by simp, fun _ _ => Int.le_refl _, fun j hj _ => by simp at hj ⊢; omega⟩
theorem spB_ok {n : Nat} : Spots true false (fun _ _ => 0) n (spB n) := by
  refine ⟨by simp [spB], fun k s e => ?_⟩
  simp only [spB, List.getElem?_map, Option.map_eq_some_iff] at e
  obtain ⟨x, e, rfl⟩ := e
  rw [List.getElem?_range (by have := (List.getElem?_eq_some_iff.mp e).1; simpa using this)] at e
  cases e
  exact ⟨by simp, fun _ _ => Int.le_refl _, fun j hj _ => by simp at hj ⊢; omega⟩
theorem spC_ok {n : Nat} : Spots false false (fun _ _ => 0) n (spC n) := by
  refine ⟨by simp [spC], fun k s e => ?_⟩
  have := List.eq_of_mem_replicate (List.mem_of_getElem? e)
  subst this
  exact ⟨by simp, fun _ _ => Int.le_refl _, fun j hj _ => by simp⟩
theorem spD_ok {n : Nat} (h : 0 < n) : Spots false true (fun _ _ => 0) n (spD n) := by
  refine ⟨by simp [spD]; omega, fun k s e => ?_⟩
  cases k with
  | zero =>
    simp [spD] at e
    subst e
    rfl
  | succ k =>
    simp only [spD, List.getElem?_cons_succ] at e
    have := List.eq_of_mem_replicate (List.mem_of_getElem? e)
    subst this
    exact ⟨by simp, fun _ _ => Int.le_refl _, fun j hj _ => by simp⟩
theorem pw_last : ∀ {l : List Nat} {k : Nat}, l.Pairwise (· < ·) → l.getLast? = some k → k ∈ l ∧ ∀ j ∈ l, j ≤ k
  | [], _, _, e => by cases e
  | [a], k, _, e => by simp at e; subst e; simp
  | a :: b :: r, k, h, e => by
    rw [List.getLast?_cons_cons] at e
    obtain ⟨h1, h2⟩ := List.pairwise_cons.mp h
    obtain ⟨g1, g2⟩ := pw_last h2 e
    refine ⟨List.mem_cons_of_mem _ g1, fun j hj => ?_⟩
    rcases List.mem_cons.mp hj with rfl | hj
    · exact Nat.le_of_lt (h1 k g1)
    · exact g2 j hj
theorem pw_head {l : List Nat} {k : Nat} (h : l.Pairwise (· < ·)) (e : l.head? = some k) : k ∈ l ∧ ∀ j ∈ l, k ≤ j := by
  cases l with
  | nil => cases e
  | cons a r =>
    simp at e
    subst e
    obtain ⟨h1, _⟩ := List.pairwise_cons.mp h
    refine ⟨List.mem_cons_self, fun j hj => ?_⟩
    rcases List.mem_cons.mp hj with rfl | hj
    · exact Nat.le_refl _
    · exact Nat.le_of_lt (h1 j hj)
def mx : List Int → Int
  | [] => 0
  | [x] => x
  | x :: y :: r => if mx (y :: r) < x then x else mx (y :: r)
theorem mx_spec : ∀ {s : List Int}, s ≠ [] → mx s ∈ s ∧ ∀ y ∈ s, y ≤ mx s
  | [], h => absurd rfl h
  | [x], _ => by simp [mx]
  | x :: y :: r, _ => by
    obtain ⟨h1, h2⟩ := mx_spec (s := y :: r) (by simp)
    unfold mx
    split
    · rename_i h
      refine ⟨List.mem_cons_self, fun z hz => ?_⟩
      rcases List.mem_cons.mp hz with rfl | hz
      · exact Int.le_refl _
      · have := h2 z hz; omega
    · rename_i h
      refine ⟨List.mem_cons_of_mem _ h1, fun z hz => ?_⟩
      rcases List.mem_cons.mp hz with rfl | hz
      · omega
      · exact h2 z hz
def bestL (s : List Int) : List Nat := (s.zipIdx.filter fun p => decide (p.1 = mx s)).map (·.2)
def bestE (late : Bool) (s : List Int) : Option Nat := if late = true then (bestL s).getLast? else (bestL s).head?
theorem bestL_mem {s : List Int} {k : Nat} : k ∈ bestL s ↔ s[k]? = some (mx s) := by
  unfold bestL
  rw [List.mem_map]
  constructor
  · rintro ⟨p, hp, rfl⟩
    rw [List.mem_filter] at hp
    have := zipIdx_at hp.1
    rw [this, of_decide_eq_true hp.2]
  · intro h
    refine ⟨(mx s, k), ?_, rfl⟩
    rw [List.mem_filter, List.mem_zipIdx_iff_getElem?]
    exact ⟨h, by simp⟩
theorem zipIdx_snd {α : Type} : ∀ (l : List α) (n : Nat), (l.zipIdx n).map (·.2) = List.range' n l.length
  | [], _ => rfl
  | x :: r, n => by rw [List.zipIdx_cons, List.map_cons, zipIdx_snd r (n + 1)]; rfl
theorem bestL_pw (s : List Int) : (bestL s).Pairwise (· < ·) := by
  have h : (s.zipIdx.map (·.2)).Pairwise (· < ·) := by
    rw [zipIdx_snd]
    exact List.pairwise_lt_range'
  unfold bestL
  exact h.sublist (List.filter_sublist.map _)
theorem bestE_best (late : Bool) (s : List Int) : IsBest late (fun i => s[i]?.getD 0) s.length (bestE late s) := by
  have key : ∀ k, k ∈ bestL s → k < s.length ∧ s[k]?.getD 0 = mx s := fun k hk => by
    have := bestL_mem.mp hk
    exact ⟨(List.getElem?_eq_some_iff.mp this).1, by rw [this]; rfl⟩
  have all : ∀ j, j < s.length → s[j]?.getD 0 ≤ mx s := fun j hj => by
    rw [List.getElem?_eq_getElem hj]
    have hne : s ≠ [] := fun z => by rw [z] at hj; simp at hj
    exact (mx_spec hne).2 _ (List.getElem_mem hj)
  have back : ∀ j, j < s.length → s[j]?.getD 0 = mx s → j ∈ bestL s := fun j hj e => by
    rw [bestL_mem, ← e, List.getElem?_eq_getElem hj]
    rfl
  have none_nil : bestL s = [] → s.length = 0 := fun e => by
    cases s with
    | nil => rfl
    | cons a r =>
      obtain ⟨h1, _⟩ := mx_spec (s := a :: r) (by simp)
      obtain ⟨k, hk⟩ := List.getElem?_of_mem h1
      have := bestL_mem.mpr hk
      rw [e] at this
      cases this
  unfold bestE
  cases late with
  | true =>
    rw [if_pos rfl]
    cases e : (bestL s).getLast? with
    | none => exact none_nil (List.getLast?_eq_none_iff.mp e)
    | some k =>
      obtain ⟨h1, h2⟩ := pw_last (bestL_pw s) e
      obtain ⟨h3, h4⟩ := key k h1
      refine ⟨h3, fun j hj => ?_, fun j hj ej => ?_⟩
      · show s[j]?.getD 0 ≤ s[k]?.getD 0
        rw [h4]; exact all j hj
      · rw [if_pos rfl]
        have ej : s[j]?.getD 0 = s[k]?.getD 0 := ej
        exact h2 j (back j hj (by rw [ej, h4]))
  | false =>
    rw [if_neg (by decide)]
    cases e : (bestL s).head? with
    | none => exact none_nil (List.head?_eq_none_iff.mp e)
    | some k =>
      obtain ⟨h1, h2⟩ := pw_head (bestL_pw s) e
      obtain ⟨h3, h4⟩ := key k h1
      refine ⟨h3, fun j hj => ?_, fun j hj ej => ?_⟩
      · show s[j]?.getD 0 ≤ s[k]?.getD 0
        rw [h4]; exact all j hj
      · rw [if_neg (by decide)]
        have ej : s[j]?.getD 0 = s[k]?.getD 0 := ej
        exact h2 j (back j hj (by rw [ej, h4]))
/-- the table of the second net -/
def seenOf (g : List Int) (strict : Bool) (k : Nat) : List Int := if strict = true then g.take k else g.take (k + 1)
def spM (late strict : Bool) (g : List Int) : List (Option Nat) := (List.range g.length).map fun k => bestE late (seenOf g strict k)
theorem spM_ok (late strict : Bool) (g : List Int) : Spots late strict (fun _ i => g[i]?.getD 0) g.length (spM late strict g) := by
  refine ⟨by simp [spM], fun k s e => ?_⟩
  simp only [spM, List.getElem?_map, Option.map_eq_some_iff] at e
  obtain ⟨x, e, rfl⟩ := e
  have hk : k < g.length := by have := (List.getElem?_eq_some_iff.mp e).1; simpa using this
  rw [List.getElem?_range hk] at e
  cases e
  have h := bestE_best late (seenOf g strict k)
  have e1 : seenOf g strict k = g.take (if strict = true then k else k + 1) := by unfold seenOf; split <;> rfl
  have e2 : (seenOf g strict k).length = if strict = true then k else k + 1 := by
    rw [e1, List.length_take]
    split <;> omega
  rw [e2] at h
  refine h.congr fun i j hi hj => ?_
  rw [e1, List.getElem?_take_of_lt hi, List.getElem?_take_of_lt hj]
/-- the table of the third net -/
def sameL (t : List Nat) (a : Nat) (x : Nat) : List Nat := ((List.range a).filter fun s => decide (t[s]? = some x)).map (· + 1)
def spot3 (t : List Nat) (p : Nat × Nat) : Option Nat := some ((sameL t p.2 p.1).getLast?.getD p.2)
def sp3 (t : List Nat) : List (Option Nat) := none :: t.zipIdx.map (spot3 t)
def alike : List (List Int) := [[0, 0, 0], [1, 0, 0], [0, 1, 0], [0, 0, 1]]
def eye : List (List Int) := [[1, 0, 0], [0, 1, 0], [0, 0, 1]]
theorem eye_dot : ∀ x, x < 3 → scoreOf eye (alike[x + 1]?.getD []) (alike.headD []) = 0 ∧ ∀ y, y < 3 → scoreOf eye (alike[x + 1]?.getD []) (alike[y + 1]?.getD []) = if y = x then 1 else 0 := by decide
theorem sp3_ok {t : List Nat} (ht : ∀ x ∈ t, x < 3) : Spots true true (fun k i => scoreOf eye ((baseRows alike t)[k]?.getD []) ((baseRows alike t)[i]?.getD [])) (baseRows alike t).length (sp3 t) := by
  refine ⟨by simp [sp3, baseRows], fun k s e => ?_⟩
  cases k with
  | zero =>
    simp [sp3] at e
    subst e
    rfl
  | succ a =>
    simp only [sp3, List.getElem?_cons_succ, List.getElem?_map, Option.map_eq_some_iff] at e
    obtain ⟨p, e, rfl⟩ := e
    rw [List.getElem?_zipIdx, Option.map_eq_some_iff] at e
    obtain ⟨x, e, rfl⟩ := e
    simp only [Nat.zero_add]
    have ha := (List.getElem?_eq_some_iff.mp e).1
    have hx := ht x (List.mem_of_getElem? e)
    have hrow : (baseRows alike t)[a + 1]?.getD [] = alike[x + 1]?.getD [] := by
      unfold baseRows
      rw [List.getElem?_cons_succ, List.getElem?_map, e]
      rfl
    have h0 : scoreOf eye ((baseRows alike t)[a + 1]?.getD []) ((baseRows alike t)[0]?.getD []) = 0 := by
      rw [hrow]
      exact (eye_dot x hx).1
    have h1 : ∀ b y, t[b]? = some y → scoreOf eye ((baseRows alike t)[a + 1]?.getD []) ((baseRows alike t)[b + 1]?.getD []) = if y = x then 1 else 0 := fun b y hb => by
      rw [hrow]
      have : (baseRows alike t)[b + 1]?.getD [] = alike[y + 1]?.getD [] := by
        unfold baseRows
        rw [List.getElem?_cons_succ, List.getElem?_map, hb]
        rfl
      rw [this]
      exact (eye_dot x hx).2 y (ht y (List.mem_of_getElem? hb))
    have pw : (sameL t a x).Pairwise (· < ·) := by
      unfold sameL
      rw [List.pairwise_map]
      exact (List.pairwise_lt_range.sublist List.filter_sublist).imp fun h => by omega
    have mem : ∀ j, j ∈ sameL t a x ↔ ∃ b, b < a ∧ t[b]? = some x ∧ j = b + 1 := fun j => by
      unfold sameL
      simp only [List.mem_map, List.mem_filter, List.mem_range, decide_eq_true_eq]
      constructor
      · rintro ⟨b, ⟨b1, b2⟩, rfl⟩; exact ⟨b, b1, b2, rfl⟩
      · rintro ⟨b, b1, b2, rfl⟩; exact ⟨b, ⟨b1, b2⟩, rfl⟩
    unfold spot3
    show IsBest true _ (a + 1) (some ((sameL t a x).getLast?.getD a))
    cases hl : (sameL t a x).getLast? with
    | none =>
      have hnil := List.getLast?_eq_none_iff.mp hl
      have hz : ∀ j, j < a + 1 → scoreOf eye ((baseRows alike t)[a + 1]?.getD []) ((baseRows alike t)[j]?.getD []) = 0 := fun j hj => by
        cases j with
        | zero => exact h0
        | succ b =>
          have hb : b < t.length := by omega
          rw [h1 b t[b] (List.getElem?_eq_getElem hb)]
          rw [if_neg]
          intro z
          have : b + 1 ∈ sameL t a x := (mem _).mpr ⟨b, by omega, by rw [List.getElem?_eq_getElem hb, z], rfl⟩
          rw [hnil] at this
          cases this
      refine ⟨by simp, fun j hj => ?_, fun j hj _ => ?_⟩
      · simp only [Option.getD_none]
        rw [hz j hj, hz a (by omega)]
        exact Int.le_refl _
      · rw [if_pos rfl]
        simp
        omega
    | some v =>
      obtain ⟨m1, m2⟩ := pw_last pw hl
      obtain ⟨b, b1, b2, rfl⟩ := (mem v).mp m1
      have hv : scoreOf eye ((baseRows alike t)[a + 1]?.getD []) ((baseRows alike t)[b + 1]?.getD []) = 1 := by rw [h1 b x b2, if_pos rfl]
      refine ⟨by simp; omega, fun j hj => ?_, fun j hj ej => ?_⟩
      · simp only [Option.getD_some]
        rw [hv]
        cases j with
        | zero => rw [h0]; decide
        | succ c =>
          have hc : c < t.length := by omega
          rw [h1 c t[c] (List.getElem?_eq_getElem hc)]
          split <;> decide
      · simp only [Option.getD_some] at ej ⊢
        rw [if_pos trivial]
        rw [hv] at ej
        cases j with
        | zero => rw [h0] at ej; cases ej
        | succ c =>
          have hc : c < t.length := by omega
          rw [h1 c t[c] (List.getElem?_eq_getElem hc)] at ej
          have hcx : t[c] = x := by
            by_cases z : t[c] = x
            · exact z
            · rw [if_neg z] at ej; cases ej
          exact m2 _ ((mem _).mpr ⟨c, by omega, by rw [List.getElem?_eq_getElem hc, hcx], rfl⟩)
end K28

set_option Elab.async false
set_option linter.all false
set_option maxRecDepth 100000
set_option maxHeartbeats 4000000
namespace K28
open PySem PySem.Spec PyProof.Rows L2 DL
local macro_rules | `(tactic| walk_at "e") => `(tactic| repeat' (first
  | walk_at "c" | exact DL.ev_v rfl | exact DL.ev_vz rfl | exact DL.ev_vzO rfl | exact DL.ev_C | exact DL.ev_nil
  | with_reducible apply DL.ev_op | with_reducible apply DL.ev_cb | with_reducible apply DL.ev_cbn | with_reducible apply DL.ev_cons | with_reducible apply DL.ev_fld
  | exact DL.er_I0 | with_reducible apply DL.er_I | exact DL.er_isN | exact DL.er_notN | with_reducible apply DL.er_eq | with_reducible apply DL.er_ne | with_reducible apply DL.er_ix
  | with_reducible apply DL.ev_tst | with_reducible apply DL.ev_not | with_reducible apply DL.ev_andT | with_reducible apply DL.ev_orT | with_reducible apply DL.ev_and | with_reducible apply DL.ev_or
  | with_reducible apply DL.ev_notV | with_reducible apply DL.ev_neg | with_reducible apply DL.ev_if | with_reducible apply DL.ev_chain
  | with_reducible apply DL.ev_fz | with_reducible apply DL.ev_star | with_reducible apply DL.ev_tup | with_reducible apply DL.ev_lst
  | with_reducible apply DL.ec_len | with_reducible apply DL.ec_tuple | with_reducible apply DL.ecn_list | exact DL.ec_int | exact DL.ec_intB | exact DL.ec_abs | exact DL.ec_max2 | exact DL.ec_min2 | exact DL.ec_sumM | exact DL.ec_allM | exact DL.ec_anyM
  | exact DL.eo_none | with_reducible apply DL.eo_some | with_reducible apply DL.ev_slT | with_reducible apply DL.ev_slL | with_reducible apply DL.ev_cat | with_reducible apply DL.ev_rep | with_reducible apply DL.ev_isi
  | with_reducible apply DL.ev_ixO | exact DL.ev_lenO rfl | exact DL.eg_n | with_reducible apply DL.eg_t | exact DL.egs_n | with_reducible apply DL.egs_c
  | with_reducible apply DL.ei_seq | with_reducible apply DL.ei_zip | with_reducible apply DL.ei_enum | with_reducible apply DL.ei_rng1 | with_reducible apply DL.ei_rng2
  | with_reducible apply DL.ev_callP | exact DL.eb_nil | with_reducible apply DL.eb_val | with_reducible apply DL.eb_own
  | with_reducible apply DL.ex_set | with_reducible apply DL.ex_setN | with_reducible apply DL.ex_asg | with_reducible apply DL.ex_exp | with_reducible apply DL.ex_par | with_reducible apply DL.ex_par3 | with_reducible apply DL.ex_unp | with_reducible apply DL.ex_app | with_reducible apply DL.ex_ext | with_reducible apply DL.ex_fld | exact DL.ex_next | with_reducible apply DL.ex_seq
  | exact rfl | assumption | decide | intro _))
local macro_rules | `(tactic| walk_at "c") => `(tactic| first | with_reducible apply ev__law_first_numbers | with_reducible apply ev__law_one | with_reducible apply ev_places_behind | with_reducible apply ev_levels_behind | with_reducible apply ev_places_of | with_reducible apply ev_levels_of | with_reducible apply ev_rows_above | with_reducible apply ev_need_short | with_reducible apply ev_need_text | with_reducible apply ev_need_net | with_reducible apply ev_are_layers | with_reducible apply ev_are_letter_rows | with_reducible apply ev_are_rows | with_reducible apply ev_row_made | with_reducible apply ev_spots_taken | with_reducible apply ev_is_table | with_reducible apply ev_are_heads | with_reducible apply ev_best_of | with_reducible apply ev_score_of | with_reducible apply ev_is_bounded | with_reducible apply ev_is_row | with_reducible apply ev_is_listed | with_reducible apply ev_is_within | with_reducible apply ev_is_integer)
local macro_rules | `(tactic| walk_at "s") => `(tactic| first
  | with_reducible apply DL.es_one | with_reducible (apply DL.es_stop (DL.es_ret ?_ ?_)) | with_reducible apply DL.es_if | with_reducible apply DL.es_ret | with_reducible apply DL.es_seq)
section
variable {P : Program} {w : World} {K : PySem.W.Frag} {mg : Str → Option Value} {base : Heap} {A : AD} {wn : WN} {ρ ρ1 : DL.Env}
/-! ### the law's walk -/
theorem ev_tupsp {sp : List (Option Nat)} (hv : Ev (wvz 10) ρ ρ1 (.lst (sp.map optN))) (hm : mine (nth ρ1 21) = false) (hl : 21 < ρ1.length) :
    Ev (wTup (wCons (wCB wTupOf (wCons (wFz (wLc (wSeqI (wvz 10)) [21] (gN 21) wYes (wTup (wCons (wv 21) wNil)))) wNil)) wNil)) ρ ρ1 (.tup [.tup (sp.map fun s => .tup [optN s])]) := by
  apply ev_tup
  · apply ev_cons
    · apply ev_cb
      · apply ev_cons
        · apply ev_fz
          apply ev_lc sp optN (fun s => .tup [optN s])
          · exact ei_seq hv rfl
          · rfl
          · exact mrg_self fun v hv => by
              have : v = 21 := by simpa using hv
              subst this
              exact hm
          · intro s hs
            refine ⟨_, eg_n, ?_, ?_⟩
            · apply ev_tup
              · apply ev_cons
                · apply ev_v
                  exact nth_get (List.getElem?_set_self (by rw [wipeB_len]; exact hl))
                · exact ev_nil
              · simp
            · show ((ρ1.set 21 .un).set 21 _).set 21 .un = ρ1.set 21 .un
              rw [List.set_set, List.set_set]
        · exact ev_nil
      · exact ec_tuple rfl
    · exact ev_nil
  · simp
theorem shp_sp (sp : List (Option Nat)) : shp (.tup [.tup (sp.map fun s => .tup [optN s])]) = true := by
  refine (shpN_tup (n := 2) fun d hd => ?_).shp (by decide)
  obtain rfl := List.mem_singleton.mp hd
  refine shpN_tup (n := 1) fun d hd => ?_
  rw [List.mem_map] at hd
  obtain ⟨s, _, rfl⟩ := hd
  refine shpN_tup (n := 0) fun d hd => ?_
  obtain rfl := List.mem_singleton.mp hd
  cases s
  · exact shpN_non
  · exact shpN_int
theorem shp_first (L : List (List Int)) (N : List Int) (sp : List (Option Nat)) : shp (firstT L N sp) = true := by
  refine (shpN_tup (n := 1) fun d hd => ?_).shp (by decide)
  rw [List.mem_map] at hd
  obtain ⟨s, _, rfl⟩ := hd
  refine shpN_tup (n := 0) fun d hd => ?_
  obtain rfl := List.mem_singleton.mp hd
  exact shpN_int
/-- the law's question of the places -/
theorem ev_askP {h : Hd} {rows : List (List Int)} {t : List Nat} {sp : List (Option Nat)} {wp wt : WE} (h1 : Ev wp ρ ρ (.tup (placesOf (oneN h rows) t))) (h2 : Ev wt ρ ρ1 (.tup [.tup (sp.map fun s => .tup [optN s])]))
    (e : ((baseRows rows t).zipIdx.map fun q => spot h ((baseRows rows t).take q.2) q.1) = sp) : EvT (wTst (wOp wNe wp wt)) ρ ρ1 false := by
  rw [places_one e] at h1
  apply evT_cast
  · apply ev_tst
    exact ev_op h1 h2 (er_ne (shp_sp sp) (shp_sp sp))
  · rw [deq_self]
    rfl
theorem ev_askL {h : Hd} {rows : List (List Int)} {t : List Nat} {sp : List (Option Nat)} {wl wf : WE} (h1 : Ev wl ρ ρ (rowsT (above (oneL h) (baseRows rows t)))) (h2 : Ev wf ρ ρ (firstT (baseRows rows t) h.N sp))
    (e : ((baseRows rows t).zipIdx.map fun q => spot h ((baseRows rows t).take q.2) q.1) = sp) (hn : h.N ≠ []) (hL : ∀ r ∈ baseRows rows t, r.length = h.N.length) : EvT (wTst (wOp wNe wl wf)) ρ ρ false := by
  rw [firsts_one e hn hL] at h1
  apply evT_cast
  · apply ev_tst
    exact ev_op h1 h2 (er_ne (shp_first _ _ sp) (shp_first _ _ sp))
  · rw [deq_self]
    rfl
def RW : List (List Int) := [[7, 1], [3, 1], [5, 1], [0, 1]]
theorem RW_base {t : List Nat} (ht : ∀ x ∈ t, x < 3) : ∀ r ∈ baseRows RW t, ∃ v : Int, r = [v, 1] := fun r hr => by
  unfold baseRows at hr
  rw [List.mem_cons, List.mem_map] at hr
  rcases hr with rfl | ⟨x, hx, rfl⟩
  · exact ⟨7, rfl⟩
  · have := ht x hx
    match x, this with
    | 0, _ => exact ⟨3, rfl⟩
    | 1, _ => exact ⟨5, rfl⟩
    | 2, _ => exact ⟨0, rfl⟩
theorem base_len (rows : List (List Int)) (t : List Nat) : (baseRows rows t).length = t.length + 1 := by
  unfold baseRows
  rw [List.length_cons, List.length_map]
/-- what the law knows of a turn -/
def late4 (n : Nat) : List D := [.tup [.bl true, .bl true, .lst ((spA n).map optN)], .tup [.bl true, .bl false, .lst ((spB n).map optN)], .tup [.bl false, .bl false, .lst ((spC n).map optN)], .tup [.bl false, .bl true, .lst ((spD n).map optN)]]
theorem late4_ok {n : Nat} (hn : 0 < n) {x : D} (h : x ∈ late4 n) : ∃ late strict sp, x = .tup [.bl late, .bl strict, .lst (sp.map optN)] ∧ Spots late strict (fun _ _ => 0) n sp := by
  simp only [late4, List.mem_cons, List.not_mem_nil, or_false] at h
  rcases h with rfl | rfl | rfl | rfl
  · exact ⟨_, _, _, rfl, spA_ok hn⟩
  · exact ⟨_, _, _, rfl, spB_ok⟩
  · exact ⟨_, _, _, rfl, spC_ok⟩
  · exact ⟨_, _, _, rfl, spD_ok hn⟩
def Ok (kmax : Nat) (p : Addr) (ρ : DL.Env) : Prop := ∃ k xs, k ≤ kmax ∧ ρ = .un :: .pen p k :: xs ∧ xs.length = 22 ∧ mine (nth ρ 13) = false ∧ mine (nth ρ 21) = false ∧ mine (nth ρ 22) = false ∧ mine (nth ρ 23) = false
theorem list22 {xs : List B} (h : xs.length = 22) : ∃ a b c d e f g h i j k l m n o p q r s t u v, xs = [a, b, c, d, e, f, g, h, i, j, k, l, m, n, o, p, q, r, s, t, u, v] := by
  match xs, h with
  | [a, b, c, d, e, f, g, h, i, j, k, l, m, n, o, p, q, r, s, t, u, v], _ => exact ⟨_, _, _, _, _, _, _, _, _, _, _, _, _, _, _, _, _, _, _, _, _, _, rfl⟩
theorem Spots.lt {late strict : Bool} {f : Nat → Nat → Int} {n : Nat} {sp : List (Option Nat)} (h : Spots late strict f n sp) : ∀ k, some k ∈ sp → k < n := fun k hk => by
  obtain ⟨i, hi⟩ := List.getElem?_of_mem hk
  have h1 := (h.2 i _ hi).1
  have h2 := (List.getElem?_eq_some_iff.mp hi).1
  rw [h.1] at h2
  split at h1 <;> omega
def hz (v : Int) (late strict : Bool) : Hd := ⟨[[0, 0], [0, 0]], [v, 0], late, strict⟩
def hg (s v : Int) (late strict : Bool) : Hd := ⟨[[0, 0], [s, 0]], [v, 0], late, strict⟩
def he3 : Hd := ⟨eye, [0, 0, 0], true, true⟩
theorem hg_ok {s v : Int} {late strict : Bool} (hs : -999 ≤ s ∧ s ≤ 999) (hv : -999 ≤ v ∧ v ≤ 999) : okH (hg s v late strict).S (hg s v late strict).N := by
  refine ⟨by show 1 ≤ 2; decide, by show 2 ≤ 4; decide, fun r hr => ?_, rfl, fun i hi => ?_⟩
  · simp only [hg, List.mem_cons, List.not_mem_nil, or_false] at hr
    rcases hr with rfl | rfl
    · refine ⟨rfl, fun i hi => ?_⟩
      simp at hi
      subst hi
      decide
    · refine ⟨rfl, fun i hi => ?_⟩
      simp at hi
      rcases hi with rfl | rfl
      · exact hs
      · decide
  · simp [hg] at hi
    rcases hi with rfl | rfl
    · exact hv
    · decide
theorem hz_ok {v : Int} {late strict : Bool} (hv : -999 ≤ v ∧ v ≤ 999) : okH (hz v late strict).S (hz v late strict).N := hg_ok (s := 0) ⟨by decide, by decide⟩ hv
theorem he3_ok : okH he3.S he3.N := by
  refine ⟨by decide, by decide, fun r hr => ?_, rfl, fun i hi => ?_⟩
  · simp only [he3, eye, List.mem_cons, List.not_mem_nil, or_false] at hr
    rcases hr with rfl | rfl | rfl <;> refine ⟨rfl, fun i hi => ?_⟩ <;> simp at hi <;> omega
  · simp [he3] at hi
    subst hi
    decide
theorem RW_ok : okRows RW 2 := by
  refine ⟨by decide, by decide, by decide, by decide, fun r hr => ?_⟩
  simp only [RW, List.mem_cons, List.not_mem_nil, or_false] at hr
  rcases hr with rfl | rfl | rfl | rfl <;> refine ⟨rfl, fun i hi => ?_⟩ <;> simp at hi <;> rcases hi with rfl | rfl <;> decide
theorem alike_ok : okRows alike 3 := by
  refine ⟨by decide, by decide, by decide, by decide, fun r hr => ?_⟩
  simp only [alike, List.mem_cons, List.not_mem_nil, or_false] at hr
  rcases hr with rfl | rfl | rfl | rfl <;> refine ⟨rfl, fun i hi => ?_⟩ <;> simp at hi <;> omega
theorem RW_get {t : List Nat} (ht : ∀ x ∈ t, x < 3) {i : Nat} (hi : i < (baseRows RW t).length) : ∃ v : Int, (baseRows RW t)[i]?.getD [] = [v, 1] := by
  rw [List.getElem?_eq_getElem hi]
  exact RW_base ht _ (List.getElem_mem hi)
theorem score_hg (s v b c : Int) (late strict : Bool) : scoreOf (hg s v late strict).S [b, 1] [c, 1] = s * c := by
  simp [scoreOf, hg]
theorem spots_hz {t : List Nat} (ht : ∀ x ∈ t, x < 3) {v : Int} {late strict : Bool} {sp : List (Option Nat)} (h : Spots late strict (fun _ _ => 0) (baseRows RW t).length sp) :
    ((baseRows RW t).zipIdx.map fun q => spot (hz v late strict) ((baseRows RW t).take q.2) q.1) = sp := by
  refine spot_of (h := hz v late strict) h fun k i j hk hi hj => ?_
  obtain ⟨a, ea⟩ := RW_get ht hk
  obtain ⟨b, eb⟩ := RW_get ht hi
  obtain ⟨c, ec⟩ := RW_get ht hj
  rw [ea, eb, ec]
  have e1 := score_hg 0 v a b late strict
  have e2 := score_hg 0 v a c late strict
  show (0 : Int) ≤ 0 ↔ scoreOf (hg 0 v late strict).S [a, 1] [b, 1] ≤ scoreOf (hg 0 v late strict).S [a, 1] [c, 1]
  rw [e1, e2]
  simp
def gOf (s : Int) (L : List (List Int)) : List Int := L.map fun r => r.headD 0 * (if 0 < s then 1 else -1)
theorem spots_hg {t : List Nat} (ht : ∀ x ∈ t, x < 3) {s v : Int} (hs : s = 1 ∨ s = -1 ∨ s = 999) {late strict : Bool} :
    ((baseRows RW t).zipIdx.map fun q => spot (hg s v late strict) ((baseRows RW t).take q.2) q.1) = spM late strict (gOf s (baseRows RW t)) := by
  have h := spM_ok late strict (gOf s (baseRows RW t))
  have hl : (gOf s (baseRows RW t)).length = (baseRows RW t).length := by unfold gOf; rw [List.length_map]
  rw [hl] at h
  refine spot_of (h := hg s v late strict) h fun k i j hk hi hj => ?_
  obtain ⟨a, ea⟩ := RW_get ht hk
  obtain ⟨b, eb⟩ := RW_get ht hi
  obtain ⟨c, ec⟩ := RW_get ht hj
  have gb : (gOf s (baseRows RW t))[i]?.getD 0 = b * (if 0 < s then 1 else -1) := by
    rw [List.getElem?_eq_getElem hi] at eb
    unfold gOf
    rw [List.getElem?_map, List.getElem?_eq_getElem hi]
    have eb' : (baseRows RW t)[i] = [b, 1] := eb
    rw [eb']
    rfl
  have gc : (gOf s (baseRows RW t))[j]?.getD 0 = c * (if 0 < s then 1 else -1) := by
    rw [List.getElem?_eq_getElem hj] at ec
    unfold gOf
    rw [List.getElem?_map, List.getElem?_eq_getElem hj]
    have ec' : (baseRows RW t)[j] = [c, 1] := ec
    rw [ec']
    rfl
  rw [gb, gc, ea, eb, ec, score_hg, score_hg]
  rcases hs with rfl | rfl | rfl
  · rw [if_pos (by decide)]; omega
  · rw [if_neg (by decide)]; omega
  · rw [if_pos (by decide)]; omega
theorem spots_he3 {t : List Nat} (ht : ∀ x ∈ t, x < 3) : ((baseRows alike t).zipIdx.map fun q => spot he3 ((baseRows alike t).take q.2) q.1) = sp3 t :=
  spot_of (h := he3) (sp3_ok ht) fun _ _ _ _ _ _ => Iff.rfl
theorem RW_text {t : List Nat} {h : Hd} (hn : h.N.length = 2) (htl : t.length ≤ 24) (ht : ∀ x ∈ t, x < 3) : okText (oneN h RW) t 60 := ⟨by omega, fun x hx => by
  have := ht x hx
  show x < (List.replicate (4 - 1) [(0 : Int)]).length
  rw [List.length_replicate]
  omega⟩
theorem RW_first {t : List Nat} {sp : List (Option Nat)} {v : Int} (htl : t.length ≤ 24) (ht : ∀ x ∈ t, x < 3) (hsp : ∀ k, some k ∈ sp → k < (baseRows RW t).length) : okFirst RW t sp [v, 0] := by
  refine ⟨by decide, by decide, by omega, fun x hx => ?_, fun k hk => ?_, by simp⟩
  · have := ht x hx
    show x + 1 < 4
    omega
  · have := hsp k hk
    rw [base_len] at this
    exact this
theorem intsOf_self (S : List Int) : intsOf (S.map .int) = some S := by
  have := intsOf_mapF (fun x : Int => x) S
  rw [List.map_id'] at this
  exact this
theorem shp_nats (l : List Nat) : shp (.lst (l.map fun k => .int (k : Nat))) = true := (shpN_lst (n := 0) fun d hd => by
  rw [List.mem_map] at hd
  obtain ⟨k, _, rfl⟩ := hd
  exact shpN_int).shp (by decide)
theorem deq_nats (l : List Nat) : deq (.lst (l.map fun k => .int (k : Nat))) (.lst []) = decide (l = []) := by cases l <;> rfl
theorem ev_bestapp {late : Bool} {S : List Int} (h17 : nth ρ 17 = .val (.lst ((bestL S).map fun k => .int (k : Nat)))) (h8 : nth ρ 8 = .val (.bl late)) :
    Ev (wIf (wTst (wOp wEq (wv 17) (wFz (wLst wNil)))) (wC D.non) (wIf (wTst (wv 8)) (wOp wIx (wv 17) (wNeg (wC (D.int 1)))) (wOp wIx (wv 17) (wC (D.int 0))))) ρ ρ (optN (bestE late S)) := by
  have ht : EvT (wTst (wOp wEq (wv 17) (wFz (wLst wNil)))) ρ ρ (decide (bestL S = [])) := by
    apply evT_cast
    · apply ev_tst
      exact ev_op (ev_v h17) (ev_fz (ev_lst ev_nil (by simp))) (er_eq (shp_nats _) rfl)
    · exact deq_nats _
  unfold bestE
  by_cases hn : bestL S = []
  · apply ev_ifT
    · exact evT_cast ht (decide_eq_true hn)
    · apply ev_cast
      · exact ev_C
      · rw [hn]
        cases late <;> rfl
  · apply ev_ifF
    · exact evT_cast ht (decide_eq_false hn)
    · cases late with
      | true =>
        apply ev_ifT
        · exact ev_tst (ev_v h8)
        · cases hl : (bestL S).getLast? with
          | none => exact absurd (List.getLast?_eq_none_iff.mp hl) hn
          | some k =>
            refine ev_op (ev_v h17) (ev_neg ev_C) (er_ix rfl ?_)
            apply getLast_atI
            rw [List.getLast?_map, hl]
            rfl
      | false =>
        apply ev_ifF
        · exact ev_tst (ev_v h8)
        · cases hl : bestL S with
          | nil => exact absurd hl hn
          | cons k r =>
            rw [hl] at h17
            exact ev_op (ev_v h17) ev_C (er_ix rfl atI_zero)
theorem alike_text {t : List Nat} (htl : t.length ≤ 24) (ht : ∀ x ∈ t, x < 3) : okText (oneN he3 alike) t 60 := ⟨by omega, fun x hx => by
  have := ht x hx
  show x < (List.replicate (4 - 1) [(0 : Int)]).length
  rw [List.length_replicate]
  omega⟩
theorem ev_same {t : List Nat} {q : Nat × Nat} (h19 : nth ρ 19 = .val (.lst ((sameL t q.2 q.1).map fun k => .int (k : Nat)))) (h15 : nth ρ 15 = .val (.int (q.2 : Nat))) :
    Ev (wIf (wTst (wOp wNe (wv 19) (wFz (wLst wNil)))) (wOp wIx (wv 19) (wNeg (wC (D.int 1)))) (wv 15)) ρ ρ (optN (spot3 t q)) := by
  have ht : EvT (wTst (wOp wNe (wv 19) (wFz (wLst wNil)))) ρ ρ (!decide (sameL t q.2 q.1 = [])) := by
    apply evT_cast
    · apply ev_tst
      exact ev_op (ev_v h19) (ev_fz (ev_lst ev_nil (by simp))) (er_ne (shp_nats _) rfl)
    · rw [deq_nats]
  unfold spot3
  cases hl : (sameL t q.2 q.1).getLast? with
  | none =>
    have hn := List.getLast?_eq_none_iff.mp hl
    apply ev_ifF
    · exact evT_cast ht (by rw [hn]; rfl)
    · exact ev_v h15
  | some k =>
    apply ev_ifT
    · refine evT_cast ht ?_
      cases hs : sameL t q.2 q.1 with
      | nil => rw [hs] at hl; cases hl
      | cons a r => rfl
    · refine ev_op (ev_v h19) (ev_neg ev_C) (er_ix rfl ?_)
      apply getLast_atI
      rw [List.getLast?_map, hl]
      rfl
def twoH (late : Bool) : Hd := ⟨[[0]], [0], late, true⟩
def twoL : Ly := ⟨[twoH true, twoH false], [[0, 1, 2]], [0], 99, 1⟩
def twoN : Nt := ⟨[[5], [1], [2]], [twoL], [[0], [0]], 1⟩
theorem bnd_1 {i : Int} {r : List Int} (h : ∀ x ∈ r, -999 ≤ x ∧ x ≤ 999) (hl : r.length = 1) : bndR r 1 999 := ⟨hl, h⟩
theorem twoH_ok {late : Bool} : okH (twoH late).S (twoH late).N := by
  refine ⟨by show 1 ≤ 1; decide, by show 1 ≤ 4; decide, fun r hr => ?_, rfl, fun i hi => ?_⟩
  · have : r = [0] := by simpa [twoH] using hr
    subst this
    exact ⟨rfl, by decide⟩
  · have : i = 0 := by simpa [twoH] using hi
    subst this
    decide
theorem twoL_ok : okL twoL := by
  refine ⟨⟨by decide, by decide, by decide, by decide, by decide, fun r hr => ?_, fun h hh => ?_⟩, ⟨rfl, by decide⟩, by decide, by decide⟩
  · have : r = [0, 1, 2] := by simpa [twoL] using hr
    subst this
    exact ⟨rfl, by decide⟩
  · simp only [twoL, List.mem_cons, List.not_mem_nil, or_false] at hh
    rcases hh with rfl | rfl <;> rfl
theorem twoN_ok : okN twoN := by
  refine ⟨⟨by decide, by decide, by decide, by decide, fun r hr => ?_⟩, by decide, ⟨rfl, trivial⟩, fun l hl => ?_, rfl, fun r hr => ?_⟩
  · simp only [twoN, List.mem_cons, List.not_mem_nil, or_false] at hr
    rcases hr with rfl | rfl | rfl <;> exact ⟨rfl, by decide⟩
  · have : l = twoL := by simpa [twoN] using hl
    subst this
    exact twoL_ok
  · simp only [twoN, List.mem_cons, List.not_mem_nil, or_false] at hr
    rcases hr with rfl | rfl <;> exact ⟨rfl, by decide⟩
theorem two_lev : levels twoN [0, 1, 1] = [[[5], [1], [2], [2]], [[0], [15], [11], [12]]] := by decide
theorem two_at : atI ((levels twoN [0, 1, 1]).map rowsT) 1 = some (rowsT [[0], [15], [11], [12]]) := by
  rw [two_lev]
  rfl
theorem two_shp : shp (rowsT [[0], [15], [11], [12]]) = true := by
  refine (shpN_tup (n := 1) fun d hd => ?_).shp (by decide)
  rw [List.mem_map] at hd
  obtain ⟨r, _, rfl⟩ := hd
  refine shpN_tup (n := 0) fun d hd => ?_
  rw [List.mem_map] at hd
  obtain ⟨i, _, rfl⟩ := hd
  exact shpN_int
theorem law_rest (T : Txt K mg A) {cdv : Value} {A_ : Around} {outer : List PySem.Env} {s : Shared} {H : Hp} {E : XK} (hr : Room 8 (A_.deeper (envOfC "law" (defScope s_law) s.heap.objs.size A.a_law cdv))) :
    ∃ wb, DSs (cxOf CX0 P w K mg base ["script", "pen", "turn", "rows", "text", "many", "none", "some", "late", "strict", "spots", "net", "sign", "letter", "told", "at", "seen", "best", "alike", "same", "two", "spot", "row", "number"] "law" (defScope s_law) A.a_law cdv A_ outer s H E).nox ((defBody s_law).drop 1) wb ∧
      ∀ (De : DEnds) (p : Addr), (∀ ρ', De.rt ρ' (.bl true)) → wb De [.un, .pen p 0, .un, .un, .un, .un, .un, .un, .un, .un, .un, .un, .un, .un, .un, .un, .un, .un, .un, .un, .un, .un, .un, .un] := by
  refine ⟨_, (dss_cons (ds_for PassesOwn.never rfl (di_range1 (by rfl) T.b_range (da_cons d_int da_nil)) (dg_name 2 sc_law.nd)
      (dss_cons (ds_set 3 sc_law.nd (dn_e (dn_lst (da_cons (dn_e (dn_lst (da_cons d_int (da_cons d_int da_nil)))) (da_cons (dn_e (dn_lst (da_cons d_int (da_cons d_int da_nil)))) (da_cons (dn_e (dn_lst (da_cons d_int (da_cons d_int da_nil)))) (da_cons (dn_e (dn_lst (da_cons d_int (da_cons d_int da_nil)))) da_nil)))))))
      (dss_cons (ds_set 4 sc_law.nd (dn_e (dn_lc [("spot", 21)] rfl sc_law.nd (di_range1 (by rfl) T.b_range (da_cons (d_callP 1 (ok__law_draw T) (hr.mono (by decide)) (by rfl) T.m__law_draw T.F__law_draw.kp T.B__law_draw pass0 (da_cons d_int da_nil)) da_nil)) (show BlkOk ["script", "pen", "turn", "rows", "text", "many", "none", "some", "late", "strict", "spots", "net", "sign", "letter", "told", "at", "seen", "best", "alike", "same", "two", "spot", "row", "number"] (defScope s_law) _ [("spot", 21)] from blkOk_by (by decide +kernel)) (by decide) (fun _ _ _ _ _ => (dg_name 21 sc_law.nd)) (fun _ _ _ _ _ => dts_nil) (fun _ _ _ _ _ => (d_callP 1 (ok__law_draw T) (hr.mono (by decide)) (by rfl) T.m__law_draw T.F__law_draw.kp T.B__law_draw pass0 (da_cons d_int da_nil))))))
      (dss_cons (ds_par 5 6 rfl sc_law.nd (dao_val (d_op do_add (d_callB dc_len (by rfl) T.b_len (by decide +kernel) (da_cons (dv 4) da_nil)) d_int) (dao_val (dn_e (dn_lst (da_cons (d_callP 1 (ok__law_pick T) (hr.mono (by decide)) (by rfl) T.m__law_pick T.F__law_pick.kp T.B__law_pick pass0 (da_cons (dn_e (dn_lst (da_cons d_int (da_cons d_int (da_cons (d_neg d_int) (da_cons d_int da_nil)))))) da_nil)) (da_cons d_int da_nil)))) dao_nil)))
      (dss_cons (ds_set 7 sc_law.nd (dn_e (dn_lst (da_cons (d_tup (da_cons d_bl (da_cons d_bl (da_cons (dn_e (dn_cat (dn_e (dn_lst (da_cons d_non da_nil))) (dn_e (dn_listR1 rfl (by rfl) T.b_list (by rfl) T.b_range (d_op do_sub (dv 5) d_int))))) da_nil)))) (da_cons (d_tup (da_cons d_bl (da_cons d_bl (da_cons (dn_e (dn_listR1 rfl (by rfl) T.b_list (by rfl) T.b_range (dv 5))) da_nil)))) (da_cons (d_tup (da_cons d_bl (da_cons d_bl (da_cons (dn_e (dn_rep (dn_e (dn_lst (da_cons d_int da_nil))) (dv 5))) da_nil)))) (da_cons (d_tup (da_cons d_bl (da_cons d_bl (da_cons (dn_e (dn_cat (dn_e (dn_lst (da_cons d_non da_nil))) (dn_e (dn_rep (dn_e (dn_lst (da_cons d_int da_nil))) (d_op do_sub (dv 5) d_int))))) da_nil)))) da_nil)))))))
      (dss_cons (ds_asg (d_callP 1 (ok__law_pick T) (hr.mono (by decide)) (by rfl) T.m__law_pick T.F__law_pick.kp T.B__law_pick pass0 (da_cons (dv 7) da_nil)) (dg_tup (n := 3) rfl (dgs_cons (dg_name 8 sc_law.nd) (dgs_cons (dg_name 9 sc_law.nd) (dgs_cons (dg_name 10 sc_law.nd) dgs_nil)))))
      (dss_cons (ds_set 11 sc_law.nd (d_call (ok__law_one T) (hr.mono (by decide)) (by rfl) T.m__law_one T.F__law_one.kp T.B__law_one .nil (fun _ => .nil) pass0 (da_cons (dn_e (dn_lst (da_cons (dn_e (dn_lst (da_cons d_int (da_cons d_int da_nil)))) (da_cons (dn_e (dn_lst (da_cons d_int (da_cons d_int da_nil)))) da_nil)))) (da_cons (dv 6) (da_cons (dv 8) (da_cons (dv 9) (da_cons (dv 3) da_nil)))))))
      (dss_cons (ds_if ((dw_or (dt_cmp (do_ne hr.units) (d_call (ok_places_behind T) (hr.mono (by decide)) (by rfl) T.m_places_behind T.F_places_behind.kp T.B_places_behind .nil (fun _ => .nil) pass0 (da_cons (dv 11) (da_cons (dv 4) da_nil))) (d_tup (da_cons (d_callT dc_tuple (by rfl) T.b_tuple (by decide +kernel) (da_cons (dn_e (dn_lc [("spot", 21)] rfl sc_law.nd (di_seq (dvz 10)) (show BlkOk ["script", "pen", "turn", "rows", "text", "many", "none", "some", "late", "strict", "spots", "net", "sign", "letter", "told", "at", "seen", "best", "alike", "same", "two", "spot", "row", "number"] (defScope s_law) _ [("spot", 21)] from blkOk_by (by decide +kernel)) (by decide) (fun _ _ _ _ _ => (dg_name 21 sc_law.nd)) (fun _ _ _ _ _ => dts_nil) (fun _ _ _ _ _ => (d_tup (da_cons (dv 21) da_nil))))) da_nil)) da_nil))) (dw_or1 (dt_cmp (do_ne hr.units) (d_ix (d_call (ok_levels_behind T) (hr.mono (by decide)) (by rfl) T.m_levels_behind T.F_levels_behind.kp T.B_levels_behind .nil (fun _ => .nil) pass0 (da_cons (dv 11) (da_cons (dv 4) da_nil))) d_int) (d_call (ok__law_first_numbers T) (hr.mono (by decide)) (by rfl) T.m__law_first_numbers T.F__law_first_numbers.kp T.B__law_first_numbers .nil (fun _ => .nil) pass0 (da_cons (dv 3) (da_cons (dv 4) (da_cons (dvz 10) (da_cons (dv 6) da_nil))))))))).dt (dss_one (ds_ret d_bl)) dss_nil)
      (dss_cons (ds_set 12 sc_law.nd (d_callP 1 (ok__law_pick T) (hr.mono (by decide)) (by rfl) T.m__law_pick T.F__law_pick.kp T.B__law_pick pass0 (da_cons (dn_e (dn_lst (da_cons d_int (da_cons (d_neg d_int) (da_cons d_int da_nil))))) da_nil)))
      (dss_cons (ds_set 11 sc_law.nd (d_call (ok__law_one T) (hr.mono (by decide)) (by rfl) T.m__law_one T.F__law_one.kp T.B__law_one .nil (fun _ => .nil) pass0 (da_cons (dn_e (dn_lst (da_cons (dn_e (dn_lst (da_cons d_int (da_cons d_int da_nil)))) (da_cons (dn_e (dn_lst (da_cons (dv 12) (da_cons d_int da_nil)))) da_nil)))) (da_cons (dv 6) (da_cons (dv 8) (da_cons (dv 9) (da_cons (dv 3) da_nil)))))))
      (dss_cons (ds_par 14 10 rfl sc_law.nd (dao_val (dn_e (dn_lc [("row", 22)] rfl sc_law.nd (di_seq (dn_e (dn_cat (dn_e (dn_lst (da_cons (d_ix (dv 3) d_int) da_nil))) (dn_e (dn_lc [("letter", 13)] rfl sc_law.nd (di_seq (dv 4)) (show BlkOk ["script", "pen", "turn", "rows", "text", "many", "none", "some", "late", "strict", "spots", "net", "sign", "letter", "told", "at", "seen", "best", "alike", "same", "two", "spot", "row", "number"] (defScope s_law) _ [("letter", 13)] from blkOk_by (by decide +kernel)) (by decide) (fun _ _ _ _ _ => (dg_name 13 sc_law.nd)) (fun _ _ _ _ _ => dts_nil) (fun _ _ _ _ _ => (d_ix (dv 3) (d_op do_add (dv 13) d_int)))))))) (show BlkOk ["script", "pen", "turn", "rows", "text", "many", "none", "some", "late", "strict", "spots", "net", "sign", "letter", "told", "at", "seen", "best", "alike", "same", "two", "spot", "row", "number"] (defScope s_law) _ [("row", 22)] from blkOk_by (by decide +kernel)) (by decide) (fun _ _ _ _ _ => (dg_name 22 sc_law.nd)) (fun _ _ _ _ _ => dts_nil) (fun _ _ _ _ _ => (d_op do_mul (d_ix (dv 22) d_int) (d_if (dt_cmp do_gt (dv 12) d_int) d_int (d_neg d_int)))))) (dao_own (dn_lst da_nil) dao_nil)))
      (dss_cons (ds_for PassesOwn.never rfl (di_range1 (by rfl) T.b_range (da_cons (dv 5) da_nil)) (dg_name 15 sc_law.nd)
      (dss_cons (ds_set 16 sc_law.nd (d_if (dt_val (dv 9)) (dn_e (dn_sliceL (dv 14) do_none (do_some (dv 15)))) (dn_e (dn_sliceL (dv 14) do_none (do_some (d_op do_add (dv 15) d_int))))))
      (dss_cons (ds_setLc 17 [("spot", 21), ("number", 23)] rfl sc_law.nd (di_enum (by rfl) T.b_enumerate (da_cons (dv 16) da_nil)) (show BlkOk ["script", "pen", "turn", "rows", "text", "many", "none", "some", "late", "strict", "spots", "net", "sign", "letter", "told", "at", "seen", "best", "alike", "same", "two", "spot", "row", "number"] (defScope s_law) _ [("spot", 21), ("number", 23)] from blkOk_by (by decide +kernel)) (by decide) (fun _ _ _ _ _ => (dg_tup (n := 2) rfl (dgs_cons (dg_name 21 sc_law.nd) (dgs_cons (dg_name 23 sc_law.nd) dgs_nil)))) (fun _ _ _ _ _ => (dts_one (dt_cmp (do_eq hr.units) (dv 23) (d_callB (dc_max rfl) (by rfl) T.b_max (by decide +kernel) (da_cons (dv 16) da_nil))))) (fun _ _ _ _ _ => (dv 21)) (sw_true rfl rfl rfl (by decide +kernel)))
      (dss_one (ds_app 10 (d_if (dt_cmp (do_eq hr.units) (dv 17) (dn_e (dn_lst da_nil))) d_non (d_if (dt_val (dv 8)) (d_ix (dv 17) (d_neg d_int)) (d_ix (dv 17) d_int))))))))
      (dss_cons (ds_if ((dw_or (dt_cmp (do_ne hr.units) (d_call (ok_places_behind T) (hr.mono (by decide)) (by rfl) T.m_places_behind T.F_places_behind.kp T.B_places_behind .nil (fun _ => .nil) pass0 (da_cons (dv 11) (da_cons (dv 4) da_nil))) (d_tup (da_cons (d_callT dc_tuple (by rfl) T.b_tuple (by decide +kernel) (da_cons (dn_e (dn_lc [("spot", 21)] rfl sc_law.nd (di_seq (dvz 10)) (show BlkOk ["script", "pen", "turn", "rows", "text", "many", "none", "some", "late", "strict", "spots", "net", "sign", "letter", "told", "at", "seen", "best", "alike", "same", "two", "spot", "row", "number"] (defScope s_law) _ [("spot", 21)] from blkOk_by (by decide +kernel)) (by decide) (fun _ _ _ _ _ => (dg_name 21 sc_law.nd)) (fun _ _ _ _ _ => dts_nil) (fun _ _ _ _ _ => (d_tup (da_cons (dv 21) da_nil))))) da_nil)) da_nil))) (dw_or1 (dt_cmp (do_ne hr.units) (d_ix (d_call (ok_levels_behind T) (hr.mono (by decide)) (by rfl) T.m_levels_behind T.F_levels_behind.kp T.B_levels_behind .nil (fun _ => .nil) pass0 (da_cons (dv 11) (da_cons (dv 4) da_nil))) d_int) (d_call (ok__law_first_numbers T) (hr.mono (by decide)) (by rfl) T.m__law_first_numbers T.F__law_first_numbers.kp T.B__law_first_numbers .nil (fun _ => .nil) pass0 (da_cons (dv 3) (da_cons (dv 4) (da_cons (dvz 10) (da_cons (dv 6) da_nil))))))))).dt (dss_one (ds_ret d_bl)) dss_nil)
      (dss_cons (ds_set 18 sc_law.nd (dn_e (dn_lst (da_cons (dn_e (dn_lst (da_cons d_int (da_cons d_int (da_cons d_int da_nil))))) (da_cons (dn_e (dn_lst (da_cons d_int (da_cons d_int (da_cons d_int da_nil))))) (da_cons (dn_e (dn_lst (da_cons d_int (da_cons d_int (da_cons d_int da_nil))))) (da_cons (dn_e (dn_lst (da_cons d_int (da_cons d_int (da_cons d_int da_nil))))) da_nil)))))))
      (dss_cons (ds_set 11 sc_law.nd (d_call (ok__law_one T) (hr.mono (by decide)) (by rfl) T.m__law_one T.F__law_one.kp T.B__law_one .nil (fun _ => .nil) pass0 (da_cons (dn_e (dn_lst (da_cons (dn_e (dn_lst (da_cons d_int (da_cons d_int (da_cons d_int da_nil))))) (da_cons (dn_e (dn_lst (da_cons d_int (da_cons d_int (da_cons d_int da_nil))))) (da_cons (dn_e (dn_lst (da_cons d_int (da_cons d_int (da_cons d_int da_nil))))) da_nil))))) (da_cons (dn_e (dn_lst (da_cons d_int (da_cons d_int (da_cons d_int da_nil))))) (da_cons d_bl (da_cons d_bl (da_cons (dv 18) da_nil)))))))
      (dss_cons (ds_setN 10 sc_law.nd (dn_lst (da_cons d_non da_nil)))
      (dss_cons (ds_for PassesOwn.never rfl (di_enum (by rfl) T.b_enumerate (da_cons (dv 4) da_nil)) (dg_tup (n := 2) rfl (dgs_cons (dg_name 15 sc_law.nd) (dgs_cons (dg_name 13 sc_law.nd) dgs_nil)))
      (dss_cons (ds_setLc 19 [("spot", 21)] rfl sc_law.nd (di_range1 (by rfl) T.b_range (da_cons (dv 15) da_nil)) (show BlkOk ["script", "pen", "turn", "rows", "text", "many", "none", "some", "late", "strict", "spots", "net", "sign", "letter", "told", "at", "seen", "best", "alike", "same", "two", "spot", "row", "number"] (defScope s_law) _ [("spot", 21)] from blkOk_by (by decide +kernel)) (by decide) (fun _ _ _ _ _ => (dg_name 21 sc_law.nd)) (fun _ _ _ _ _ => (dts_one (dt_cmp (do_eq hr.units) (d_ix (dv 4) (dv 21)) (dv 13)))) (fun _ _ _ _ _ => (d_op do_add (dv 21) d_int)) (sw_true rfl rfl rfl (by decide +kernel)))
      (dss_one (ds_app 10 (d_if (dt_cmp (do_ne hr.units) (dv 19) (dn_e (dn_lst da_nil))) (d_ix (dv 19) (d_neg d_int)) (dv 15))))))
      (dss_one (ds_if (dt_cmp (do_ne hr.units) (d_call (ok_places_behind T) (hr.mono (by decide)) (by rfl) T.m_places_behind T.F_places_behind.kp T.B_places_behind .nil (fun _ => .nil) pass0 (da_cons (dv 11) (da_cons (dv 4) da_nil))) (d_tup (da_cons (d_callT dc_tuple (by rfl) T.b_tuple (by decide +kernel) (da_cons (dn_e (dn_lc [("spot", 21)] rfl sc_law.nd (di_seq (dvz 10)) (show BlkOk ["script", "pen", "turn", "rows", "text", "many", "none", "some", "late", "strict", "spots", "net", "sign", "letter", "told", "at", "seen", "best", "alike", "same", "two", "spot", "row", "number"] (defScope s_law) _ [("spot", 21)] from blkOk_by (by decide +kernel)) (by decide) (fun _ _ _ _ _ => (dg_name 21 sc_law.nd)) (fun _ _ _ _ _ => dts_nil) (fun _ _ _ _ _ => (d_tup (da_cons (dv 21) da_nil))))) da_nil)) da_nil))) (dss_one (ds_ret d_bl)) dss_nil)))))))))))))))))))
      (dss_cons (ds_set 20 sc_law.nd (d_make T.k_Layer (ok_Layer_init T) (hr.mono (by decide)) (by rfl) T.m_Layer T.B_Layer_init .nil (fun _ => .nil) pass0 (da_cons (dn_e (dn_lst (da_cons (d_make T.k_Head (ok_Head_init T) (hr.mono (by decide)) (by rfl) T.m_Head T.B_Head_init .nil (fun _ => .nil) pass0 (da_cons (dn_e (dn_lst (da_cons (dn_e (dn_lst (da_cons d_int da_nil))) da_nil))) (da_cons (dn_e (dn_lst (da_cons d_int da_nil))) (da_cons d_bl (da_cons d_bl da_nil))))) (da_cons (d_make T.k_Head (ok_Head_init T) (hr.mono (by decide)) (by rfl) T.m_Head T.B_Head_init .nil (fun _ => .nil) pass0 (da_cons (dn_e (dn_lst (da_cons (dn_e (dn_lst (da_cons d_int da_nil))) da_nil))) (da_cons (dn_e (dn_lst (da_cons d_int da_nil))) (da_cons d_bl (da_cons d_bl da_nil))))) da_nil)))) (da_cons (dn_e (dn_lst (da_cons (dn_e (dn_lst (da_cons d_int (da_cons d_int (da_cons d_int da_nil))))) da_nil))) (da_cons (dn_e (dn_lst (da_cons d_int da_nil))) (da_cons d_int da_nil))))))
      (dss_one (ds_ret (d_cmp (do_eq hr.units) (d_ix (d_call (ok_levels_behind T) (hr.mono (by decide)) (by rfl) T.m_levels_behind T.F_levels_behind.kp T.B_levels_behind .nil (fun _ => .nil) pass0 (da_cons (d_make T.k_Net (ok_Net_init T) (hr.mono (by decide)) (by rfl) T.m_Net T.B_Net_init .nil (fun _ => .nil) pass0 (da_cons (dn_e (dn_lst (da_cons (dn_e (dn_lst (da_cons d_int da_nil))) (da_cons (dn_e (dn_lst (da_cons d_int da_nil))) (da_cons (dn_e (dn_lst (da_cons d_int da_nil))) da_nil))))) (da_cons (dn_e (dn_lst (da_cons (dv 20) da_nil))) (da_cons (dn_e (dn_lst (da_cons (dn_e (dn_lst (da_cons d_int da_nil))) (da_cons (dn_e (dn_lst (da_cons d_int da_nil))) da_nil)))) da_nil)))) (da_cons (dn_e (dn_lst (da_cons d_int (da_cons d_int (da_cons d_int da_nil))))) da_nil))) d_int) (d_tup (da_cons (d_tup (da_cons d_int da_nil)) (da_cons (d_tup (da_cons d_int da_nil)) (da_cons (d_tup (da_cons d_int da_nil)) (da_cons (d_tup (da_cons d_int da_nil)) da_nil)))))))))), fun De p hrt => ?_⟩
  apply nd_for (fun i ρ => Ok (100 * i) p ρ)
  · walk_at "e"
  · exact ⟨0, _, Nat.le_refl _, rfl, rfl, rfl, rfl, rfl, rfl⟩
  · intro i d ρ he hI
    have hi5 : i < 5 := by have := (List.getElem?_eq_some_iff.mp he).1; simpa [intsD] using this
    obtain ⟨k, xs, hk, rfl, hx, m13, m21, m22, m23⟩ := hI
    obtain ⟨x2, x3, x4, x5, x6, x7, x8, x9, x10, x11, x12, x13, x14, x15, x16, x17, x18, x19, x20, x21, x22, x23, rfl⟩ := list22 hx
    simp only [nth] at m13 m21 m22 m23
    show wSeq _ _ _ [.un, .pen p k, .val d, x3, x4, x5, x6, x7, x8, x9, x10, x11, x12, x13, x14, x15, x16, x17, x18, x19, x20, x21, x22, x23]
    apply nd_st
    · apply ex_set (x := rowsL RW)
      apply ev_cast
      · walk_at "e"
        all_goals simp
      · rfl
    -- the text
    have text : ∀ (u : WS) (De' : DEnds), (∀ (t : List Nat) (k' : Nat), t.length ≤ 24 → (∀ x ∈ t, x < 3) → k' ≤ k + 25 → u De' [.un, .pen p k', .val d, .val (rowsL RW), .val (.lst (textD t)), x5, x6, x7, x8, x9, x10, x11, x12, x13, x14, x15, x16, x17, x18, x19, x20, x21, x22, x23]) →
        wSeq (wSet 4 (wFz (wLc (wRng1 (wCons (wCallP 1 2 wfDraw (wCons (wC (D.int 25)) wNil)) wNil)) (List.map (fun x => x.snd) [(("spot" : Str), 21)]) (gN 21) wYes (wCallP 1 2 wfDraw (wCons (wC (D.int 3)) wNil))))) u De' [.un, .pen p k, .val d, .val (rowsL RW), x4, x5, x6, x7, x8, x9, x10, x11, x12, x13, x14, x15, x16, x17, x18, x19, x20, x21, x22, x23] := by
      intro u De' hn
      apply nd_set
      unfold wFz wLc wRng1
      refine nd_draw (p := p) (k := k) (m := 25) rfl (ev_cons ev_C ev_nil) ⟨by decide, by decide, by omega⟩ fun j hj => ?_
      refine ⟨by omega, by omega, fun i acc ρ => ∃ t : List Nat, t.length = i ∧ (∀ x ∈ t, x < 3) ∧ acc = textD t ∧ ρ = [.un, .pen p (k + 1 + i), .val d, .val (rowsL RW), x4, x5, x6, x7, x8, x9, x10, x11, x12, x13, x14, x15, x16, x17, x18, x19, x20, .un, x22, x23], ⟨[], rfl, by simp, rfl, rfl⟩, ?_, ?_⟩
      · rintro i' d' acc ρ e ⟨t, rfl, ht, rfl, rfl⟩
        have hi' : t.length < 25 := by
          have := (List.getElem?_eq_some_iff.mp e).1
          rw [intsD_nat, List.length_map, List.length_range] at this
          omega
        refine eg_n.run _ ?_
        dsimp only [wYes]
        refine nd_draw (p := p) (k := k + 1 + t.length) (m := 3) rfl (ev_cons ev_C ev_nil) ⟨by decide, by decide, by omega⟩ fun y hy => ?_
        refine ⟨t ++ [y], by simp, fun x hx => ?_, by simp [textD], rfl⟩
        rw [List.mem_append, List.mem_singleton] at hx
        rcases hx with hx | rfl
        · exact ht x hx
        · exact hy
      · rintro acc ρ ⟨t, hl, ht, rfl, rfl⟩
        have hl' : t.length = j := by
          rw [hl, intsD_nat, List.length_map, List.length_range]
        have e := mrg_back (vs := [21]) (ρ := [.un, .pen p (k + 1), .val d, .val (rowsL RW), x4, x5, x6, x7, x8, x9, x10, x11, x12, x13, x14, x15, x16, x17, x18, x19, x20, x21, x22, x23]) (ρ' := [.un, .pen p (k + 1 + t.length), .val d, .val (rowsL RW), x4, x5, x6, x7, x8, x9, x10, x11, x12, x13, x14, x15, x16, x17, x18, x19, x20, x21, x22, x23]) rfl (fun v hv => by
          have : v = 21 := by simpa using hv
          subst this
          exact ⟨m21, rfl⟩)
        have e' : mrg 0 [21] [.un, .pen p (k + 1), .val d, .val (rowsL RW), x4, x5, x6, x7, x8, x9, x10, x11, x12, x13, x14, x15, x16, x17, x18, x19, x20, x21, x22, x23] [.un, .pen p (k + 1 + t.length), .val d, .val (rowsL RW), x4, x5, x6, x7, x8, x9, x10, x11, x12, x13, x14, x15, x16, x17, x18, x19, x20, .un, x22, x23] = [.un, .pen p (k + 1 + t.length), .val d, .val (rowsL RW), x4, x5, x6, x7, x8, x9, x10, x11, x12, x13, x14, x15, x16, x17, x18, x19, x20, x21, x22, x23] := e
        have := hn t (k + 1 + t.length) (by omega) ht (by omega)
        rw [← hl]
        show u De' ((mrg 0 [21] [.un, .pen p (k + 1), .val d, .val (rowsL RW), x4, x5, x6, x7, x8, x9, x10, x11, x12, x13, x14, x15, x16, x17, x18, x19, x20, x21, x22, x23] [.un, .pen p (k + 1 + t.length), .val d, .val (rowsL RW), x4, x5, x6, x7, x8, x9, x10, x11, x12, x13, x14, x15, x16, x17, x18, x19, x20, .un, x22, x23]).set 4 _)
        rw [e']
        exact this
    apply text
    intro t k' htl ht hk'
    clear text
    have hn : (baseRows RW t).length = t.length + 1 := base_len RW t
    generalize hN : t.length + 1 = n at hn
    have hn0 : 0 < n := by omega
    have hn1 : n ≤ 25 := by omega
    -- many, none
    apply nd_par (x := .int (n : Nat)) (ρ1 := [.un, .pen p k', .val d, .val (rowsL RW), .val (.lst (textD t)), x5, x6, x7, x8, x9, x10, x11, x12, x13, x14, x15, x16, x17, x18, x19, x20, x21, x22, x23])
    · apply ev_cast
      · walk_at "e"
      · rw [textD, List.length_map, ← hN]
        rfl
    apply nd_lst2
    refine nd_pick (p := p) (k := k') (sd := .lst [.int 0, .int 40, .int (-3), .int 200]) rfl ?_ ⟨rfl, by decide, by decide, by omega⟩ fun v hvm => ?_
    · walk_at "e" <;> simp
    have hv' : ∃ z : Int, v = .int z ∧ -999 ≤ z ∧ z ≤ 999 := by
      simp only [List.mem_cons, List.not_mem_nil, or_false] at hvm
      rcases hvm with rfl | rfl | rfl | rfl <;> exact ⟨_, rfl, by decide, by decide⟩
    obtain ⟨v, rfl, hv⟩ := hv'
    refine ⟨by simp, ?_⟩
    refine at_env [.un, .pen p (k' + 1), .val d, .val (rowsL RW), .val (.lst (textD t)), .val (.int (n : Nat)), .val (.lst [.int v, .int 0]), x7, x8, x9, x10, x11, x12, x13, x14, x15, x16, x17, x18, x19, x20, x21, x22, x23] ?_ rfl
    -- some
    apply nd_st
    · apply ex_set (x := .lst (late4 n))
      have c1 : ((n : Int) - 1) = ((n - 1 : Nat) : Int) := by omega
      have il : (intsD 0 ((n : Int) - 1)).length = n - 1 := by rw [c1, intsD_nat, List.length_map, List.length_range]
      apply ev_cast
      · walk_at "e"
        all_goals first | omega | (simp; done) | (simp; omega)
      · rw [c1, intsD_nat, intsD_nat, rep_one, rep_one]
        unfold late4 spA spB spC spD
        simp only [List.map_cons, List.map_map, List.map_replicate, List.singleton_append]
        rfl
    -- late, strict, spots
    apply nd_asg
    refine nd_pick (p := p) (k := k' + 1) (sd := .lst (late4 n)) rfl ?_ ⟨rfl, by show 0 < 4; decide, by show 4 < 1048576; decide, by omega⟩ fun y hy => ?_
    · walk_at "e"
    obtain ⟨late, strict, sp, rfl, hsp⟩ := late4_ok hn0 hy
    refine (eg_t rfl (egs_c eg_n (egs_c eg_n (egs_c eg_n egs_n)))).run _ ?_
    have hspk := hsp.lt
    rw [← hn] at hsp hspk
    refine at_env [.un, .pen p (k' + 1 + 1), .val d, .val (rowsL RW), .val (.lst (textD t)), .val (.int (n : Nat)), .val (.lst [.int v, .int 0]), .val (.lst (late4 n)), .val (.bl late), .val (.bl strict), .val (.lst (sp.map optN)), x11, x12, x13, x14, x15, x16, x17, x18, x19, x20, x21, x22, x23] ?_ rfl
    -- the first net
    apply nd_st
    · apply ex_set (x := encN A (oneN (hz v late strict) RW))
      apply ev__law_one (h := hz v late strict) (rows := RW)
      · walk_at "e" <;> simp
      · exact ⟨rows_of (S := [[0, 0], [0, 0]]), row_of [v, 0], hz_ok hv, rowsL_ok RW, RW_ok⟩
    refine at_env [.un, .pen p (k' + 1 + 1), .val d, .val (rowsL RW), .val (.lst (textD t)), .val (.int (n : Nat)), .val (.lst [.int v, .int 0]), .val (.lst (late4 n)), .val (.bl late), .val (.bl strict), .val (.lst (sp.map optN)), .val (encN A (oneN (hz v late strict) RW)), x12, x13, x14, x15, x16, x17, x18, x19, x20, x21, x22, x23] ?_ rfl
    apply nd_st
    · apply ex_if0
      · apply evT_cast
        · apply ev_orT
          · apply ev_askP (h := hz v late strict) (rows := RW) (t := t) (sp := sp)
            · apply ev_places_behind (N := oneN (hz v late strict) RW) (t := t)
              · walk_at "e"
              · exact ⟨rfl, oneN_ok (hz_ok hv) RW_ok, RW_text rfl htl ht⟩
            · apply ev_tupsp
              · exact ev_vz rfl
              · exact m21
              · simp
            · exact spots_hz ht hsp
          · intro _
            apply ev_askL (h := hz v late strict) (rows := RW) (t := t) (sp := sp)
            · apply ev_op
              · apply ev_levels_behind (N := oneN (hz v late strict) RW) (t := t)
                · walk_at "e"
                · exact ⟨rfl, oneN_ok (hz_ok hv) RW_ok, RW_text rfl htl ht⟩
              · exact ev_C
              · exact er_ix rfl rfl
            · apply ev__law_first_numbers (rows := RW) (t := t) (sp := sp) (N := [v, 0])
              · walk_at "e"
              · exact ⟨rfl, rfl, row_of [v, 0], RW_first htl ht hspk⟩
            · exact spots_hz ht hsp
            · simp [hz]
            · intro r hr
              obtain ⟨z, rfl⟩ := RW_base ht r hr
              rfl
        · rfl
      · exact ex_next
    -- sign
    apply nd_set
    refine nd_pick (p := p) (k := k' + 1 + 1) (sd := .lst [.int 1, .int (-1), .int 999]) rfl ?_ ⟨rfl, by decide, by decide, by omega⟩ fun y hym => ?_
    · walk_at "e" <;> simp
    have hs' : ∃ z : Int, y = .int z ∧ (z = 1 ∨ z = -1 ∨ z = 999) := by
      simp only [List.mem_cons, List.not_mem_nil, or_false] at hym
      rcases hym with rfl | rfl | rfl
      · exact ⟨_, rfl, .inl rfl⟩
      · exact ⟨_, rfl, .inr (.inl rfl)⟩
      · exact ⟨_, rfl, .inr (.inr rfl)⟩
    obtain ⟨sg, rfl, hsg⟩ := hs'
    have hsb : -999 ≤ sg ∧ sg ≤ 999 := by rcases hsg with rfl | rfl | rfl <;> decide
    refine at_env [.un, .pen p (k' + 1 + 1 + 1), .val d, .val (rowsL RW), .val (.lst (textD t)), .val (.int (n : Nat)), .val (.lst [.int v, .int 0]), .val (.lst (late4 n)), .val (.bl late), .val (.bl strict), .val (.lst (sp.map optN)), .val (encN A (oneN (hz v late strict) RW)), .val (.int sg), x13, x14, x15, x16, x17, x18, x19, x20, x21, x22, x23] ?_ rfl
    -- the second net
    apply nd_st
    · apply ex_set (x := encN A (oneN (hg sg v late strict) RW))
      apply ev__law_one (h := hg sg v late strict) (rows := RW)
      · walk_at "e" <;> simp
      · exact ⟨rows_of (S := [[0, 0], [sg, 0]]), row_of [v, 0], hg_ok hsb hv, rowsL_ok RW, RW_ok⟩
    refine at_env [.un, .pen p (k' + 1 + 1 + 1), .val d, .val (rowsL RW), .val (.lst (textD t)), .val (.int (n : Nat)), .val (.lst [.int v, .int 0]), .val (.lst (late4 n)), .val (.bl late), .val (.bl strict), .val (.lst (sp.map optN)), .val (encN A (oneN (hg sg v late strict) RW)), .val (.int sg), x13, x14, x15, x16, x17, x18, x19, x20, x21, x22, x23] ?_ rfl
    -- told, spots
    apply nd_st
    · apply ex_par (y := .val (.lst ((gOf sg (baseRows RW t)).map .int))) (z := .own [])
      apply eb_val
      · apply ev_cast
        · apply ev_fz
          apply ev_lc (baseRows RW t) rowL (fun r => .int (r.headD 0 * (if 0 < sg then 1 else -1)))
          · apply ei_seq
            · apply ev_fz
              apply ev_cat
              · apply ev_fz
                apply ev_lst
                · apply ev_cons
                  · apply ev_op
                    · walk_at "e"
                    · walk_at "e"
                    · exact er_ix rfl rfl
                  · exact ev_nil
                · simp
              · apply ev_fz
                apply ev_lc t (fun x => .int (x : Nat)) (fun x => rowL (RW[x + 1]?.getD []))
                · exact ei_seq (ev_v rfl) rfl
                · rfl
                · exact mrg_self fun v hv => by
                    obtain rfl := List.mem_singleton.mp hv
                    exact m13
                · intro x hx
                  refine ⟨_, eg_n, ?_, rfl⟩
                  apply ev_op
                  · walk_at "e"
                  · walk_at "e"
                  · have h3 : x + 1 < RW.length := by have := ht x hx; show x + 1 < 4; omega
                    refine er_ix rfl ?_
                    rw [show ((x : Int) + 1) = ((x + 1 : Nat) : Int) by omega, DL.atI_nat, List.getElem?_map, List.getElem?_eq_getElem h3]
                    rfl
              · simp
                omega
            · exact rfl
          · unfold baseRows
            rw [List.map_cons, List.map_map]
            rfl
          · exact mrg_self fun v hv => by
              obtain rfl := List.mem_singleton.mp hv
              exact m22
          · intro r hr
            obtain ⟨z, rfl⟩ := RW_base ht r hr
            refine ⟨_, eg_n, ?_, rfl⟩
            apply ev_op (x := .int z) (y := .int (if 0 < sg then 1 else -1))
            · apply ev_op (x := rowL [z, 1])
              · walk_at "e"
              · walk_at "e"
              · exact er_ix rfl rfl
            · by_cases hp : 0 < sg
              · rw [if_pos hp]
                apply ev_ifT (x := .int 1)
                · apply evT_cast
                  · walk_at "e"
                  · exact decide_eq_true hp
                · walk_at "e"
              · rw [if_neg hp]
                apply ev_ifF (x := .int (-1))
                · apply evT_cast
                  · walk_at "e"
                  · exact decide_eq_false hp
                · walk_at "e"
            · exact er_I (.inr ⟨by split <;> decide, by split <;> decide⟩)
        · unfold gOf
          rw [List.map_map]
          rfl
      · apply eb_own
        · walk_at "e" <;> simp
        · exact eb_nil
    refine at_env [.un, .pen p (k' + 1 + 1 + 1), .val d, .val (rowsL RW), .val (.lst (textD t)), .val (.int (n : Nat)), .val (.lst [.int v, .int 0]), .val (.lst (late4 n)), .val (.bl late), .val (.bl strict), .own [], .val (encN A (oneN (hg sg v late strict) RW)), .val (.int sg), x13, .val (.lst ((gOf sg (baseRows RW t)).map .int)), x15, x16, x17, x18, x19, x20, x21, x22, x23] ?_ rfl
    have hgl : (gOf sg (baseRows RW t)).length = n := by unfold gOf; rw [List.length_map, hn]
    have hspl : (spM late strict (gOf sg (baseRows RW t))).length = n := by unfold spM; rw [List.length_map, List.length_range, hgl]
    apply nd_for (fun i ρ => ∃ y15 y16 y17, ρ = [.un, .pen p (k' + 1 + 1 + 1), .val d, .val (rowsL RW), .val (.lst (textD t)), .val (.int (n : Nat)), .val (.lst [.int v, .int 0]), .val (.lst (late4 n)), .val (.bl late), .val (.bl strict), .own (((spM late strict (gOf sg (baseRows RW t))).take i).map optN), .val (encN A (oneN (hg sg v late strict) RW)), .val (.int sg), x13, .val (.lst ((gOf sg (baseRows RW t)).map .int)), y15, y16, y17, x18, x19, x20, x21, x22, x23])
    · walk_at "e" <;> omega
    · exact ⟨x15, x16, x17, rfl⟩
    · rw [intsD_nat]
      rintro i e ρ he ⟨y15, y16, y17, rfl⟩
      rw [List.getElem?_map, Option.map_eq_some_iff] at he
      obtain ⟨j, hq, rfl⟩ := he
      have hin : i < n := by have := (List.getElem?_eq_some_iff.mp hq).1; simpa using this
      rw [List.getElem?_range hin] at hq
      cases hq
      have esp : (spM late strict (gOf sg (baseRows RW t))).take (i + 1) = (spM late strict (gOf sg (baseRows RW t))).take i ++ [bestE late (seenOf (gOf sg (baseRows RW t)) strict i)] := by
        apply DL.take_snoc
        unfold spM
        rw [List.getElem?_map, hgl, List.getElem?_range hin]
        rfl
      rw [esp, List.map_append]
      have etl : ((spM late strict (gOf sg (baseRows RW t))).take i).length ≤ 25 := by rw [List.length_take, hspl]; omega
      generalize (spM late strict (gOf sg (baseRows RW t))).take i = sps at etl ⊢
      generalize gOf sg (baseRows RW t) = g at hgl ⊢
      refine eg_n.run _ ?_
      apply nd_st
      · apply ex_set (x := .lst ((seenOf g strict i).map .int))
        by_cases hst : strict = true
        · apply ev_ifT
          · apply evT_cast
            · walk_at "e"
            · exact hst
          · apply ev_cast
            · apply ev_fz
              apply ev_slL
              · walk_at "e"
              · walk_at "e"
              · walk_at "e"
            · rw [cutD_to _ _ (by rw [List.length_map]; omega), ← List.map_take]
              unfold seenOf
              rw [if_pos hst]
        · apply ev_ifF
          · apply evT_cast
            · walk_at "e"
            · exact Bool.eq_false_iff.mpr hst
          · apply ev_cast
            · apply ev_fz
              apply ev_slL
              · walk_at "e"
              · walk_at "e"
              · walk_at "e"
            · rw [show ((i : Int) + 1) = ((i + 1 : Nat) : Int) by omega, cutD_to _ _ (by rw [List.length_map]; omega), ← List.map_take]
              unfold seenOf
              rw [if_neg hst]
      generalize seenOf g strict i = S
      apply nd_st
      · apply ex_set (x := .lst ((bestL S).map fun k => .int (k : Nat)))
        apply ev_cast
        · apply ev_fz
          apply ev_lcF S.zipIdx (fun q => .tup [.int (q.2 : Nat), .int q.1]) (fun q => decide (q.1 = mx S)) (fun q => .int (q.2 : Nat))
          · apply ei_enum
            · walk_at "e"
            · exact rfl
          · exact enumD_map _ _
          · exact mrg_self fun v hv => by
              simp only [List.mem_cons, List.not_mem_nil, or_false, List.map_cons, List.map_nil] at hv
              rcases hv with rfl | rfl
              · exact m21
              · exact m23
          · intro q hq
            have hne : S ≠ [] := fun z => by rw [z] at hq; cases hq
            refine ⟨_, eg_t rfl (egs_c eg_n (egs_c eg_n egs_n)), ?_, ?_, rfl⟩
            · apply evT_cast
              · apply ev_tst
                apply ev_op (y := .int (mx S))
                · walk_at "e"
                · apply ev_cb
                  · walk_at "e"
                  · exact ec_max (ns := S) (intsOf_self S) (fun m h1 h2 => Int.le_antisymm ((mx_spec hne).2 m h1) (h2 _ (mx_spec hne).1)) (List.length_pos_iff.mpr hne)
                · exact er_eq rfl rfl
              · rfl
            · intro _
              walk_at "e"
        · unfold bestL
          rw [List.map_map]
          rfl
      apply EvX.run (ρ' := _)
      · apply ex_app (x := optN (bestE late S))
        · exact rfl
        · exact ev_bestapp rfl rfl
        · exact rfl
        · rw [List.length_map]
          omega
      · exact ⟨_, _, _, rfl⟩
    · rw [intsD_nat, List.length_map, List.length_range]
      rintro ρ ⟨y15, y16, y17, rfl⟩
      rw [List.take_of_length_le (Nat.le_of_eq hspl)]
      have hspk2 : ∀ k, some k ∈ spM late strict (gOf sg (baseRows RW t)) → k < (baseRows RW t).length := by
        have h := (spM_ok late strict (gOf sg (baseRows RW t))).lt
        rw [hgl] at h
        rw [hn]
        exact h
      apply nd_st
      · apply ex_if0
        · apply evT_cast
          · apply ev_orT
            · apply ev_askP (h := hg sg v late strict) (rows := RW) (t := t) (sp := spM late strict (gOf sg (baseRows RW t)))
              · apply ev_places_behind (N := oneN (hg sg v late strict) RW) (t := t)
                · walk_at "e"
                · exact ⟨rfl, oneN_ok (hg_ok hsb hv) RW_ok, RW_text rfl htl ht⟩
              · apply ev_tupsp
                · exact ev_vzO rfl
                · exact m21
                · simp
              · exact spots_hg ht hsg
            · intro _
              apply ev_askL (h := hg sg v late strict) (rows := RW) (t := t) (sp := spM late strict (gOf sg (baseRows RW t)))
              · apply ev_op
                · apply ev_levels_behind (N := oneN (hg sg v late strict) RW) (t := t)
                  · walk_at "e"
                  · exact ⟨rfl, oneN_ok (hg_ok hsb hv) RW_ok, RW_text rfl htl ht⟩
                · exact ev_C
                · exact er_ix rfl rfl
              · apply ev__law_first_numbers (rows := RW) (t := t) (sp := spM late strict (gOf sg (baseRows RW t))) (N := [v, 0])
                · walk_at "e"
                · exact ⟨rfl, rfl, row_of [v, 0], RW_first htl ht hspk2⟩
              · exact spots_hg ht hsg
              · simp [hg]
              · intro r hr
                obtain ⟨z, rfl⟩ := RW_base ht r hr
                rfl
          · rfl
        · exact ex_next
      refine at_env [.un, .pen p (k' + 1 + 1 + 1), .val d, .val (rowsL RW), .val (.lst (textD t)), .val (.int (n : Nat)), .val (.lst [.int v, .int 0]), .val (.lst (late4 n)), .val (.bl late), .val (.bl strict), .val (.lst ((spM late strict (gOf sg (baseRows RW t))).map optN)), .val (encN A (oneN (hg sg v late strict) RW)), .val (.int sg), x13, .val (.lst ((gOf sg (baseRows RW t)).map .int)), y15, y16, y17, x18, x19, x20, x21, x22, x23] ?_ rfl
      -- the third net
      apply nd_st
      · apply ex_set (x := rowsL alike)
        apply ev_cast
        · walk_at "e"
          all_goals simp
        · rfl
      apply nd_st
      · apply ex_set (x := encN A (oneN he3 alike))
        apply ev__law_one (h := he3) (rows := alike)
        · walk_at "e" <;> simp
        · exact ⟨rows_of (S := eye), row_of [0, 0, 0], he3_ok, rowsL_ok alike, alike_ok⟩
      apply nd_st
      · apply ex_setN (l := [.non])
        walk_at "e" <;> simp
      apply nd_for (fun i ρ => ∃ y13 z15 y19, mine y13 = false ∧ ρ = [.un, .pen p (k' + 1 + 1 + 1), .val d, .val (rowsL RW), .val (.lst (textD t)), .val (.int (n : Nat)), .val (.lst [.int v, .int 0]), .val (.lst (late4 n)), .val (.bl late), .val (.bl strict), .own ((none :: ((t.zipIdx.map (spot3 t)).take i)).map optN), .val (encN A (oneN he3 alike)), .val (.int sg), y13, .val (.lst ((gOf sg (baseRows RW t)).map .int)), z15, y16, y17, .val (rowsL alike), y19, x20, x21, x22, x23])
      · apply ei_enum
        · walk_at "e"
        · exact rfl
      · exact ⟨x13, y15, x19, m13, rfl⟩
      · rw [show enumD (textD t) = _ from enumD_map _ _]
        rintro i' e ρ he ⟨y13, z15, y19, my13, rfl⟩
        rw [List.getElem?_map, Option.map_eq_some_iff] at he
        obtain ⟨q, hq, rfl⟩ := he
        have hq2 : q.2 = i' := by
          rw [List.getElem?_zipIdx, Option.map_eq_some_iff] at hq
          obtain ⟨x, _, rfl⟩ := hq
          simp
        subst hq2
        have hqt := zipIdx_at (List.mem_of_getElem? hq)
        have hlt := (List.getElem?_eq_some_iff.mp hqt).1
        have esp : (t.zipIdx.map (spot3 t)).take (q.2 + 1) = (t.zipIdx.map (spot3 t)).take q.2 ++ [spot3 t q] := by
          apply DL.take_snoc
          rw [List.getElem?_map, hq]
          rfl
        have etl : ((t.zipIdx.map (spot3 t)).take q.2).length ≤ 25 := by rw [List.length_take, List.length_map, List.length_zipIdx]; omega
        rw [esp, ← List.cons_append, List.map_append]
        generalize (t.zipIdx.map (spot3 t)).take q.2 = sps at etl ⊢
        refine (eg_t rfl (egs_c eg_n (egs_c eg_n egs_n))).run _ ?_
        apply nd_st
        · apply ex_set (x := .lst ((sameL t q.2 q.1).map fun k => .int (k : Nat)))
          apply ev_cast
          · apply ev_fz
            apply ev_lcF (List.range q.2) (fun s => .int (s : Nat)) (fun s => decide (t[s]? = some q.1)) (fun s => .int ((s : Nat) + 1))
            · walk_at "e" <;> omega
            · exact intsD_nat _
            · exact mrg_self fun v hv => by
                obtain rfl := List.mem_singleton.mp hv
                exact m21
            · intro x hx
              have hx' : x < t.length := by have := List.mem_range.mp hx; omega
              refine ⟨_, eg_n, ?_, ?_, rfl⟩
              · apply evT_cast
                · apply ev_tst
                  apply ev_op (x := .int (t[x] : Nat))
                  · apply ev_op
                    · walk_at "e"
                    · walk_at "e"
                    · refine er_ix rfl ?_
                      rw [DL.atI_nat, textD, List.getElem?_map, List.getElem?_eq_getElem hx']
                      rfl
                  · walk_at "e"
                  · exact er_eq rfl rfl
                · rw [deq_int, List.getElem?_eq_getElem hx']
                  simp
                  omega
              · intro _
                walk_at "e"
          · unfold sameL
            rw [List.map_map]
            rfl
        apply EvX.run (ρ' := _)
        · apply ex_app (x := optN (spot3 t q))
          · exact rfl
          · exact ev_same rfl rfl
          · exact rfl
          · simp
            omega
        · exact ⟨_, _, _, rfl, rfl⟩
      · rw [show enumD (textD t) = _ from enumD_map _ _, List.length_map, List.length_zipIdx]
        rintro ρ ⟨y13, z15, y19, my13, rfl⟩
        rw [List.take_of_length_le (by rw [List.length_map, List.length_zipIdx]; exact Nat.le_refl _)]
        apply EvX.run (ρ' := _)
        · apply ex_if0
          · apply ev_askP (h := he3) (rows := alike) (t := t) (sp := sp3 t)
            · apply ev_places_behind (N := oneN he3 alike) (t := t)
              · walk_at "e"
              · exact ⟨rfl, oneN_ok he3_ok alike_ok, alike_text htl ht⟩
            · apply ev_tupsp
              · exact ev_vzO rfl
              · exact m21
              · simp
            · exact spots_he3 ht
          · exact ex_next
        · exact ⟨k' + 1 + 1 + 1, _, by omega, rfl, rfl, my13, m21, m22, m23⟩
  · intro ρ hI
    obtain ⟨k, xs, hk, rfl, hx, m13, m21, m22, m23⟩ := hI
    obtain ⟨x2, x3, x4, x5, x6, x7, x8, x9, x10, x11, x12, x13, x14, x15, x16, x17, x18, x19, x20, x21, x22, x23, rfl⟩ := list22 hx
    apply nd_st
    · apply ex_set (x := encL A twoL)
      apply ev_mkL (l := twoL)
      · apply ev_cons
        · apply ev_fz
          apply ev_lst
          · apply ev_cons
            · apply ev_mkH (h := twoH true)
              · walk_at "e" <;> simp
              · exact rows_of (S := [[0]])
              · exact row_of [0]
              · exact twoH_ok
            · apply ev_cons
              · apply ev_mkH (h := twoH false)
                · walk_at "e" <;> simp
                · exact rows_of (S := [[0]])
                · exact row_of [0]
                · exact twoH_ok
              · exact ev_nil
          · simp
        · walk_at "e" <;> simp
      · rfl
      · exact rows_of (S := [[0, 1, 2]])
      · exact row_of [0]
      · exact twoL_ok
    apply nd_ret (x := .bl true)
    · apply ev_cast
      · apply ev_op
        · apply ev_op
          · apply ev_levels_behind (N := twoN) (t := [0, 1, 1])
            · apply ev_cons
              · apply ev_mkN (N := twoN)
                · walk_at "e" <;> simp
                · exact rows_of (S := [[5], [1], [2]])
                · rfl
                · exact rows_of (S := [[0], [0]])
                · exact twoN_ok
              · walk_at "e" <;> simp
            · exact ⟨rfl, twoN_ok, by decide, by decide⟩
          · exact ev_C
          · exact er_ix (d := rowsT [[0], [15], [11], [12]]) rfl two_at
        · walk_at "e" <;> simp
        · exact er_eq two_shp two_shp
      · exact congrArg D.bl (deq_self (rowsT [[0], [15], [11], [12]]))
    · exact hrt _
end
end K28

set_option Elab.async false
set_option linter.all false
set_option maxRecDepth 100000
set_option maxHeartbeats 4000000
namespace K28
open PySem PySem.Spec PyProof.Rows L2 DL
section
variable {P : Program} {w : World} {K : PySem.W.Frag} {mg : Str → Option Value} {base : Heap} {A : AD}
/-! ### the pen is made -/
def spPen (K : PySem.W.Frag) : Sp := fun vs H Q _ => ∃ (a : Addr) (ns : List Int), vs = [.ref a] ∧ SqL K H a (ns.map V.int) ∧ ns.length ≤ 63 ∧
  ∀ (p c : Addr) (H' : Hp), H p = none → H c = none → c ≠ p → Same H H' → H' p = some (.lst [.ref c, .int 0, .int 0]) → H' c = some (.lst (ns.map V.int)) → Q (.ref p) H'
theorem ok__law_pen (T : Txt K mg A) : FnOk P w K mg base CX0 1 A.a__law_pen A.d__law_pen ["script"] (spPen K) := by
  refine T.F__law_pen.ok sc__law_pen (fun vs H Q E h => ?_) (fun cdv A_ outer s H vs Q E hr h => ?_)
  · obtain ⟨a, ns, rfl, _⟩ := h
    rfl
  · refine ⟨_, (show PSs (cxOf CX0 P w K mg base ["script", "cell"] "_law_pen" (defScope s__law_pen) A.a__law_pen cdv A_ outer s H E).nox (defBody s__law_pen) _ from
      (pss_one (ps_ret (pe_lst (pa_cons (pe_lc (own := [("cell", 1)]) (g := gName 1) (tt := tYes) rfl sc__law_pen.nd (pi_list (pe_slice sl_list (pe_var (i := 0) rfl (Or.inl rfl) (by decide) (by decide)) po_none (po_some pe_int)))
        (show BlkOk ["script", "cell"] (defScope s__law_pen) _ [("cell", 1)] from blkOk_by (by decide +kernel)) (fun _ _ _ _ _ => pg_name (i := 1) sc__law_pen.nd rfl (Or.inl rfl)) (fun _ _ _ _ _ => pts_nil)
        (fun _ _ _ _ _ => pe_callTy call_int1 (by rfl) T.b_int (by decide +kernel) (pa_cons (pe_var (i := 1) rfl (Or.inl rfl) (by decide) (by decide)) pa_nil) (by decide +kernel))) (pa_cons pe_int (pa_cons pe_int pa_nil))))))).nox, ?_⟩
    obtain ⟨a, ns, rfl, hs, hl, q⟩ := h
    have hcut : cutV (ns.map V.int) none (some 63) = ns.map V.int := by
      have e := HT.sIx_nat (ns.map V.int).length (ns.map V.int).length 63
      have hlen : (ns.map V.int).length ≤ 63 := by rw [List.length_map]; exact hl
      unfold cutV
      rw [HT.sIx_none, show ((some 63 : Option Int)) = some ((63 : Nat) : Int) from rfl, e, Nat.min_eq_right hlen, List.drop_zero, Nat.sub_zero, List.take_length]
    refine ⟨_, rfl, 63, rfl, a, ns.map V.int, rfl, hs, fun p1 f1 => ⟨p1, rfl, ⟨ns.map V.int, .inl (.inl (by rw [upd_same, hcut]))⟩, fun c fc => ?_⟩⟩
    have hcp : c ≠ p1 := fun z => by rw [z, upd_same] at fc; cases fc
    have fc0 : H c = none := by rw [upd_ne hcp] at fc; exact fc
    refine lc_list (a := p1) (xs := ns.map V.int) (fun i H' => H' c = some (.lst ((ns.take i).map V.int)) ∧ H' p1 = some (.lst (ns.map V.int)) ∧ Same H H') ⟨upd_same, by rw [upd_ne hcp.symm, upd_same, hcut], fun x o e => ?_⟩ (fun i H' _ h => .inl (.inl h.2.1)) (fun i x H' ex ⟨h1, h2, h3⟩ => ?_) (fun H' ⟨h1, h2, h3⟩ => ?_)
    · rw [upd_ne (ne_of_none e fc0), upd_ne (ne_of_none e f1)]
      exact e
    · rw [List.getElem?_map, Option.map_eq_some_iff] at ex
      obtain ⟨n, en, rfl⟩ := ex
      refine ⟨rfl, ?_⟩
      dsimp only [tYes]
      rw [if_pos rfl]
      refine ⟨_, rfl, .inl ⟨n, rfl, _, h1, ?_, ?_, ?_, ?_⟩⟩
      · rw [List.length_map, List.length_take]
        exact Nat.lt_of_le_of_lt (Nat.min_le_right _ _) (Nat.lt_of_le_of_lt hl (by decide))
      · rw [upd_same, DL.take_snoc en, List.map_append]
        rfl
      · rw [upd_ne hcp.symm]
        exact h2
      · exact fun x o e => by
          rw [upd_ne (ne_of_none e fc0)]
          exact h3 x o e
    · show 3 ≤ sizeLine ∧ ∀ p2 : Addr, H' p2 = none → Q (.ref p2) (upd H' p2 (.lst [.ref c, .int 0, .int 0]))
      refine ⟨by decide, fun p2 f2 => ?_⟩
      rw [List.length_map, List.take_length] at h1
      have f20 : H p2 = none := by
        cases hh : H p2 with
        | none => rfl
        | some o => rw [h3 _ _ hh] at f2; cases f2
      have hc2 : c ≠ p2 := ne_of_none h1 f2
      exact q p2 c _ f20 fc0 hc2 (fun x o e => by
        rw [upd_ne (ne_of_none (h3 x o e) f2)]
        exact h3 x o e) upd_same (by rw [upd_ne hc2]; exact h1)
/-! ### the law -/
def spLaw (K : PySem.W.Frag) : Sp := fun vs H Q _ => ∃ (a : Addr) (ns : List Int), vs = [.ref a] ∧ SqL K H a (ns.map V.int) ∧ ns.length ≤ 63 ∧ ∀ H', Q (.bl true) H'
theorem ok_law (T : Txt K mg A) : FnOk P w K mg base CX0 9 A.a_law A.d_law ["script"] (spLaw K) := by
  refine T.F_law.ok sc_law (fun vs H Q E h => ?_) (fun cdv A_ outer s H vs Q E hr h => ?_)
  · obtain ⟨a, ns, rfl, _⟩ := h
    rfl
  · obtain ⟨wb, h1, h2⟩ := law_rest (P := P) (w := w) (base := base) (outer := outer) (s := s) (H := H) (E := E) T hr
    refine ⟨_, (show PSs (cxOf CX0 P w K mg base ["script", "pen", "turn", "rows", "text", "many", "none", "some", "late", "strict", "spots", "net", "sign", "letter", "told", "at", "seen", "best", "alike", "same", "two", "spot", "row", "number"] "law" (defScope s_law) A.a_law cdv A_ outer s H E).nox (defBody s_law) _ from
      pss_cons (ps_set (i := 1) sc_law.nd rfl (by first | exact Or.inl rfl | exact Or.inr rfl) (pe_call (ok__law_pen T) (hr.mono (by decide)) rfl T.m__law_pen T.F__law_pen.kp T.B__law_pen .nil pass0 (pa_cons (pe_var (i := 0) rfl (Or.inl rfl) (by decide) (by decide)) pa_nil))) h1.run).nox, ?_⟩
    obtain ⟨a, ns, rfl, hs, hl, q⟩ := h
    refine ⟨_, rfl, a, ns, rfl, hs, hl, fun p c H1 fp fc hcp s1 hp hc => ?_⟩
    refine ⟨⟨H, fun _ => none, fun _ => False⟩, upd (fun _ => none) c (.lst (ns.map V.int)), [.un, .pen p 0, .un, .un, .un, .un, .un, .un, .un, .un, .un, .un, .un, .un, .un, .un, .un, .un, .un, .un, .un, .un, .un, .un], ⟨fun _ => False, fun _ d => d = .bl true, fun _ => False, fun _ => False⟩, ⟨⟨fun x o e => ?_, fun x o e => (by cases e), fun x o e => ?_, fun x o e _ => s1 x o e, fun x e => ?_⟩, rfl, fun i x y e1 e2 => ?_, fun i j x y q n e1 e2 m1 m2 t1 t2 => ?_⟩, h2 _ p fun _ => rfl, fun _ _ _ _ _ _ h => h.elim, fun v _ H' F' _ d _ _ a h => ?_, fun _ _ _ _ _ _ h => h.elim, fun _ _ _ _ _ _ h => h.elim⟩
    · by_cases z : x = c
      · subst z
        rw [upd_same] at e
        cases e
        exact hc
      · rw [upd_ne z] at e
        cases e
    · by_cases z : x = c
      · subst z
        exact .inr (.inl fc)
      · rw [upd_ne z] at e
        cases e
    · cases hh : H x with
      | none => exact hh
      | some o => rw [s1 x o hh] at e; cases e
    · match i, e1 with
      | 0, e1 => cases e1; trivial
      | 1, e1 =>
        cases e1
        cases e2
        exact ⟨rfl, .inl fp, c, ns, 0, 0, hp, upd_ne (fun z => hcp z.symm), upd_same, hl, Int.le_refl _, Int.le_refl _, Int.le_refl _⟩
      | i + 2, e1 =>
        have hx : x = .un := by
          have e3 : (List.replicate 22 B.un)[i]? = some x := e1
          exact List.eq_of_mem_replicate (List.mem_of_getElem? e3)
        subst hx
        trivial
    · have one : ∀ (l : Nat) (z : B), [B.un, .pen p 0, .un, .un, .un, .un, .un, .un, .un, .un, .un, .un, .un, .un, .un, .un, .un, .un, .un, .un, .un, .un, .un, .un][l]? = some z → mine z = true → l = 1 := fun l z e m => by
        match l, e with
        | 0, e => cases e; cases m
        | 1, e => rfl
        | l + 2, e =>
          have e3 : (List.replicate 22 B.un)[l]? = some z := e
          have := List.eq_of_mem_replicate (List.mem_of_getElem? e3)
          subst this
          cases m
      exact n ((one i x e1 m1).trans (one j y e2 m2).symm)
    · have h : d = .bl true := h
      subst h
      cases a
      exact q H'
end
end K28

set_option Elab.async false
set_option linter.all false
set_option maxRecDepth 100000
set_option maxHeartbeats 4000000
namespace K28
open PySem PySem.Spec PyProof.Rows L2 DL
theorem all_mk {l : PySem.W.OpenLaw} {w : World} {K : PySem.W.Frag} {h : Heap} {mg : Str → Option Value} {fa f0 f1 f2 f3 f4 f5 t5 f6 f7 f8 f9 f10 f11 f12 f13 f14 f15 f16 f17 f18 t18 f19 f20 f21 f22 f23 f24 f25 f26 f27 f28 f29 f30 c_Head c_Layer c_Net : Addr} (X : K.In h) (G : h.Ns mainGlobals mg) (hfa : mg "law" = some (.ref fa))
    {od0 an0 od1 an1 od2 an2 od3 an3 od4 an4 od5 an5 od6 an6 od7 an7 od8 an8 od9 an9 od10 an10 od11 an11 od12 an12 od13 an13 od14 an14 od15 an15 od16 an16 od17 an17 od18 an18 od19 an19 od20 an20 od21 an21 od22 an22 od23 an23 od24 an24 od25 an25 od26 an26 od27 an27 od28 an28 od29 an29 od30 an30 : Option Addr} {sl0 sl1 sl2 sl3 sl4 sl5 sl6 sl7 sl8 sl9 sl10 sl11 sl12 sl13 sl14 sl15 sl16 sl17 sl18 sl19 sl20 sl21 sl22 sl23 sl24 sl25 sl26 sl27 sl28 sl29 sl30 : Array (Option Value)} {oc0 kV0 dc0 pm0 cd0 ct0 oc1 kV1 dc1 pm1 cd1 ct1 oc2 kV2 dc2 pm2 cd2 ct2 oc3 kV3 dc3 pm3 cd3 ct3 oc4 kV4 dc4 pm4 cd4 ct4 oc5 kV5 dc5 pm5 cd5 ct5 oc6 kV6 dc6 pm6 cd6 ct6 oc7 kV7 dc7 pm7 cd7 ct7 oc8 kV8 dc8 pm8 cd8 ct8 oc9 kV9 dc9 pm9 cd9 ct9 oc10 kV10 dc10 pm10 cd10 ct10 oc11 kV11 dc11 pm11 cd11 ct11 oc12 kV12 dc12 pm12 cd12 ct12 oc13 kV13 dc13 pm13 cd13 ct13 oc14 kV14 dc14 pm14 cd14 ct14 oc15 kV15 dc15 pm15 cd15 ct15 oc16 kV16 dc16 pm16 cd16 ct16 oc17 kV17 dc17 pm17 cd17 ct17 oc18 kV18 dc18 pm18 cd18 ct18 oc19 kV19 dc19 pm19 cd19 ct19 oc20 kV20 dc20 pm20 cd20 ct20 oc21 kV21 dc21 pm21 cd21 ct21 oc22 kV22 dc22 pm22 cd22 ct22 oc23 kV23 dc23 pm23 cd23 ct23 oc24 kV24 dc24 pm24 cd24 ct24 oc25 kV25 dc25 pm25 cd25 ct25 oc26 kV26 dc26 pm26 cd26 ct26 oc27 kV27 dc27 pm27 cd27 ct27 oc28 kV28 dc28 pm28 cd28 ct28 oc29 kV29 dc29 pm29 cd29 ct29 oc30 kV30 dc30 pm30 cd30 ct30 : Value}
    {tk_MOST_LENGTH tk_MOST_NUMBER tk_MOST_HEADS tk_MOST_SHIFT tk_MOST_CAP tk_LEAST_LETTERS tk_MOST_LETTERS tk_MOST_LAYERS tk_MOST_TEXT tk_MOST_SHORT : Tok}
    {to5 : Value} {td5 : Option Addr} {tn5 : Nat} {ts5 : Array (Option Value)}
    {to18 : Value} {td18 : Option Addr} {tn18 : Nat} {ts18 : Array (Option Value)} {tz : Tok}
    (a0 : PySem.W.nsIn K mainGlobals "is_integer" = some (some (.ref f0)))
    (l0 : K.lookup f0 = some ⟨oc0, od0, .func (PySem.W.fnOf "is_integer" "is_integer" (defArgs s_is_integer) (defBody s_is_integer) (defScope s_is_integer) .none kV0 dc0 pm0 an0 cd0 ct0), sl0⟩)
    (h0 : PySem.W.codeIn K cd0 "is_integer" = true)
    (k0 : PySem.W.keepIn K (.ref f0) = true)
    (a1 : PySem.W.nsIn K mainGlobals "is_within" = some (some (.ref f1)))
    (l1 : K.lookup f1 = some ⟨oc1, od1, .func (PySem.W.fnOf "is_within" "is_within" (defArgs s_is_within) (defBody s_is_within) (defScope s_is_within) .none kV1 dc1 pm1 an1 cd1 ct1), sl1⟩)
    (h1 : PySem.W.codeIn K cd1 "is_within" = true)
    (k1 : PySem.W.keepIn K (.ref f1) = true)
    (a2 : PySem.W.nsIn K mainGlobals "is_listed" = some (some (.ref f2)))
    (l2 : K.lookup f2 = some ⟨oc2, od2, .func (PySem.W.fnOf "is_listed" "is_listed" (defArgs s_is_listed) (defBody s_is_listed) (defScope s_is_listed) .none kV2 dc2 pm2 an2 cd2 ct2), sl2⟩)
    (h2 : PySem.W.codeIn K cd2 "is_listed" = true)
    (k2 : PySem.W.keepIn K (.ref f2) = true)
    (a3 : PySem.W.nsIn K mainGlobals "is_row" = some (some (.ref f3)))
    (l3 : K.lookup f3 = some ⟨oc3, od3, .func (PySem.W.fnOf "is_row" "is_row" (defArgs s_is_row) (defBody s_is_row) (defScope s_is_row) .none kV3 dc3 pm3 an3 cd3 ct3), sl3⟩)
    (h3 : PySem.W.codeIn K cd3 "is_row" = true)
    (k3 : PySem.W.keepIn K (.ref f3) = true)
    (a4 : PySem.W.nsIn K mainGlobals "is_bounded" = some (some (.ref f4)))
    (l4 : K.lookup f4 = some ⟨oc4, od4, .func (PySem.W.fnOf "is_bounded" "is_bounded" (defArgs s_is_bounded) (defBody s_is_bounded) (defScope s_is_bounded) .none kV4 dc4 pm4 an4 cd4 ct4), sl4⟩)
    (h4 : PySem.W.codeIn K cd4 "is_bounded" = true)
    (k4 : PySem.W.keepIn K (.ref f4) = true)
    (a5 : PySem.W.findIn K (.ref c_Head) "__init__" = some (some (.ref f5)))
    (i5 : PySem.W.isFn K (.ref f5) = true)
    (l5 : K.lookup f5 = some ⟨oc5, od5, .func (PySem.W.fnOf "__init__" "Head.__init__" (defArgs s_Head_init) (defBody s_Head_init) (defScope s_Head_init) (.ref t5) kV5 dc5 pm5 an5 cd5 ct5), sl5⟩)
    (h5 : PySem.W.codeIn K cd5 "Head.__init__" = true)
    (k5 : PySem.W.keepIn K (.ref f5) = true)
    (t5l : K.lookup t5 = some ⟨to5, td5, .seq #[.bool true, .bool false] tn5, ts5⟩)
    (a6 : PySem.W.nsIn K mainGlobals "score_of" = some (some (.ref f6)))
    (l6 : K.lookup f6 = some ⟨oc6, od6, .func (PySem.W.fnOf "score_of" "score_of" (defArgs s_score_of) (defBody s_score_of) (defScope s_score_of) .none kV6 dc6 pm6 an6 cd6 ct6), sl6⟩)
    (h6 : PySem.W.codeIn K cd6 "score_of" = true)
    (k6 : PySem.W.keepIn K (.ref f6) = true)
    (a7 : PySem.W.nsIn K mainGlobals "best_of" = some (some (.ref f7)))
    (l7 : K.lookup f7 = some ⟨oc7, od7, .func (PySem.W.fnOf "best_of" "best_of" (defArgs s_best_of) (defBody s_best_of) (defScope s_best_of) .none kV7 dc7 pm7 an7 cd7 ct7), sl7⟩)
    (h7 : PySem.W.codeIn K cd7 "best_of" = true)
    (k7 : PySem.W.keepIn K (.ref f7) = true)
    (a8 : PySem.W.nsIn K mainGlobals "are_heads" = some (some (.ref f8)))
    (l8 : K.lookup f8 = some ⟨oc8, od8, .func (PySem.W.fnOf "are_heads" "are_heads" (defArgs s_are_heads) (defBody s_are_heads) (defScope s_are_heads) .none kV8 dc8 pm8 an8 cd8 ct8), sl8⟩)
    (h8 : PySem.W.codeIn K cd8 "are_heads" = true)
    (k8 : PySem.W.keepIn K (.ref f8) = true)
    (a9 : PySem.W.nsIn K mainGlobals "is_table" = some (some (.ref f9)))
    (l9 : K.lookup f9 = some ⟨oc9, od9, .func (PySem.W.fnOf "is_table" "is_table" (defArgs s_is_table) (defBody s_is_table) (defScope s_is_table) .none kV9 dc9 pm9 an9 cd9 ct9), sl9⟩)
    (h9 : PySem.W.codeIn K cd9 "is_table" = true)
    (k9 : PySem.W.keepIn K (.ref f9) = true)
    (a10 : PySem.W.findIn K (.ref c_Layer) "__init__" = some (some (.ref f10)))
    (i10 : PySem.W.isFn K (.ref f10) = true)
    (l10 : K.lookup f10 = some ⟨oc10, od10, .func (PySem.W.fnOf "__init__" "Layer.__init__" (defArgs s_Layer_init) (defBody s_Layer_init) (defScope s_Layer_init) .none kV10 dc10 pm10 an10 cd10 ct10), sl10⟩)
    (h10 : PySem.W.codeIn K cd10 "Layer.__init__" = true)
    (k10 : PySem.W.keepIn K (.ref f10) = true)
    (a11 : PySem.W.nsIn K mainGlobals "spots_taken" = some (some (.ref f11)))
    (l11 : K.lookup f11 = some ⟨oc11, od11, .func (PySem.W.fnOf "spots_taken" "spots_taken" (defArgs s_spots_taken) (defBody s_spots_taken) (defScope s_spots_taken) .none kV11 dc11 pm11 an11 cd11 ct11), sl11⟩)
    (h11 : PySem.W.codeIn K cd11 "spots_taken" = true)
    (k11 : PySem.W.keepIn K (.ref f11) = true)
    (a12 : PySem.W.nsIn K mainGlobals "row_made" = some (some (.ref f12)))
    (l12 : K.lookup f12 = some ⟨oc12, od12, .func (PySem.W.fnOf "row_made" "row_made" (defArgs s_row_made) (defBody s_row_made) (defScope s_row_made) .none kV12 dc12 pm12 an12 cd12 ct12), sl12⟩)
    (h12 : PySem.W.codeIn K cd12 "row_made" = true)
    (k12 : PySem.W.keepIn K (.ref f12) = true)
    (a13 : PySem.W.nsIn K mainGlobals "are_rows" = some (some (.ref f13)))
    (l13 : K.lookup f13 = some ⟨oc13, od13, .func (PySem.W.fnOf "are_rows" "are_rows" (defArgs s_are_rows) (defBody s_are_rows) (defScope s_are_rows) .none kV13 dc13 pm13 an13 cd13 ct13), sl13⟩)
    (h13 : PySem.W.codeIn K cd13 "are_rows" = true)
    (k13 : PySem.W.keepIn K (.ref f13) = true)
    (a14 : PySem.W.nsIn K mainGlobals "are_letter_rows" = some (some (.ref f14)))
    (l14 : K.lookup f14 = some ⟨oc14, od14, .func (PySem.W.fnOf "are_letter_rows" "are_letter_rows" (defArgs s_are_letter_rows) (defBody s_are_letter_rows) (defScope s_are_letter_rows) .none kV14 dc14 pm14 an14 cd14 ct14), sl14⟩)
    (h14 : PySem.W.codeIn K cd14 "are_letter_rows" = true)
    (k14 : PySem.W.keepIn K (.ref f14) = true)
    (a15 : PySem.W.nsIn K mainGlobals "are_layers" = some (some (.ref f15)))
    (l15 : K.lookup f15 = some ⟨oc15, od15, .func (PySem.W.fnOf "are_layers" "are_layers" (defArgs s_are_layers) (defBody s_are_layers) (defScope s_are_layers) .none kV15 dc15 pm15 an15 cd15 ct15), sl15⟩)
    (h15 : PySem.W.codeIn K cd15 "are_layers" = true)
    (k15 : PySem.W.keepIn K (.ref f15) = true)
    (a16 : PySem.W.findIn K (.ref c_Net) "__init__" = some (some (.ref f16)))
    (i16 : PySem.W.isFn K (.ref f16) = true)
    (l16 : K.lookup f16 = some ⟨oc16, od16, .func (PySem.W.fnOf "__init__" "Net.__init__" (defArgs s_Net_init) (defBody s_Net_init) (defScope s_Net_init) .none kV16 dc16 pm16 an16 cd16 ct16), sl16⟩)
    (h16 : PySem.W.codeIn K cd16 "Net.__init__" = true)
    (k16 : PySem.W.keepIn K (.ref f16) = true)
    (a17 : PySem.W.nsIn K mainGlobals "need_net" = some (some (.ref f17)))
    (l17 : K.lookup f17 = some ⟨oc17, od17, .func (PySem.W.fnOf "need_net" "need_net" (defArgs s_need_net) (defBody s_need_net) (defScope s_need_net) .none kV17 dc17 pm17 an17 cd17 ct17), sl17⟩)
    (h17 : PySem.W.codeIn K cd17 "need_net" = true)
    (k17 : PySem.W.keepIn K (.ref f17) = true)
    (a18 : PySem.W.nsIn K mainGlobals "need_text" = some (some (.ref f18)))
    (l18 : K.lookup f18 = some ⟨oc18, od18, .func (PySem.W.fnOf "need_text" "need_text" (defArgs s_need_text) (defBody s_need_text) (defScope s_need_text) (.ref t18) kV18 dc18 pm18 an18 cd18 ct18), sl18⟩)
    (h18 : PySem.W.codeIn K cd18 "need_text" = true)
    (k18 : PySem.W.keepIn K (.ref f18) = true)
    (t18l : K.lookup t18 = some ⟨to18, td18, .seq #[.int 1000 tz] tn18, ts18⟩)
    (a19 : PySem.W.nsIn K mainGlobals "rows_above" = some (some (.ref f19)))
    (l19 : K.lookup f19 = some ⟨oc19, od19, .func (PySem.W.fnOf "rows_above" "rows_above" (defArgs s_rows_above) (defBody s_rows_above) (defScope s_rows_above) .none kV19 dc19 pm19 an19 cd19 ct19), sl19⟩)
    (h19 : PySem.W.codeIn K cd19 "rows_above" = true)
    (k19 : PySem.W.keepIn K (.ref f19) = true)
    (a20 : PySem.W.nsIn K mainGlobals "levels_of" = some (some (.ref f20)))
    (l20 : K.lookup f20 = some ⟨oc20, od20, .func (PySem.W.fnOf "levels_of" "levels_of" (defArgs s_levels_of) (defBody s_levels_of) (defScope s_levels_of) .none kV20 dc20 pm20 an20 cd20 ct20), sl20⟩)
    (h20 : PySem.W.codeIn K cd20 "levels_of" = true)
    (k20 : PySem.W.keepIn K (.ref f20) = true)
    (a21 : PySem.W.nsIn K mainGlobals "places_of" = some (some (.ref f21)))
    (l21 : K.lookup f21 = some ⟨oc21, od21, .func (PySem.W.fnOf "places_of" "places_of" (defArgs s_places_of) (defBody s_places_of) (defScope s_places_of) .none kV21 dc21 pm21 an21 cd21 ct21), sl21⟩)
    (h21 : PySem.W.codeIn K cd21 "places_of" = true)
    (k21 : PySem.W.keepIn K (.ref f21) = true)
    (a22 : PySem.W.nsIn K mainGlobals "need_short" = some (some (.ref f22)))
    (l22 : K.lookup f22 = some ⟨oc22, od22, .func (PySem.W.fnOf "need_short" "need_short" (defArgs s_need_short) (defBody s_need_short) (defScope s_need_short) .none kV22 dc22 pm22 an22 cd22 ct22), sl22⟩)
    (h22 : PySem.W.codeIn K cd22 "need_short" = true)
    (k22 : PySem.W.keepIn K (.ref f22) = true)
    (a23 : PySem.W.nsIn K mainGlobals "levels_behind" = some (some (.ref f23)))
    (l23 : K.lookup f23 = some ⟨oc23, od23, .func (PySem.W.fnOf "levels_behind" "levels_behind" (defArgs s_levels_behind) (defBody s_levels_behind) (defScope s_levels_behind) .none kV23 dc23 pm23 an23 cd23 ct23), sl23⟩)
    (h23 : PySem.W.codeIn K cd23 "levels_behind" = true)
    (k23 : PySem.W.keepIn K (.ref f23) = true)
    (a24 : PySem.W.nsIn K mainGlobals "places_behind" = some (some (.ref f24)))
    (l24 : K.lookup f24 = some ⟨oc24, od24, .func (PySem.W.fnOf "places_behind" "places_behind" (defArgs s_places_behind) (defBody s_places_behind) (defScope s_places_behind) .none kV24 dc24 pm24 an24 cd24 ct24), sl24⟩)
    (h24 : PySem.W.codeIn K cd24 "places_behind" = true)
    (k24 : PySem.W.keepIn K (.ref f24) = true)
    (a25 : PySem.W.nsIn K mainGlobals "_law_pen" = some (some (.ref f25)))
    (l25 : K.lookup f25 = some ⟨oc25, od25, .func (PySem.W.fnOf "_law_pen" "_law_pen" (defArgs s__law_pen) (defBody s__law_pen) (defScope s__law_pen) .none kV25 dc25 pm25 an25 cd25 ct25), sl25⟩)
    (h25 : PySem.W.codeIn K cd25 "_law_pen" = true)
    (k25 : PySem.W.keepIn K (.ref f25) = true)
    (a26 : PySem.W.nsIn K mainGlobals "_law_draw" = some (some (.ref f26)))
    (l26 : K.lookup f26 = some ⟨oc26, od26, .func (PySem.W.fnOf "_law_draw" "_law_draw" (defArgs s__law_draw) (defBody s__law_draw) (defScope s__law_draw) .none kV26 dc26 pm26 an26 cd26 ct26), sl26⟩)
    (h26 : PySem.W.codeIn K cd26 "_law_draw" = true)
    (k26 : PySem.W.keepIn K (.ref f26) = true)
    (a27 : PySem.W.nsIn K mainGlobals "_law_pick" = some (some (.ref f27)))
    (l27 : K.lookup f27 = some ⟨oc27, od27, .func (PySem.W.fnOf "_law_pick" "_law_pick" (defArgs s__law_pick) (defBody s__law_pick) (defScope s__law_pick) .none kV27 dc27 pm27 an27 cd27 ct27), sl27⟩)
    (h27 : PySem.W.codeIn K cd27 "_law_pick" = true)
    (k27 : PySem.W.keepIn K (.ref f27) = true)
    (a28 : PySem.W.nsIn K mainGlobals "_law_one" = some (some (.ref f28)))
    (l28 : K.lookup f28 = some ⟨oc28, od28, .func (PySem.W.fnOf "_law_one" "_law_one" (defArgs s__law_one) (defBody s__law_one) (defScope s__law_one) .none kV28 dc28 pm28 an28 cd28 ct28), sl28⟩)
    (h28 : PySem.W.codeIn K cd28 "_law_one" = true)
    (k28 : PySem.W.keepIn K (.ref f28) = true)
    (a29 : PySem.W.nsIn K mainGlobals "_law_first_numbers" = some (some (.ref f29)))
    (l29 : K.lookup f29 = some ⟨oc29, od29, .func (PySem.W.fnOf "_law_first_numbers" "_law_first_numbers" (defArgs s__law_first_numbers) (defBody s__law_first_numbers) (defScope s__law_first_numbers) .none kV29 dc29 pm29 an29 cd29 ct29), sl29⟩)
    (h29 : PySem.W.codeIn K cd29 "_law_first_numbers" = true)
    (k29 : PySem.W.keepIn K (.ref f29) = true)
    (a30 : PySem.W.nsIn K mainGlobals "law" = some (some (.ref f30)))
    (l30 : K.lookup f30 = some ⟨oc30, od30, .func (PySem.W.fnOf "law" "law" (defArgs s_law) (defBody s_law) (defScope s_law) .none kV30 dc30 pm30 an30 cd30 ct30), sl30⟩)
    (h30 : PySem.W.codeIn K cd30 "law" = true)
    (k30 : PySem.W.keepIn K (.ref f30) = true)
    (cm_Head : PySem.W.nsIn K mainGlobals "Head" = some (some (.ref c_Head)))
    (pg_Head : PySem.W.plainGet K c_Head Str.empty = true)
    (hd_Head : PySem.W.hasDictIn K c_Head = true)
    (po_Head : PySem.W.plainOver K c_Head = true)
    (sa_Head : PySem.W.findIn K (.ref c_Head) "__setattr__" = some (some (.builtin "object.__setattr__")))
    (mk_Head : PySem.W.makesIn K c_Head = true)
    (kc_Head : PySem.W.keepIn K (.ref c_Head) = true)
    (qa_Head : PySem.W.findIn K (.ref c_Head) "__class__" = some (some (.builtin "object.__class__")))
    (qm_Head : PySem.W.mroIn K c_Head (.type "object") = some true)
    (n_Head_scores : PySem.W.findIn K (.ref c_Head) "scores" = some none)
    (n_Head_none : PySem.W.findIn K (.ref c_Head) "none" = some none)
    (n_Head_late : PySem.W.findIn K (.ref c_Head) "late" = some none)
    (n_Head_strict : PySem.W.findIn K (.ref c_Head) "strict" = some none)
    (n_Head_length : PySem.W.findIn K (.ref c_Head) "length" = some none)
    (cm_Layer : PySem.W.nsIn K mainGlobals "Layer" = some (some (.ref c_Layer)))
    (pg_Layer : PySem.W.plainGet K c_Layer Str.empty = true)
    (hd_Layer : PySem.W.hasDictIn K c_Layer = true)
    (po_Layer : PySem.W.plainOver K c_Layer = true)
    (sa_Layer : PySem.W.findIn K (.ref c_Layer) "__setattr__" = some (some (.builtin "object.__setattr__")))
    (mk_Layer : PySem.W.makesIn K c_Layer = true)
    (kc_Layer : PySem.W.keepIn K (.ref c_Layer) = true)
    (qa_Layer : PySem.W.findIn K (.ref c_Layer) "__class__" = some (some (.builtin "object.__class__")))
    (qm_Layer : PySem.W.mroIn K c_Layer (.type "object") = some true)
    (n_Layer_heads : PySem.W.findIn K (.ref c_Layer) "heads" = some none)
    (n_Layer_table : PySem.W.findIn K (.ref c_Layer) "table" = some none)
    (n_Layer_shift : PySem.W.findIn K (.ref c_Layer) "shift" = some none)
    (n_Layer_cap : PySem.W.findIn K (.ref c_Layer) "cap" = some none)
    (n_Layer_length : PySem.W.findIn K (.ref c_Layer) "length" = some none)
    (cm_Net : PySem.W.nsIn K mainGlobals "Net" = some (some (.ref c_Net)))
    (pg_Net : PySem.W.plainGet K c_Net Str.empty = true)
    (hd_Net : PySem.W.hasDictIn K c_Net = true)
    (po_Net : PySem.W.plainOver K c_Net = true)
    (sa_Net : PySem.W.findIn K (.ref c_Net) "__setattr__" = some (some (.builtin "object.__setattr__")))
    (mk_Net : PySem.W.makesIn K c_Net = true)
    (kc_Net : PySem.W.keepIn K (.ref c_Net) = true)
    (qa_Net : PySem.W.findIn K (.ref c_Net) "__class__" = some (some (.builtin "object.__class__")))
    (qm_Net : PySem.W.mroIn K c_Net (.type "object") = some true)
    (n_Net_rows : PySem.W.findIn K (.ref c_Net) "rows" = some none)
    (n_Net_layers : PySem.W.findIn K (.ref c_Net) "layers" = some none)
    (n_Net_worths : PySem.W.findIn K (.ref c_Net) "worths" = some none)
    (n_Net_letters : PySem.W.findIn K (.ref c_Net) "letters" = some none)
    (n_Net_lengths : PySem.W.findIn K (.ref c_Net) "lengths" = some none)
    (qn : PySem.W.specialIn K (.builtin "object.__class__") "__get__" = some (some (.builtin "getset_descriptor.__get__")))
    (qt : PySem.W.takesIn K (.builtin "object.__class__") = some true)
    (g_MOST_LENGTH : PySem.W.nsIn K mainGlobals "MOST_LENGTH" = some (some (.int 4 tk_MOST_LENGTH)))
    (g_MOST_NUMBER : PySem.W.nsIn K mainGlobals "MOST_NUMBER" = some (some (.int 999 tk_MOST_NUMBER)))
    (g_MOST_HEADS : PySem.W.nsIn K mainGlobals "MOST_HEADS" = some (some (.int 2 tk_MOST_HEADS)))
    (g_MOST_SHIFT : PySem.W.nsIn K mainGlobals "MOST_SHIFT" = some (some (.int 9999 tk_MOST_SHIFT)))
    (g_MOST_CAP : PySem.W.nsIn K mainGlobals "MOST_CAP" = some (some (.int 99 tk_MOST_CAP)))
    (g_LEAST_LETTERS : PySem.W.nsIn K mainGlobals "LEAST_LETTERS" = some (some (.int 2 tk_LEAST_LETTERS)))
    (g_MOST_LETTERS : PySem.W.nsIn K mainGlobals "MOST_LETTERS" = some (some (.int 4 tk_MOST_LETTERS)))
    (g_MOST_LAYERS : PySem.W.nsIn K mainGlobals "MOST_LAYERS" = some (some (.int 3 tk_MOST_LAYERS)))
    (g_MOST_TEXT : PySem.W.nsIn K mainGlobals "MOST_TEXT" = some (some (.int 1000 tk_MOST_TEXT)))
    (g_MOST_SHORT : PySem.W.nsIn K mainGlobals "MOST_SHORT" = some (some (.int 60 tk_MOST_SHORT)))
    (b_len : PySem.W.nsIn K mainGlobals "len" = some none)
    (b_sum : PySem.W.nsIn K mainGlobals "sum" = some none)
    (b_all : PySem.W.nsIn K mainGlobals "all" = some none)
    (b_abs : PySem.W.nsIn K mainGlobals "abs" = some none)
    (b_max : PySem.W.nsIn K mainGlobals "max" = some none)
    (b_min : PySem.W.nsIn K mainGlobals "min" = some none)
    (b_int : PySem.W.nsIn K mainGlobals "int" = some none)
    (b_bool : PySem.W.nsIn K mainGlobals "bool" = some none)
    (b_tuple : PySem.W.nsIn K mainGlobals "tuple" = some none)
    (b_list : PySem.W.nsIn K mainGlobals "list" = some none)
    (b_range : PySem.W.nsIn K mainGlobals "range" = some none)
    (b_zip : PySem.W.nsIn K mainGlobals "zip" = some none)
    (b_enumerate : PySem.W.nsIn K mainGlobals "enumerate" = some none)
    (b_isinstance : PySem.W.nsIn K mainGlobals "isinstance" = some none)
    : ∃ fd : FuncData, (∀ (s : Shared) (v : Value), BindsTo s fd ⟨[v], []⟩ [("script", v)]) ∧ ∀ base : Heap, K.In base → base.Ns mainGlobals mg → FnOk l.prog w K mg base CX0 9 fa fd ["script"] (spLaw K) := by
  have e := hfa.symm.trans (PySem.W.mg_of X G a30)
  cases e
  have F0 : FunD K "is_integer" "is_integer" (defArgs s_is_integer) (defBody s_is_integer) (defScope s_is_integer) [] [] f0 (PySem.W.fnOf "is_integer" "is_integer" (defArgs s_is_integer) (defBody s_is_integer) (defScope s_is_integer) .none kV0 dc0 pm0 an0 cd0 ct0) := ⟨⟨_, _, _, _, _, _, _, _, _, _, rfl, l0, h0, .inl ⟨rfl, rfl⟩, .inl rfl⟩, k0⟩
  have B0 : Binds K (PySem.W.fnOf "is_integer" "is_integer" (defArgs s_is_integer) (defBody s_is_integer) (defScope s_is_integer) .none kV0 dc0 pm0 an0 cd0 ct0) ["value"] [] := F0.bindsN (ps := ["value"]) fun _ _ _ _ _ _ us hl => match us, hl with | [_], _ => rfl
  have F1 : FunD K "is_within" "is_within" (defArgs s_is_within) (defBody s_is_within) (defScope s_is_within) [] [] f1 (PySem.W.fnOf "is_within" "is_within" (defArgs s_is_within) (defBody s_is_within) (defScope s_is_within) .none kV1 dc1 pm1 an1 cd1 ct1) := ⟨⟨_, _, _, _, _, _, _, _, _, _, rfl, l1, h1, .inl ⟨rfl, rfl⟩, .inl rfl⟩, k1⟩
  have B1 : Binds K (PySem.W.fnOf "is_within" "is_within" (defArgs s_is_within) (defBody s_is_within) (defScope s_is_within) .none kV1 dc1 pm1 an1 cd1 ct1) ["value", "least", "most"] [] := F1.bindsN (ps := ["value", "least", "most"]) fun _ _ _ _ _ _ us hl => match us, hl with | [_, _, _], _ => rfl
  have F2 : FunD K "is_listed" "is_listed" (defArgs s_is_listed) (defBody s_is_listed) (defScope s_is_listed) [] [] f2 (PySem.W.fnOf "is_listed" "is_listed" (defArgs s_is_listed) (defBody s_is_listed) (defScope s_is_listed) .none kV2 dc2 pm2 an2 cd2 ct2) := ⟨⟨_, _, _, _, _, _, _, _, _, _, rfl, l2, h2, .inl ⟨rfl, rfl⟩, .inl rfl⟩, k2⟩
  have B2 : Binds K (PySem.W.fnOf "is_listed" "is_listed" (defArgs s_is_listed) (defBody s_is_listed) (defScope s_is_listed) .none kV2 dc2 pm2 an2 cd2 ct2) ["value"] [] := F2.bindsN (ps := ["value"]) fun _ _ _ _ _ _ us hl => match us, hl with | [_], _ => rfl
  have F3 : FunD K "is_row" "is_row" (defArgs s_is_row) (defBody s_is_row) (defScope s_is_row) [] [] f3 (PySem.W.fnOf "is_row" "is_row" (defArgs s_is_row) (defBody s_is_row) (defScope s_is_row) .none kV3 dc3 pm3 an3 cd3 ct3) := ⟨⟨_, _, _, _, _, _, _, _, _, _, rfl, l3, h3, .inl ⟨rfl, rfl⟩, .inl rfl⟩, k3⟩
  have B3 : Binds K (PySem.W.fnOf "is_row" "is_row" (defArgs s_is_row) (defBody s_is_row) (defScope s_is_row) .none kV3 dc3 pm3 an3 cd3 ct3) ["value", "many"] [] := F3.bindsN (ps := ["value", "many"]) fun _ _ _ _ _ _ us hl => match us, hl with | [_, _], _ => rfl
  have F4 : FunD K "is_bounded" "is_bounded" (defArgs s_is_bounded) (defBody s_is_bounded) (defScope s_is_bounded) [] [] f4 (PySem.W.fnOf "is_bounded" "is_bounded" (defArgs s_is_bounded) (defBody s_is_bounded) (defScope s_is_bounded) .none kV4 dc4 pm4 an4 cd4 ct4) := ⟨⟨_, _, _, _, _, _, _, _, _, _, rfl, l4, h4, .inl ⟨rfl, rfl⟩, .inl rfl⟩, k4⟩
  have B4 : Binds K (PySem.W.fnOf "is_bounded" "is_bounded" (defArgs s_is_bounded) (defBody s_is_bounded) (defScope s_is_bounded) .none kV4 dc4 pm4 an4 cd4 ct4) ["value", "length", "most"] [] := F4.bindsN (ps := ["value", "length", "most"]) fun _ _ _ _ _ _ us hl => match us, hl with | [_, _, _], _ => rfl
  have F5 : FunD K "__init__" "Head.__init__" (defArgs s_Head_init) (defBody s_Head_init) (defScope s_Head_init) [.bl true, .bl false] [] f5 (PySem.W.fnOf "__init__" "Head.__init__" (defArgs s_Head_init) (defBody s_Head_init) (defScope s_Head_init) (.ref t5) kV5 dc5 pm5 an5 cd5 ct5) := ⟨⟨_, _, _, _, _, _, _, _, _, _, rfl, l5, h5, .inr ⟨by simp, t5, _, [.bool true, .bool false], _, rfl, t5l, rfl, .cons rfl (.cons rfl .nil)⟩, .inl rfl⟩, k5⟩
  have B5 : Binds K (PySem.W.fnOf "__init__" "Head.__init__" (defArgs s_Head_init) (defBody s_Head_init) (defScope s_Head_init) (.ref t5) kV5 dc5 pm5 an5 cd5 ct5) ["self", "scores", "none", "late", "strict"] [] := by
    obtain ⟨ds, v1, v2⟩ := F5.binds1 (ps := ["self", "scores", "none", "late", "strict"]) 5 2 (by simp) (by simp) (fun _ _ _ _ _ _ _ us its hl hl2 => match us, its, hl, hl2 with | [_, _, _, _, _], [_, _], _, _ => ⟨_, rfl, rfl⟩)
    cases v1
    exact v2
  have F6 : FunD K "score_of" "score_of" (defArgs s_score_of) (defBody s_score_of) (defScope s_score_of) [] [] f6 (PySem.W.fnOf "score_of" "score_of" (defArgs s_score_of) (defBody s_score_of) (defScope s_score_of) .none kV6 dc6 pm6 an6 cd6 ct6) := ⟨⟨_, _, _, _, _, _, _, _, _, _, rfl, l6, h6, .inl ⟨rfl, rfl⟩, .inl rfl⟩, k6⟩
  have B6 : Binds K (PySem.W.fnOf "score_of" "score_of" (defArgs s_score_of) (defBody s_score_of) (defScope s_score_of) .none kV6 dc6 pm6 an6 cd6 ct6) ["head", "row", "other"] [] := F6.bindsN (ps := ["head", "row", "other"]) fun _ _ _ _ _ _ us hl => match us, hl with | [_, _, _], _ => rfl
  have F7 : FunD K "best_of" "best_of" (defArgs s_best_of) (defBody s_best_of) (defScope s_best_of) [] [] f7 (PySem.W.fnOf "best_of" "best_of" (defArgs s_best_of) (defBody s_best_of) (defScope s_best_of) .none kV7 dc7 pm7 an7 cd7 ct7) := ⟨⟨_, _, _, _, _, _, _, _, _, _, rfl, l7, h7, .inl ⟨rfl, rfl⟩, .inl rfl⟩, k7⟩
  have B7 : Binds K (PySem.W.fnOf "best_of" "best_of" (defArgs s_best_of) (defBody s_best_of) (defScope s_best_of) .none kV7 dc7 pm7 an7 cd7 ct7) ["head", "row", "others"] [] := F7.bindsN (ps := ["head", "row", "others"]) fun _ _ _ _ _ _ us hl => match us, hl with | [_, _, _], _ => rfl
  have F8 : FunD K "are_heads" "are_heads" (defArgs s_are_heads) (defBody s_are_heads) (defScope s_are_heads) [] [] f8 (PySem.W.fnOf "are_heads" "are_heads" (defArgs s_are_heads) (defBody s_are_heads) (defScope s_are_heads) .none kV8 dc8 pm8 an8 cd8 ct8) := ⟨⟨_, _, _, _, _, _, _, _, _, _, rfl, l8, h8, .inl ⟨rfl, rfl⟩, .inl rfl⟩, k8⟩
  have B8 : Binds K (PySem.W.fnOf "are_heads" "are_heads" (defArgs s_are_heads) (defBody s_are_heads) (defScope s_are_heads) .none kV8 dc8 pm8 an8 cd8 ct8) ["value"] [] := F8.bindsN (ps := ["value"]) fun _ _ _ _ _ _ us hl => match us, hl with | [_], _ => rfl
  have F9 : FunD K "is_table" "is_table" (defArgs s_is_table) (defBody s_is_table) (defScope s_is_table) [] [] f9 (PySem.W.fnOf "is_table" "is_table" (defArgs s_is_table) (defBody s_is_table) (defScope s_is_table) .none kV9 dc9 pm9 an9 cd9 ct9) := ⟨⟨_, _, _, _, _, _, _, _, _, _, rfl, l9, h9, .inl ⟨rfl, rfl⟩, .inl rfl⟩, k9⟩
  have B9 : Binds K (PySem.W.fnOf "is_table" "is_table" (defArgs s_is_table) (defBody s_is_table) (defScope s_is_table) .none kV9 dc9 pm9 an9 cd9 ct9) ["value", "heads"] [] := F9.bindsN (ps := ["value", "heads"]) fun _ _ _ _ _ _ us hl => match us, hl with | [_, _], _ => rfl
  have F10 : FunD K "__init__" "Layer.__init__" (defArgs s_Layer_init) (defBody s_Layer_init) (defScope s_Layer_init) [] [] f10 (PySem.W.fnOf "__init__" "Layer.__init__" (defArgs s_Layer_init) (defBody s_Layer_init) (defScope s_Layer_init) .none kV10 dc10 pm10 an10 cd10 ct10) := ⟨⟨_, _, _, _, _, _, _, _, _, _, rfl, l10, h10, .inl ⟨rfl, rfl⟩, .inl rfl⟩, k10⟩
  have B10 : Binds K (PySem.W.fnOf "__init__" "Layer.__init__" (defArgs s_Layer_init) (defBody s_Layer_init) (defScope s_Layer_init) .none kV10 dc10 pm10 an10 cd10 ct10) ["self", "heads", "table", "shift", "cap"] [] := F10.bindsN (ps := ["self", "heads", "table", "shift", "cap"]) fun _ _ _ _ _ _ us hl => match us, hl with | [_, _, _, _, _], _ => rfl
  have F11 : FunD K "spots_taken" "spots_taken" (defArgs s_spots_taken) (defBody s_spots_taken) (defScope s_spots_taken) [] [] f11 (PySem.W.fnOf "spots_taken" "spots_taken" (defArgs s_spots_taken) (defBody s_spots_taken) (defScope s_spots_taken) .none kV11 dc11 pm11 an11 cd11 ct11) := ⟨⟨_, _, _, _, _, _, _, _, _, _, rfl, l11, h11, .inl ⟨rfl, rfl⟩, .inl rfl⟩, k11⟩
  have B11 : Binds K (PySem.W.fnOf "spots_taken" "spots_taken" (defArgs s_spots_taken) (defBody s_spots_taken) (defScope s_spots_taken) .none kV11 dc11 pm11 an11 cd11 ct11) ["layer", "rows", "row"] [] := F11.bindsN (ps := ["layer", "rows", "row"]) fun _ _ _ _ _ _ us hl => match us, hl with | [_, _, _], _ => rfl
  have F12 : FunD K "row_made" "row_made" (defArgs s_row_made) (defBody s_row_made) (defScope s_row_made) [] [] f12 (PySem.W.fnOf "row_made" "row_made" (defArgs s_row_made) (defBody s_row_made) (defScope s_row_made) .none kV12 dc12 pm12 an12 cd12 ct12) := ⟨⟨_, _, _, _, _, _, _, _, _, _, rfl, l12, h12, .inl ⟨rfl, rfl⟩, .inl rfl⟩, k12⟩
  have B12 : Binds K (PySem.W.fnOf "row_made" "row_made" (defArgs s_row_made) (defBody s_row_made) (defScope s_row_made) .none kV12 dc12 pm12 an12 cd12 ct12) ["layer", "rows", "row"] [] := F12.bindsN (ps := ["layer", "rows", "row"]) fun _ _ _ _ _ _ us hl => match us, hl with | [_, _, _], _ => rfl
  have F13 : FunD K "are_rows" "are_rows" (defArgs s_are_rows) (defBody s_are_rows) (defScope s_are_rows) [] [] f13 (PySem.W.fnOf "are_rows" "are_rows" (defArgs s_are_rows) (defBody s_are_rows) (defScope s_are_rows) .none kV13 dc13 pm13 an13 cd13 ct13) := ⟨⟨_, _, _, _, _, _, _, _, _, _, rfl, l13, h13, .inl ⟨rfl, rfl⟩, .inl rfl⟩, k13⟩
  have B13 : Binds K (PySem.W.fnOf "are_rows" "are_rows" (defArgs s_are_rows) (defBody s_are_rows) (defScope s_are_rows) .none kV13 dc13 pm13 an13 cd13 ct13) ["value", "many", "length"] [] := F13.bindsN (ps := ["value", "many", "length"]) fun _ _ _ _ _ _ us hl => match us, hl with | [_, _, _], _ => rfl
  have F14 : FunD K "are_letter_rows" "are_letter_rows" (defArgs s_are_letter_rows) (defBody s_are_letter_rows) (defScope s_are_letter_rows) [] [] f14 (PySem.W.fnOf "are_letter_rows" "are_letter_rows" (defArgs s_are_letter_rows) (defBody s_are_letter_rows) (defScope s_are_letter_rows) .none kV14 dc14 pm14 an14 cd14 ct14) := ⟨⟨_, _, _, _, _, _, _, _, _, _, rfl, l14, h14, .inl ⟨rfl, rfl⟩, .inl rfl⟩, k14⟩
  have B14 : Binds K (PySem.W.fnOf "are_letter_rows" "are_letter_rows" (defArgs s_are_letter_rows) (defBody s_are_letter_rows) (defScope s_are_letter_rows) .none kV14 dc14 pm14 an14 cd14 ct14) ["value"] [] := F14.bindsN (ps := ["value"]) fun _ _ _ _ _ _ us hl => match us, hl with | [_], _ => rfl
  have F15 : FunD K "are_layers" "are_layers" (defArgs s_are_layers) (defBody s_are_layers) (defScope s_are_layers) [] [] f15 (PySem.W.fnOf "are_layers" "are_layers" (defArgs s_are_layers) (defBody s_are_layers) (defScope s_are_layers) .none kV15 dc15 pm15 an15 cd15 ct15) := ⟨⟨_, _, _, _, _, _, _, _, _, _, rfl, l15, h15, .inl ⟨rfl, rfl⟩, .inl rfl⟩, k15⟩
  have B15 : Binds K (PySem.W.fnOf "are_layers" "are_layers" (defArgs s_are_layers) (defBody s_are_layers) (defScope s_are_layers) .none kV15 dc15 pm15 an15 cd15 ct15) ["value", "length"] [] := F15.bindsN (ps := ["value", "length"]) fun _ _ _ _ _ _ us hl => match us, hl with | [_, _], _ => rfl
  have F16 : FunD K "__init__" "Net.__init__" (defArgs s_Net_init) (defBody s_Net_init) (defScope s_Net_init) [] [] f16 (PySem.W.fnOf "__init__" "Net.__init__" (defArgs s_Net_init) (defBody s_Net_init) (defScope s_Net_init) .none kV16 dc16 pm16 an16 cd16 ct16) := ⟨⟨_, _, _, _, _, _, _, _, _, _, rfl, l16, h16, .inl ⟨rfl, rfl⟩, .inl rfl⟩, k16⟩
  have B16 : Binds K (PySem.W.fnOf "__init__" "Net.__init__" (defArgs s_Net_init) (defBody s_Net_init) (defScope s_Net_init) .none kV16 dc16 pm16 an16 cd16 ct16) ["self", "rows", "layers", "worths"] [] := F16.bindsN (ps := ["self", "rows", "layers", "worths"]) fun _ _ _ _ _ _ us hl => match us, hl with | [_, _, _, _], _ => rfl
  have F17 : FunD K "need_net" "need_net" (defArgs s_need_net) (defBody s_need_net) (defScope s_need_net) [] [] f17 (PySem.W.fnOf "need_net" "need_net" (defArgs s_need_net) (defBody s_need_net) (defScope s_need_net) .none kV17 dc17 pm17 an17 cd17 ct17) := ⟨⟨_, _, _, _, _, _, _, _, _, _, rfl, l17, h17, .inl ⟨rfl, rfl⟩, .inl rfl⟩, k17⟩
  have B17 : Binds K (PySem.W.fnOf "need_net" "need_net" (defArgs s_need_net) (defBody s_need_net) (defScope s_need_net) .none kV17 dc17 pm17 an17 cd17 ct17) ["value"] [] := F17.bindsN (ps := ["value"]) fun _ _ _ _ _ _ us hl => match us, hl with | [_], _ => rfl
  have F18 : FunD K "need_text" "need_text" (defArgs s_need_text) (defBody s_need_text) (defScope s_need_text) [.int 1000] [] f18 (PySem.W.fnOf "need_text" "need_text" (defArgs s_need_text) (defBody s_need_text) (defScope s_need_text) (.ref t18) kV18 dc18 pm18 an18 cd18 ct18) := ⟨⟨_, _, _, _, _, _, _, _, _, _, rfl, l18, h18, .inr ⟨by simp, t18, _, [.int 1000 tz], _, rfl, t18l, rfl, .cons ⟨_, rfl⟩ .nil⟩, .inl rfl⟩, k18⟩
  have B18 : Binds K (PySem.W.fnOf "need_text" "need_text" (defArgs s_need_text) (defBody s_need_text) (defScope s_need_text) (.ref t18) kV18 dc18 pm18 an18 cd18 ct18) ["net", "value", "most"] [] := by
    obtain ⟨ds, v1, v2⟩ := F18.binds1 (ps := ["net", "value", "most"]) 3 1 (by simp) (by simp) (fun _ _ _ _ _ _ _ us its hl hl2 => match us, its, hl, hl2 with | [_, _, _], [_], _, _ => ⟨_, rfl, rfl⟩)
    cases v1
    exact v2
  have F19 : FunD K "rows_above" "rows_above" (defArgs s_rows_above) (defBody s_rows_above) (defScope s_rows_above) [] [] f19 (PySem.W.fnOf "rows_above" "rows_above" (defArgs s_rows_above) (defBody s_rows_above) (defScope s_rows_above) .none kV19 dc19 pm19 an19 cd19 ct19) := ⟨⟨_, _, _, _, _, _, _, _, _, _, rfl, l19, h19, .inl ⟨rfl, rfl⟩, .inl rfl⟩, k19⟩
  have B19 : Binds K (PySem.W.fnOf "rows_above" "rows_above" (defArgs s_rows_above) (defBody s_rows_above) (defScope s_rows_above) .none kV19 dc19 pm19 an19 cd19 ct19) ["layer", "rows"] [] := F19.bindsN (ps := ["layer", "rows"]) fun _ _ _ _ _ _ us hl => match us, hl with | [_, _], _ => rfl
  have F20 : FunD K "levels_of" "levels_of" (defArgs s_levels_of) (defBody s_levels_of) (defScope s_levels_of) [] [] f20 (PySem.W.fnOf "levels_of" "levels_of" (defArgs s_levels_of) (defBody s_levels_of) (defScope s_levels_of) .none kV20 dc20 pm20 an20 cd20 ct20) := ⟨⟨_, _, _, _, _, _, _, _, _, _, rfl, l20, h20, .inl ⟨rfl, rfl⟩, .inl rfl⟩, k20⟩
  have B20 : Binds K (PySem.W.fnOf "levels_of" "levels_of" (defArgs s_levels_of) (defBody s_levels_of) (defScope s_levels_of) .none kV20 dc20 pm20 an20 cd20 ct20) ["net", "text"] [] := F20.bindsN (ps := ["net", "text"]) fun _ _ _ _ _ _ us hl => match us, hl with | [_, _], _ => rfl
  have F21 : FunD K "places_of" "places_of" (defArgs s_places_of) (defBody s_places_of) (defScope s_places_of) [] [] f21 (PySem.W.fnOf "places_of" "places_of" (defArgs s_places_of) (defBody s_places_of) (defScope s_places_of) .none kV21 dc21 pm21 an21 cd21 ct21) := ⟨⟨_, _, _, _, _, _, _, _, _, _, rfl, l21, h21, .inl ⟨rfl, rfl⟩, .inl rfl⟩, k21⟩
  have B21 : Binds K (PySem.W.fnOf "places_of" "places_of" (defArgs s_places_of) (defBody s_places_of) (defScope s_places_of) .none kV21 dc21 pm21 an21 cd21 ct21) ["net", "text"] [] := F21.bindsN (ps := ["net", "text"]) fun _ _ _ _ _ _ us hl => match us, hl with | [_, _], _ => rfl
  have F22 : FunD K "need_short" "need_short" (defArgs s_need_short) (defBody s_need_short) (defScope s_need_short) [] [] f22 (PySem.W.fnOf "need_short" "need_short" (defArgs s_need_short) (defBody s_need_short) (defScope s_need_short) .none kV22 dc22 pm22 an22 cd22 ct22) := ⟨⟨_, _, _, _, _, _, _, _, _, _, rfl, l22, h22, .inl ⟨rfl, rfl⟩, .inl rfl⟩, k22⟩
  have B22 : Binds K (PySem.W.fnOf "need_short" "need_short" (defArgs s_need_short) (defBody s_need_short) (defScope s_need_short) .none kV22 dc22 pm22 an22 cd22 ct22) ["net", "text"] [] := F22.bindsN (ps := ["net", "text"]) fun _ _ _ _ _ _ us hl => match us, hl with | [_, _], _ => rfl
  have F23 : FunD K "levels_behind" "levels_behind" (defArgs s_levels_behind) (defBody s_levels_behind) (defScope s_levels_behind) [] [] f23 (PySem.W.fnOf "levels_behind" "levels_behind" (defArgs s_levels_behind) (defBody s_levels_behind) (defScope s_levels_behind) .none kV23 dc23 pm23 an23 cd23 ct23) := ⟨⟨_, _, _, _, _, _, _, _, _, _, rfl, l23, h23, .inl ⟨rfl, rfl⟩, .inl rfl⟩, k23⟩
  have B23 : Binds K (PySem.W.fnOf "levels_behind" "levels_behind" (defArgs s_levels_behind) (defBody s_levels_behind) (defScope s_levels_behind) .none kV23 dc23 pm23 an23 cd23 ct23) ["net", "text"] [] := F23.bindsN (ps := ["net", "text"]) fun _ _ _ _ _ _ us hl => match us, hl with | [_, _], _ => rfl
  have F24 : FunD K "places_behind" "places_behind" (defArgs s_places_behind) (defBody s_places_behind) (defScope s_places_behind) [] [] f24 (PySem.W.fnOf "places_behind" "places_behind" (defArgs s_places_behind) (defBody s_places_behind) (defScope s_places_behind) .none kV24 dc24 pm24 an24 cd24 ct24) := ⟨⟨_, _, _, _, _, _, _, _, _, _, rfl, l24, h24, .inl ⟨rfl, rfl⟩, .inl rfl⟩, k24⟩
  have B24 : Binds K (PySem.W.fnOf "places_behind" "places_behind" (defArgs s_places_behind) (defBody s_places_behind) (defScope s_places_behind) .none kV24 dc24 pm24 an24 cd24 ct24) ["net", "text"] [] := F24.bindsN (ps := ["net", "text"]) fun _ _ _ _ _ _ us hl => match us, hl with | [_, _], _ => rfl
  have F25 : FunD K "_law_pen" "_law_pen" (defArgs s__law_pen) (defBody s__law_pen) (defScope s__law_pen) [] [] f25 (PySem.W.fnOf "_law_pen" "_law_pen" (defArgs s__law_pen) (defBody s__law_pen) (defScope s__law_pen) .none kV25 dc25 pm25 an25 cd25 ct25) := ⟨⟨_, _, _, _, _, _, _, _, _, _, rfl, l25, h25, .inl ⟨rfl, rfl⟩, .inl rfl⟩, k25⟩
  have B25 : Binds K (PySem.W.fnOf "_law_pen" "_law_pen" (defArgs s__law_pen) (defBody s__law_pen) (defScope s__law_pen) .none kV25 dc25 pm25 an25 cd25 ct25) ["script"] [] := F25.bindsN (ps := ["script"]) fun _ _ _ _ _ _ us hl => match us, hl with | [_], _ => rfl
  have F26 : FunD K "_law_draw" "_law_draw" (defArgs s__law_draw) (defBody s__law_draw) (defScope s__law_draw) [] [] f26 (PySem.W.fnOf "_law_draw" "_law_draw" (defArgs s__law_draw) (defBody s__law_draw) (defScope s__law_draw) .none kV26 dc26 pm26 an26 cd26 ct26) := ⟨⟨_, _, _, _, _, _, _, _, _, _, rfl, l26, h26, .inl ⟨rfl, rfl⟩, .inl rfl⟩, k26⟩
  have B26 : Binds K (PySem.W.fnOf "_law_draw" "_law_draw" (defArgs s__law_draw) (defBody s__law_draw) (defScope s__law_draw) .none kV26 dc26 pm26 an26 cd26 ct26) ["pen", "many"] [] := F26.bindsN (ps := ["pen", "many"]) fun _ _ _ _ _ _ us hl => match us, hl with | [_, _], _ => rfl
  have F27 : FunD K "_law_pick" "_law_pick" (defArgs s__law_pick) (defBody s__law_pick) (defScope s__law_pick) [] [] f27 (PySem.W.fnOf "_law_pick" "_law_pick" (defArgs s__law_pick) (defBody s__law_pick) (defScope s__law_pick) .none kV27 dc27 pm27 an27 cd27 ct27) := ⟨⟨_, _, _, _, _, _, _, _, _, _, rfl, l27, h27, .inl ⟨rfl, rfl⟩, .inl rfl⟩, k27⟩
  have B27 : Binds K (PySem.W.fnOf "_law_pick" "_law_pick" (defArgs s__law_pick) (defBody s__law_pick) (defScope s__law_pick) .none kV27 dc27 pm27 an27 cd27 ct27) ["pen", "some"] [] := F27.bindsN (ps := ["pen", "some"]) fun _ _ _ _ _ _ us hl => match us, hl with | [_, _], _ => rfl
  have F28 : FunD K "_law_one" "_law_one" (defArgs s__law_one) (defBody s__law_one) (defScope s__law_one) [] [] f28 (PySem.W.fnOf "_law_one" "_law_one" (defArgs s__law_one) (defBody s__law_one) (defScope s__law_one) .none kV28 dc28 pm28 an28 cd28 ct28) := ⟨⟨_, _, _, _, _, _, _, _, _, _, rfl, l28, h28, .inl ⟨rfl, rfl⟩, .inl rfl⟩, k28⟩
  have B28 : Binds K (PySem.W.fnOf "_law_one" "_law_one" (defArgs s__law_one) (defBody s__law_one) (defScope s__law_one) .none kV28 dc28 pm28 an28 cd28 ct28) ["scores", "none", "late", "strict", "rows"] [] := F28.bindsN (ps := ["scores", "none", "late", "strict", "rows"]) fun _ _ _ _ _ _ us hl => match us, hl with | [_, _, _, _, _], _ => rfl
  have F29 : FunD K "_law_first_numbers" "_law_first_numbers" (defArgs s__law_first_numbers) (defBody s__law_first_numbers) (defScope s__law_first_numbers) [] [] f29 (PySem.W.fnOf "_law_first_numbers" "_law_first_numbers" (defArgs s__law_first_numbers) (defBody s__law_first_numbers) (defScope s__law_first_numbers) .none kV29 dc29 pm29 an29 cd29 ct29) := ⟨⟨_, _, _, _, _, _, _, _, _, _, rfl, l29, h29, .inl ⟨rfl, rfl⟩, .inl rfl⟩, k29⟩
  have B29 : Binds K (PySem.W.fnOf "_law_first_numbers" "_law_first_numbers" (defArgs s__law_first_numbers) (defBody s__law_first_numbers) (defScope s__law_first_numbers) .none kV29 dc29 pm29 an29 cd29 ct29) ["rows", "text", "spots", "none"] [] := F29.bindsN (ps := ["rows", "text", "spots", "none"]) fun _ _ _ _ _ _ us hl => match us, hl with | [_, _, _, _], _ => rfl
  have F30 : FunD K "law" "law" (defArgs s_law) (defBody s_law) (defScope s_law) [] [] fa (PySem.W.fnOf "law" "law" (defArgs s_law) (defBody s_law) (defScope s_law) .none kV30 dc30 pm30 an30 cd30 ct30) := ⟨⟨_, _, _, _, _, _, _, _, _, _, rfl, l30, h30, .inl ⟨rfl, rfl⟩, .inl rfl⟩, k30⟩
  have B30 : Binds K (PySem.W.fnOf "law" "law" (defArgs s_law) (defBody s_law) (defScope s_law) .none kV30 dc30 pm30 an30 cd30 ct30) ["script"] [] := F30.bindsN (ps := ["script"]) fun _ _ _ _ _ _ us hl => match us, hl with | [_], _ => rfl
  have T : Txt K mg { a_is_integer := f0, d_is_integer := (PySem.W.fnOf "is_integer" "is_integer" (defArgs s_is_integer) (defBody s_is_integer) (defScope s_is_integer) .none kV0 dc0 pm0 an0 cd0 ct0), a_is_within := f1, d_is_within := (PySem.W.fnOf "is_within" "is_within" (defArgs s_is_within) (defBody s_is_within) (defScope s_is_within) .none kV1 dc1 pm1 an1 cd1 ct1), a_is_listed := f2, d_is_listed := (PySem.W.fnOf "is_listed" "is_listed" (defArgs s_is_listed) (defBody s_is_listed) (defScope s_is_listed) .none kV2 dc2 pm2 an2 cd2 ct2), a_is_row := f3, d_is_row := (PySem.W.fnOf "is_row" "is_row" (defArgs s_is_row) (defBody s_is_row) (defScope s_is_row) .none kV3 dc3 pm3 an3 cd3 ct3), a_is_bounded := f4, d_is_bounded := (PySem.W.fnOf "is_bounded" "is_bounded" (defArgs s_is_bounded) (defBody s_is_bounded) (defScope s_is_bounded) .none kV4 dc4 pm4 an4 cd4 ct4), a_Head_init := f5, d_Head_init := (PySem.W.fnOf "__init__" "Head.__init__" (defArgs s_Head_init) (defBody s_Head_init) (defScope s_Head_init) (.ref t5) kV5 dc5 pm5 an5 cd5 ct5), a_score_of := f6, d_score_of := (PySem.W.fnOf "score_of" "score_of" (defArgs s_score_of) (defBody s_score_of) (defScope s_score_of) .none kV6 dc6 pm6 an6 cd6 ct6), a_best_of := f7, d_best_of := (PySem.W.fnOf "best_of" "best_of" (defArgs s_best_of) (defBody s_best_of) (defScope s_best_of) .none kV7 dc7 pm7 an7 cd7 ct7), a_are_heads := f8, d_are_heads := (PySem.W.fnOf "are_heads" "are_heads" (defArgs s_are_heads) (defBody s_are_heads) (defScope s_are_heads) .none kV8 dc8 pm8 an8 cd8 ct8), a_is_table := f9, d_is_table := (PySem.W.fnOf "is_table" "is_table" (defArgs s_is_table) (defBody s_is_table) (defScope s_is_table) .none kV9 dc9 pm9 an9 cd9 ct9), a_Layer_init := f10, d_Layer_init := (PySem.W.fnOf "__init__" "Layer.__init__" (defArgs s_Layer_init) (defBody s_Layer_init) (defScope s_Layer_init) .none kV10 dc10 pm10 an10 cd10 ct10), a_spots_taken := f11, d_spots_taken := (PySem.W.fnOf "spots_taken" "spots_taken" (defArgs s_spots_taken) (defBody s_spots_taken) (defScope s_spots_taken) .none kV11 dc11 pm11 an11 cd11 ct11), a_row_made := f12, d_row_made := (PySem.W.fnOf "row_made" "row_made" (defArgs s_row_made) (defBody s_row_made) (defScope s_row_made) .none kV12 dc12 pm12 an12 cd12 ct12), a_are_rows := f13, d_are_rows := (PySem.W.fnOf "are_rows" "are_rows" (defArgs s_are_rows) (defBody s_are_rows) (defScope s_are_rows) .none kV13 dc13 pm13 an13 cd13 ct13), a_are_letter_rows := f14, d_are_letter_rows := (PySem.W.fnOf "are_letter_rows" "are_letter_rows" (defArgs s_are_letter_rows) (defBody s_are_letter_rows) (defScope s_are_letter_rows) .none kV14 dc14 pm14 an14 cd14 ct14), a_are_layers := f15, d_are_layers := (PySem.W.fnOf "are_layers" "are_layers" (defArgs s_are_layers) (defBody s_are_layers) (defScope s_are_layers) .none kV15 dc15 pm15 an15 cd15 ct15), a_Net_init := f16, d_Net_init := (PySem.W.fnOf "__init__" "Net.__init__" (defArgs s_Net_init) (defBody s_Net_init) (defScope s_Net_init) .none kV16 dc16 pm16 an16 cd16 ct16), a_need_net := f17, d_need_net := (PySem.W.fnOf "need_net" "need_net" (defArgs s_need_net) (defBody s_need_net) (defScope s_need_net) .none kV17 dc17 pm17 an17 cd17 ct17), a_need_text := f18, d_need_text := (PySem.W.fnOf "need_text" "need_text" (defArgs s_need_text) (defBody s_need_text) (defScope s_need_text) (.ref t18) kV18 dc18 pm18 an18 cd18 ct18), a_rows_above := f19, d_rows_above := (PySem.W.fnOf "rows_above" "rows_above" (defArgs s_rows_above) (defBody s_rows_above) (defScope s_rows_above) .none kV19 dc19 pm19 an19 cd19 ct19), a_levels_of := f20, d_levels_of := (PySem.W.fnOf "levels_of" "levels_of" (defArgs s_levels_of) (defBody s_levels_of) (defScope s_levels_of) .none kV20 dc20 pm20 an20 cd20 ct20), a_places_of := f21, d_places_of := (PySem.W.fnOf "places_of" "places_of" (defArgs s_places_of) (defBody s_places_of) (defScope s_places_of) .none kV21 dc21 pm21 an21 cd21 ct21), a_need_short := f22, d_need_short := (PySem.W.fnOf "need_short" "need_short" (defArgs s_need_short) (defBody s_need_short) (defScope s_need_short) .none kV22 dc22 pm22 an22 cd22 ct22), a_levels_behind := f23, d_levels_behind := (PySem.W.fnOf "levels_behind" "levels_behind" (defArgs s_levels_behind) (defBody s_levels_behind) (defScope s_levels_behind) .none kV23 dc23 pm23 an23 cd23 ct23), a_places_behind := f24, d_places_behind := (PySem.W.fnOf "places_behind" "places_behind" (defArgs s_places_behind) (defBody s_places_behind) (defScope s_places_behind) .none kV24 dc24 pm24 an24 cd24 ct24), a__law_pen := f25, d__law_pen := (PySem.W.fnOf "_law_pen" "_law_pen" (defArgs s__law_pen) (defBody s__law_pen) (defScope s__law_pen) .none kV25 dc25 pm25 an25 cd25 ct25), a__law_draw := f26, d__law_draw := (PySem.W.fnOf "_law_draw" "_law_draw" (defArgs s__law_draw) (defBody s__law_draw) (defScope s__law_draw) .none kV26 dc26 pm26 an26 cd26 ct26), a__law_pick := f27, d__law_pick := (PySem.W.fnOf "_law_pick" "_law_pick" (defArgs s__law_pick) (defBody s__law_pick) (defScope s__law_pick) .none kV27 dc27 pm27 an27 cd27 ct27), a__law_one := f28, d__law_one := (PySem.W.fnOf "_law_one" "_law_one" (defArgs s__law_one) (defBody s__law_one) (defScope s__law_one) .none kV28 dc28 pm28 an28 cd28 ct28), a__law_first_numbers := f29, d__law_first_numbers := (PySem.W.fnOf "_law_first_numbers" "_law_first_numbers" (defArgs s__law_first_numbers) (defBody s__law_first_numbers) (defScope s__law_first_numbers) .none kV29 dc29 pm29 an29 cd29 ct29), a_law := fa, d_law := (PySem.W.fnOf "law" "law" (defArgs s_law) (defBody s_law) (defScope s_law) .none kV30 dc30 pm30 an30 cd30 ct30), c_Head := c_Head, c_Layer := c_Layer, c_Net := c_Net } := { F_is_integer := F0, B_is_integer := B0, m_is_integer := PySem.W.mg_of X G a0, F_is_within := F1, B_is_within := B1, m_is_within := PySem.W.mg_of X G a1, F_is_listed := F2, B_is_listed := B2, m_is_listed := PySem.W.mg_of X G a2, F_is_row := F3, B_is_row := B3, m_is_row := PySem.W.mg_of X G a3, F_is_bounded := F4, B_is_bounded := B4, m_is_bounded := PySem.W.mg_of X G a4, F_Head_init := F5, B_Head_init := B5, F_score_of := F6, B_score_of := B6, m_score_of := PySem.W.mg_of X G a6, F_best_of := F7, B_best_of := B7, m_best_of := PySem.W.mg_of X G a7, F_are_heads := F8, B_are_heads := B8, m_are_heads := PySem.W.mg_of X G a8, F_is_table := F9, B_is_table := B9, m_is_table := PySem.W.mg_of X G a9, F_Layer_init := F10, B_Layer_init := B10, F_spots_taken := F11, B_spots_taken := B11, m_spots_taken := PySem.W.mg_of X G a11, F_row_made := F12, B_row_made := B12, m_row_made := PySem.W.mg_of X G a12, F_are_rows := F13, B_are_rows := B13, m_are_rows := PySem.W.mg_of X G a13, F_are_letter_rows := F14, B_are_letter_rows := B14, m_are_letter_rows := PySem.W.mg_of X G a14, F_are_layers := F15, B_are_layers := B15, m_are_layers := PySem.W.mg_of X G a15, F_Net_init := F16, B_Net_init := B16, F_need_net := F17, B_need_net := B17, m_need_net := PySem.W.mg_of X G a17, F_need_text := F18, B_need_text := B18, m_need_text := PySem.W.mg_of X G a18, F_rows_above := F19, B_rows_above := B19, m_rows_above := PySem.W.mg_of X G a19, F_levels_of := F20, B_levels_of := B20, m_levels_of := PySem.W.mg_of X G a20, F_places_of := F21, B_places_of := B21, m_places_of := PySem.W.mg_of X G a21, F_need_short := F22, B_need_short := B22, m_need_short := PySem.W.mg_of X G a22, F_levels_behind := F23, B_levels_behind := B23, m_levels_behind := PySem.W.mg_of X G a23, F_places_behind := F24, B_places_behind := B24, m_places_behind := PySem.W.mg_of X G a24, F__law_pen := F25, B__law_pen := B25, m__law_pen := PySem.W.mg_of X G a25, F__law_draw := F26, B__law_draw := B26, m__law_draw := PySem.W.mg_of X G a26, F__law_pick := F27, B__law_pick := B27, m__law_pick := PySem.W.mg_of X G a27, F__law_one := F28, B__law_one := B28, m__law_one := PySem.W.mg_of X G a28, F__law_first_numbers := F29, B__law_first_numbers := B29, m__law_first_numbers := PySem.W.mg_of X G a29, F_law := F30, B_law := B30, m_law := PySem.W.mg_of X G a30, m_Head := PySem.W.mg_of X G cm_Head, cl_Head := ⟨pg_Head, hd_Head, po_Head, sa_Head⟩, q_Head := ⟨⟨pg_Head, hd_Head, po_Head, sa_Head⟩, qa_Head, qn, qt, qm_Head⟩, k_Head := ⟨mk_Head, a5, i5, kc_Head⟩, n_Head_scores := n_Head_scores, n_Head_none := n_Head_none, n_Head_late := n_Head_late, n_Head_strict := n_Head_strict, n_Head_length := n_Head_length, m_Layer := PySem.W.mg_of X G cm_Layer, cl_Layer := ⟨pg_Layer, hd_Layer, po_Layer, sa_Layer⟩, q_Layer := ⟨⟨pg_Layer, hd_Layer, po_Layer, sa_Layer⟩, qa_Layer, qn, qt, qm_Layer⟩, k_Layer := ⟨mk_Layer, a10, i10, kc_Layer⟩, n_Layer_heads := n_Layer_heads, n_Layer_table := n_Layer_table, n_Layer_shift := n_Layer_shift, n_Layer_cap := n_Layer_cap, n_Layer_length := n_Layer_length, m_Net := PySem.W.mg_of X G cm_Net, cl_Net := ⟨pg_Net, hd_Net, po_Net, sa_Net⟩, q_Net := ⟨⟨pg_Net, hd_Net, po_Net, sa_Net⟩, qa_Net, qn, qt, qm_Net⟩, k_Net := ⟨mk_Net, a16, i16, kc_Net⟩, n_Net_rows := n_Net_rows, n_Net_layers := n_Net_layers, n_Net_worths := n_Net_worths, n_Net_letters := n_Net_letters, n_Net_lengths := n_Net_lengths, g_MOST_LENGTH := ⟨_, PySem.W.mg_of X G g_MOST_LENGTH⟩, g_MOST_NUMBER := ⟨_, PySem.W.mg_of X G g_MOST_NUMBER⟩, g_MOST_HEADS := ⟨_, PySem.W.mg_of X G g_MOST_HEADS⟩, g_MOST_SHIFT := ⟨_, PySem.W.mg_of X G g_MOST_SHIFT⟩, g_MOST_CAP := ⟨_, PySem.W.mg_of X G g_MOST_CAP⟩, g_LEAST_LETTERS := ⟨_, PySem.W.mg_of X G g_LEAST_LETTERS⟩, g_MOST_LETTERS := ⟨_, PySem.W.mg_of X G g_MOST_LETTERS⟩, g_MOST_LAYERS := ⟨_, PySem.W.mg_of X G g_MOST_LAYERS⟩, g_MOST_TEXT := ⟨_, PySem.W.mg_of X G g_MOST_TEXT⟩, g_MOST_SHORT := ⟨_, PySem.W.mg_of X G g_MOST_SHORT⟩, b_len := PySem.W.mg_none_of X G b_len, b_sum := PySem.W.mg_none_of X G b_sum, b_all := PySem.W.mg_none_of X G b_all, b_abs := PySem.W.mg_none_of X G b_abs, b_max := PySem.W.mg_none_of X G b_max, b_min := PySem.W.mg_none_of X G b_min, b_int := PySem.W.mg_none_of X G b_int, b_bool := PySem.W.mg_none_of X G b_bool, b_tuple := PySem.W.mg_none_of X G b_tuple, b_list := PySem.W.mg_none_of X G b_list, b_range := PySem.W.mg_none_of X G b_range, b_zip := PySem.W.mg_none_of X G b_zip, b_enumerate := PySem.W.mg_none_of X G b_enumerate, b_isinstance := PySem.W.mg_none_of X G b_isinstance }
  exact ⟨_, fun s v => .of_eq rfl, fun base _ _ => ok_law T⟩
end K28
open PySem PySem.W PyProof.Rows
set_option maxHeartbeats 0 in
theorem PySem.Challenge.cw_keepsenough_k28_known_heads_by_formula_holds : PySem.Challenge.rw_keepsenough_k28_known_heads_by_formula.Holds := by
  w_on; o_law; k_head; (case hw => w_witness2)
  k_fill
  refine L2.walk_of (l := PySem.Challenge.rw_keepsenough_k28_known_heads_by_formula) (n := 63) (k := 9) (x := "script") (CX := fun _ => L2.CX0) (sp := fun w => K28.spLaw _) rfl (by decide) rfl ⟨rfl, by decide, by decide⟩ (fun w h Y => PySem.W.kIn_of Y) ?F (fun _ _ a ns hl _ hS => ⟨a, ns, rfl, hS, hl, fun _ => rfl⟩) (fun _ _ _ _ _ h => h)
  case F =>
    intro w mg fa h KX G hmg
    refine' K28.all_mk KX G hmg ?a0 ?l0 ?h0 ?k0 ?a1 ?l1 ?h1 ?k1 ?a2 ?l2 ?h2 ?k2 ?a3 ?l3 ?h3 ?k3 ?a4 ?l4 ?h4 ?k4 ?a5 ?i5 ?l5 ?h5 ?k5 ?t5l ?a6 ?l6 ?h6 ?k6 ?a7 ?l7 ?h7 ?k7 ?a8 ?l8 ?h8 ?k8 ?a9 ?l9 ?h9 ?k9 ?a10 ?i10 ?l10 ?h10 ?k10 ?a11 ?l11 ?h11 ?k11 ?a12 ?l12 ?h12 ?k12 ?a13 ?l13 ?h13 ?k13 ?a14 ?l14 ?h14 ?k14 ?a15 ?l15 ?h15 ?k15 ?a16 ?i16 ?l16 ?h16 ?k16 ?a17 ?l17 ?h17 ?k17 ?a18 ?l18 ?h18 ?k18 ?t18l ?a19 ?l19 ?h19 ?k19 ?a20 ?l20 ?h20 ?k20 ?a21 ?l21 ?h21 ?k21 ?a22 ?l22 ?h22 ?k22 ?a23 ?l23 ?h23 ?k23 ?a24 ?l24 ?h24 ?k24 ?a25 ?l25 ?h25 ?k25 ?a26 ?l26 ?h26 ?k26 ?a27 ?l27 ?h27 ?k27 ?a28 ?l28 ?h28 ?k28 ?a29 ?l29 ?h29 ?k29 ?a30 ?l30 ?h30 ?k30 ?cm_Head ?pg_Head ?hd_Head ?po_Head ?sa_Head ?mk_Head ?kc_Head ?qa_Head ?qm_Head ?n_Head_scores ?n_Head_none ?n_Head_late ?n_Head_strict ?n_Head_length ?cm_Layer ?pg_Layer ?hd_Layer ?po_Layer ?sa_Layer ?mk_Layer ?kc_Layer ?qa_Layer ?qm_Layer ?n_Layer_heads ?n_Layer_table ?n_Layer_shift ?n_Layer_cap ?n_Layer_length ?cm_Net ?pg_Net ?hd_Net ?po_Net ?sa_Net ?mk_Net ?kc_Net ?qa_Net ?qm_Net ?n_Net_rows ?n_Net_layers ?n_Net_worths ?n_Net_letters ?n_Net_lengths ?qn ?qt ?g_MOST_LENGTH ?g_MOST_NUMBER ?g_MOST_HEADS ?g_MOST_SHIFT ?g_MOST_CAP ?g_LEAST_LETTERS ?g_MOST_LETTERS ?g_MOST_LAYERS ?g_MOST_TEXT ?g_MOST_SHORT ?b_len ?b_sum ?b_all ?b_abs ?b_max ?b_min ?b_int ?b_bool ?b_tuple ?b_list ?b_range ?b_zip ?b_enumerate ?b_isinstance
    (case cm_Head => k_is)
    (case cm_Layer => k_is)
    (case cm_Net => k_is)
    (case a0 => k_is)
    (case l0 => k_is)
    (case h0 => k_is)
    (case k0 => k_is)
    (case a1 => k_is)
    (case l1 => k_is)
    (case h1 => k_is)
    (case k1 => k_is)
    (case a2 => k_is)
    (case l2 => k_is)
    (case h2 => k_is)
    (case k2 => k_is)
    (case a3 => k_is)
    (case l3 => k_is)
    (case h3 => k_is)
    (case k3 => k_is)
    (case a4 => k_is)
    (case l4 => k_is)
    (case h4 => k_is)
    (case k4 => k_is)
    (case a5 => k_is)
    (case i5 => k_is)
    (case l5 => k_is)
    (case h5 => k_is)
    (case k5 => k_is)
    (case t5l => k_is)
    (case a6 => k_is)
    (case l6 => k_is)
    (case h6 => k_is)
    (case k6 => k_is)
    (case a7 => k_is)
    (case l7 => k_is)
    (case h7 => k_is)
    (case k7 => k_is)
    (case a8 => k_is)
    (case l8 => k_is)
    (case h8 => k_is)
    (case k8 => k_is)
    (case a9 => k_is)
    (case l9 => k_is)
    (case h9 => k_is)
    (case k9 => k_is)
    (case a10 => k_is)
    (case i10 => k_is)
    (case l10 => k_is)
    (case h10 => k_is)
    (case k10 => k_is)
    (case a11 => k_is)
    (case l11 => k_is)
    (case h11 => k_is)
    (case k11 => k_is)
    (case a12 => k_is)
    (case l12 => k_is)
    (case h12 => k_is)
    (case k12 => k_is)
    (case a13 => k_is)
    (case l13 => k_is)
    (case h13 => k_is)
    (case k13 => k_is)
    (case a14 => k_is)
    (case l14 => k_is)
    (case h14 => k_is)
    (case k14 => k_is)
    (case a15 => k_is)
    (case l15 => k_is)
    (case h15 => k_is)
    (case k15 => k_is)
    (case a16 => k_is)
    (case i16 => k_is)
    (case l16 => k_is)
    (case h16 => k_is)
    (case k16 => k_is)
    (case a17 => k_is)
    (case l17 => k_is)
    (case h17 => k_is)
    (case k17 => k_is)
    (case a18 => k_is)
    (case l18 => k_is)
    (case h18 => k_is)
    (case k18 => k_is)
    (case t18l => k_is)
    (case a19 => k_is)
    (case l19 => k_is)
    (case h19 => k_is)
    (case k19 => k_is)
    (case a20 => k_is)
    (case l20 => k_is)
    (case h20 => k_is)
    (case k20 => k_is)
    (case a21 => k_is)
    (case l21 => k_is)
    (case h21 => k_is)
    (case k21 => k_is)
    (case a22 => k_is)
    (case l22 => k_is)
    (case h22 => k_is)
    (case k22 => k_is)
    (case a23 => k_is)
    (case l23 => k_is)
    (case h23 => k_is)
    (case k23 => k_is)
    (case a24 => k_is)
    (case l24 => k_is)
    (case h24 => k_is)
    (case k24 => k_is)
    (case a25 => k_is)
    (case l25 => k_is)
    (case h25 => k_is)
    (case k25 => k_is)
    (case a26 => k_is)
    (case l26 => k_is)
    (case h26 => k_is)
    (case k26 => k_is)
    (case a27 => k_is)
    (case l27 => k_is)
    (case h27 => k_is)
    (case k27 => k_is)
    (case a28 => k_is)
    (case l28 => k_is)
    (case h28 => k_is)
    (case k28 => k_is)
    (case a29 => k_is)
    (case l29 => k_is)
    (case h29 => k_is)
    (case k29 => k_is)
    (case a30 => k_is)
    (case l30 => k_is)
    (case h30 => k_is)
    (case k30 => k_is)
    (case pg_Head => k_is)
    (case hd_Head => k_is)
    (case po_Head => k_is)
    (case sa_Head => k_is)
    (case mk_Head => k_is)
    (case kc_Head => k_is)
    (case qa_Head => k_is)
    (case qm_Head => k_is)
    (case n_Head_scores => k_is)
    (case n_Head_none => k_is)
    (case n_Head_late => k_is)
    (case n_Head_strict => k_is)
    (case n_Head_length => k_is)
    (case pg_Layer => k_is)
    (case hd_Layer => k_is)
    (case po_Layer => k_is)
    (case sa_Layer => k_is)
    (case mk_Layer => k_is)
    (case kc_Layer => k_is)
    (case qa_Layer => k_is)
    (case qm_Layer => k_is)
    (case n_Layer_heads => k_is)
    (case n_Layer_table => k_is)
    (case n_Layer_shift => k_is)
    (case n_Layer_cap => k_is)
    (case n_Layer_length => k_is)
    (case pg_Net => k_is)
    (case hd_Net => k_is)
    (case po_Net => k_is)
    (case sa_Net => k_is)
    (case mk_Net => k_is)
    (case kc_Net => k_is)
    (case qa_Net => k_is)
    (case qm_Net => k_is)
    (case n_Net_rows => k_is)
    (case n_Net_layers => k_is)
    (case n_Net_worths => k_is)
    (case n_Net_letters => k_is)
    (case n_Net_lengths => k_is)
    (case qn => k_is)
    (case qt => k_is)
    (case g_MOST_LENGTH => k_is)
    (case g_MOST_NUMBER => k_is)
    (case g_MOST_HEADS => k_is)
    (case g_MOST_SHIFT => k_is)
    (case g_MOST_CAP => k_is)
    (case g_LEAST_LETTERS => k_is)
    (case g_MOST_LETTERS => k_is)
    (case g_MOST_LAYERS => k_is)
    (case g_MOST_TEXT => k_is)
    (case g_MOST_SHORT => k_is)
    (case b_len => k_is)
    (case b_sum => k_is)
    (case b_all => k_is)
    (case b_abs => k_is)
    (case b_max => k_is)
    (case b_min => k_is)
    (case b_int => k_is)
    (case b_bool => k_is)
    (case b_tuple => k_is)
    (case b_list => k_is)
    (case b_range => k_is)
    (case b_zip => k_is)
    (case b_enumerate => k_is)
    (case b_isinstance => k_is)
