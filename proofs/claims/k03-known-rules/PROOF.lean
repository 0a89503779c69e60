import PyProof.Rows.All
import Wide.All
import OpenK.AllK
import Wide.FinOn
import HandS.ForMost
import HandS.Zip
import HandS.Star
import HandS.Walk
import HandS.IsInst
import KE.GoesZip
import KE.GoesEnum
import KE.GoesMore
import HandS.TupAny
import HandS.Style
import HandS.Conv
import HandS.SetFor
import HandS.Dict
import HandS.Defaults
import HandS.Deep
import HandS.MakeKw
import PySem.Challenge.RW_keepsenough_k03_drops_by_known_rules
set_option Elab.async false
set_option linter.all false
set_option maxRecDepth 100000
set_option maxHeartbeats 4000000
namespace J
open PySem PySem.Spec PyProof.Rows L2

/-! ### values that do not change; trees of which one place alone knows -/
inductive D where
  | non
  | bl (b : Bool)
  | int (i : Int)
  | str (x : Str)
  | tup (l : List D)
  | lst (l : List D)
  | dic (ks vs : List D)
  | obj (c : Nat) (l : List D)
  | scr (ns : List Int)
  deriving Inhabited
inductive T where
  | v (d : D)
  | lst (l : List T)
  | dic (ks : List D) (l : List T)
  | ins (c : Nat) (l : List T)
  deriving Inhabited
mutual
def toD : T → D
  | .v d => d
  | .lst l => .lst (toDs l)
  | .dic ks l => .dic ks (toDs l)
  | .ins c l => .obj c (toDs l)
def toDs : List T → List D
  | [] => []
  | t :: r => toD t :: toDs r
end
abbrev Env := List (Option T)

/-- what the relation leans on: the written part, where classes stand, how their fields are called -/
structure Gb where
  K : PySem.W.Frag
  ca : Nat → Addr
  cf : Nat → List Str
/-- .. and the slots that are not stored -/
structure Gx extends Gb where
  pr : List Nat
instance : Coe Gx Gb := ⟨Gx.toGb⟩
def kD : Key → D
  | .inl i => .int i
  | .inr x => .str x
inductive DicH : HO → List D → List V → Prop
  | dK (kvs : List (Key × V)) : DicH (.dK kvs) (kvs.map fun p => kD p.1) (kvs.map (·.2))
mutual
inductive At (G : Gb) (F : Hp) : D → V → Prop
  | non : At G F .non .non
  | bl (b : Bool) : At G F (.bl b) (.bl b)
  | int (i : Int) : At G F (.int i) (.int i)
  | str (x : Str) : At G F (.str x) (.str x)
  | tup {a : Addr} {vs : List V} {ds : List D} : SqT G.K F a vs → AtL G F ds vs → At G F (.tup ds) (.ref a)
  | lst {a : Addr} {vs : List V} {ds : List D} : F a = some (.lst vs) → AtL G F ds vs → At G F (.lst ds) (.ref a)
  | dic {a : Addr} {o : HO} {ks : List D} {vs : List V} {ds : List D} : F a = some o → DicH o ks vs → AtL G F ds vs → At G F (.dic ks ds) (.ref a)
  | obj {a dx C : Addr} {c : Nat} {fs : List (Str × V)} {ds : List D} : F a = some (.ins C dx fs) → C = G.ca c → fs.map (·.1) = (G.cf c).take ds.length → AtL G F ds (fs.map (·.2)) → At G F (.obj c ds) (.ref a)
  | scr {a : Addr} {ns : List Int} : SqL G.K F a (ns.map V.int) → At G F (.scr ns) (.ref a)
inductive AtL (G : Gb) (F : Hp) : List D → List V → Prop
  | nil : AtL G F [] []
  | cons {d : D} {ds : List D} {v : V} {vs : List V} : At G F d v → AtL G F ds vs → AtL G F (d :: ds) (v :: vs)
end
mutual
/-- a tree at v: frozen parts stand in F, its own nodes at fp alone -/
inductive AtT (G : Gb) (F H : Hp) : T → V → List Addr → Prop
  | v {d : D} {v : V} : At G F d v → AtT G F H (.v d) v []
  | lst {a : Addr} {vs : List V} {ts : List T} {fps : List Addr} : H a = some (.lst vs) → F a = none → AtTL G F H ts vs fps → AtT G F H (.lst ts) (.ref a) (a :: fps)
  | dic {a : Addr} {o : HO} {ks : List D} {vs : List V} {ts : List T} {fps : List Addr} : H a = some o → DicH o ks vs → F a = none → AtTL G F H ts vs fps → AtT G F H (.dic ks ts) (.ref a) (a :: fps)
  | ins {a dx C : Addr} {c : Nat} {fs : List (Str × V)} {ts : List T} {fps : List Addr} : H a = some (.ins C dx fs) → C = G.ca c → fs.map (·.1) = (G.cf c).take ts.length → F a = none → AtTL G F H ts (fs.map (·.2)) fps →
      AtT G F H (.ins c ts) (.ref a) (a :: fps)
inductive AtTL (G : Gb) (F H : Hp) : List T → List V → List Addr → Prop
  | nil : AtTL G F H [] [] []
  | cons {t : T} {ts : List T} {v : V} {vs : List V} {fp fps : List Addr} : AtT G F H t v fp → AtTL G F H ts vs fps → AtTL G F H (t :: ts) (v :: vs) (fp ++ fps)
end

theorem same_t {K : PySem.W.Frag} {H H' : Hp} {a : Addr} {xs : List V} (e : Same H H') (h : SqT K H a xs) : SqT K H' a xs := by
  rcases h with (h | ⟨o, h⟩) | h
  · exact .inl (.inl (e _ _ h))
  · exact .inl (.inr ⟨o, e _ _ h⟩)
  · exact .inr h
theorem same_l {K : PySem.W.Frag} {H H' : Hp} {a : Addr} {xs : List V} (e : Same H H') (h : SqL K H a xs) : SqL K H' a xs := by
  rcases h with (h | ⟨o, h⟩) | h
  · exact .inl (.inl (e _ _ h))
  · exact .inl (.inr ⟨o, e _ _ h⟩)
  · exact .inr h
theorem DicH.mut {o : HO} {ks : List D} {vs : List V} (h : DicH o ks vs) : Mut (some o) := by cases h; trivial

section
variable {G : Gb} {F F' H H' : Hp}
mutual
theorem At.mono (e : Same F F') : ∀ (d : D) (v : V), At G F d v → At G F' d v
  | .non, _, h => by cases h; exact .non
  | .bl b, _, h => by cases h; exact .bl b
  | .int i, _, h => by cases h; exact .int i
  | .str x, _, h => by cases h; exact .str x
  | .tup ds, _, h => by
    cases h with
    | tup hs ha => exact .tup (same_t e hs) (AtL.mono e ds _ ha)
  | .lst ds, _, h => by
    cases h with
    | lst hs ha => exact .lst (e _ _ hs) (AtL.mono e ds _ ha)
  | .dic ks ds, _, h => by
    cases h with
    | dic hs hd ha => exact .dic (e _ _ hs) hd (AtL.mono e ds _ ha)
  | .obj c ds, _, h => by
    cases h with
    | obj hs hc hn ha => exact .obj (e _ _ hs) hc hn (AtL.mono e ds _ ha)
  | .scr ns, _, h => by
    cases h with
    | scr hs => exact .scr (same_l e hs)
theorem AtL.mono (e : Same F F') : ∀ (ds : List D) (vs : List V), AtL G F ds vs → AtL G F' ds vs
  | [], _, h => by cases h; exact .nil
  | d :: ds, _, h => by
    cases h with
    | cons h1 h2 => exact .cons (At.mono e d _ h1) (AtL.mono e ds _ h2)
end
theorem At.up {d : D} {v : V} (h : At G F d v) (e : Same F F') : At G F' d v := At.mono e d v h
theorem AtL.up {ds : List D} {vs : List V} (h : AtL G F ds vs) (e : Same F F') : AtL G F' ds vs := AtL.mono e ds vs h
theorem AtL.length : ∀ {ds : List D} {vs : List V}, AtL G F ds vs → ds.length = vs.length
  | _, _, .nil => rfl
  | _, _, .cons _ h => by rw [List.length_cons, List.length_cons, h.length]
theorem AtL.get : ∀ {ds : List D} {vs : List V} {i : Nat} {d : D}, AtL G F ds vs → ds[i]? = some d → ∃ v, vs[i]? = some v ∧ At G F d v
  | _, _, _, _, .nil, e => by simp at e
  | _, _, 0, _, .cons r _, e => by simp at e; subst e; exact ⟨_, rfl, r⟩
  | _, _, i + 1, d, .cons _ t, e => by
    obtain ⟨u, h1, h2⟩ := AtL.get (i := i) (d := d) t (by simpa using e)
    exact ⟨u, by simpa using h1, h2⟩
theorem AtL.append : ∀ {ds es : List D} {vs us : List V}, AtL G F ds vs → AtL G F es us → AtL G F (ds ++ es) (vs ++ us)
  | _, _, _, _, .nil, s => s
  | _, _, _, _, .cons r t, s => .cons r (AtL.append t s)
theorem AtL.take : ∀ {ds : List D} {vs : List V} (n : Nat), AtL G F ds vs → AtL G F (ds.take n) (vs.take n)
  | _, _, 0, _ => .nil
  | _, _, _ + 1, .nil => .nil
  | _, _, n + 1, .cons r t => .cons r (AtL.take n t)
theorem AtL.drop : ∀ {ds : List D} {vs : List V} (n : Nat), AtL G F ds vs → AtL G F (ds.drop n) (vs.drop n)
  | _, _, 0, r => r
  | _, _, _ + 1, .nil => .nil
  | _, _, n + 1, .cons _ t => AtL.drop n t
theorem AtL.rev : ∀ {ds : List D} {vs : List V}, AtL G F ds vs → AtL G F ds.reverse vs.reverse
  | _, _, .nil => .nil
  | _, _, .cons r t => by
    rw [List.reverse_cons, List.reverse_cons]
    exact (AtL.rev t).append (.cons r .nil)
theorem AtL.rep {ds : List D} {vs : List V} (h : AtL G F ds vs) : ∀ k : Nat, AtL G F (List.replicate k ds).flatten (List.replicate k vs).flatten
  | 0 => .nil
  | k + 1 => by
    rw [List.replicate_succ, List.replicate_succ, List.flatten_cons, List.flatten_cons]
    exact h.append (AtL.rep h k)
theorem AtL.ints : ∀ (ns : List Int), AtL G F (ns.map D.int) (ns.map V.int)
  | [] => .nil
  | n :: r => .cons (.int n) (AtL.ints r)
theorem AtL.ints_inv : ∀ {ns : List Int} {vs : List V}, AtL G F (ns.map D.int) vs → vs = ns.map V.int
  | [], _, h => by cases h; rfl
  | n :: r, _, h => by
    cases h with
    | cons h1 h2 =>
      cases h1
      rw [AtL.ints_inv (ns := r) h2]
      rfl
theorem AtL.bls_inv : ∀ {ns : List Bool} {vs : List V}, AtL G F (ns.map D.bl) vs → vs = ns.map V.bl
  | [], _, h => by cases h; rfl
  | n :: r, _, h => by
    cases h with
    | cons h1 h2 =>
      cases h1
      rw [AtL.bls_inv (ns := r) h2]
      rfl
theorem AtL.strs_inv : ∀ {ns : List Str} {vs : List V}, AtL G F (ns.map D.str) vs → vs = ns.map V.str
  | [], _, h => by cases h; rfl
  | n :: r, _, h => by
    cases h with
    | cons h1 h2 =>
      cases h1
      rw [AtL.strs_inv (ns := r) h2]
      rfl
theorem AtL.one {d : D} {vs : List V} (h : AtL G F [d] vs) : ∃ v, vs = [v] ∧ At G F d v := by
  cases h with
  | cons a r => cases r; exact ⟨_, rfl, a⟩
theorem AtL.two {d e : D} {vs : List V} (h : AtL G F [d, e] vs) : ∃ v u, vs = [v, u] ∧ At G F d v ∧ At G F e u := by
  cases h with
  | cons a r =>
    obtain ⟨u, rfl, a2⟩ := r.one
    exact ⟨_, _, rfl, a, a2⟩

/-! ### trees -/
mutual
/-- what a tree leans on -/
theorem AtT.frame (sf : Same F F') : ∀ (t : T) (v : V) (fp : List Addr), AtT G F H t v fp → (∀ a ∈ fp, ∀ o, H a = some o → H' a = some o) → (∀ a ∈ fp, F' a = none) → AtT G F' H' t v fp
  | .v d, _, _, h, _, _ => by
    cases h with
    | v a => exact .v (a.up sf)
  | .lst ts, _, _, h, kh, kf => by
    cases h with
    | lst h1 h2 h3 => exact .lst (kh _ List.mem_cons_self _ h1) (kf _ List.mem_cons_self) (AtTL.frame sf ts _ _ h3 (fun a m => kh a (List.mem_cons_of_mem _ m)) fun a m => kf a (List.mem_cons_of_mem _ m))
  | .dic ks ts, _, _, h, kh, kf => by
    cases h with
    | dic h1 hd h2 h3 => exact .dic (kh _ List.mem_cons_self _ h1) hd (kf _ List.mem_cons_self) (AtTL.frame sf ts _ _ h3 (fun a m => kh a (List.mem_cons_of_mem _ m)) fun a m => kf a (List.mem_cons_of_mem _ m))
  | .ins c ts, _, _, h, kh, kf => by
    cases h with
    | ins h1 hc hn h2 h3 => exact .ins (kh _ List.mem_cons_self _ h1) hc hn (kf _ List.mem_cons_self) (AtTL.frame sf ts _ _ h3 (fun a m => kh a (List.mem_cons_of_mem _ m)) fun a m => kf a (List.mem_cons_of_mem _ m))
theorem AtTL.frame (sf : Same F F') : ∀ (ts : List T) (vs : List V) (fp : List Addr), AtTL G F H ts vs fp → (∀ a ∈ fp, ∀ o, H a = some o → H' a = some o) → (∀ a ∈ fp, F' a = none) → AtTL G F' H' ts vs fp
  | [], _, _, h, _, _ => by cases h; exact .nil
  | t :: ts, _, _, h, kh, kf => by
    cases h with
    | cons h1 h2 => exact .cons (AtT.frame sf t _ _ h1 (fun a m => kh a (List.mem_append_left _ m)) fun a m => kf a (List.mem_append_left _ m)) (AtTL.frame sf ts _ _ h2 (fun a m => kh a (List.mem_append_right _ m)) fun a m => kf a (List.mem_append_right _ m))
end
mutual
theorem AtT.free : ∀ (t : T) (v : V) (fp : List Addr), AtT G F H t v fp → ∀ a ∈ fp, F a = none ∧ ∃ o, H a = some o ∧ Mut (some o)
  | .v d, _, _, h, a, m => by cases h; simp at m
  | .lst ts, _, _, h, a, m => by
    cases h with
    | lst h1 h2 h3 =>
      rcases List.mem_cons.mp m with rfl | m
      · exact ⟨h2, _, h1, trivial⟩
      · exact AtTL.free ts _ _ h3 a m
  | .dic ks ts, _, _, h, a, m => by
    cases h with
    | dic h1 hd h2 h3 =>
      rcases List.mem_cons.mp m with rfl | m
      · exact ⟨h2, _, h1, hd.mut⟩
      · exact AtTL.free ts _ _ h3 a m
  | .ins c ts, _, _, h, a, m => by
    cases h with
    | ins h1 hc hn h2 h3 =>
      rcases List.mem_cons.mp m with rfl | m
      · exact ⟨h2, _, h1, trivial⟩
      · exact AtTL.free ts _ _ h3 a m
theorem AtTL.free : ∀ (ts : List T) (vs : List V) (fp : List Addr), AtTL G F H ts vs fp → ∀ a ∈ fp, F a = none ∧ ∃ o, H a = some o ∧ Mut (some o)
  | [], _, _, h, a, m => by cases h; simp at m
  | t :: ts, _, _, h, a, m => by
    cases h with
    | cons h1 h2 =>
      rcases List.mem_append.mp m with m | m
      · exact AtT.free t _ _ h1 a m
      · exact AtTL.free ts _ _ h2 a m
end
theorem toDs_length : ∀ ts : List T, (toDs ts).length = ts.length
  | [] => rfl
  | t :: r => by simp [toDs, toDs_length r]
mutual
/-- a tree that is frozen: F' knows its nodes -/
theorem AtT.freeze (sf : Same F F') : ∀ (t : T) (v : V) (fp : List Addr), AtT G F H t v fp → (∀ a ∈ fp, ∀ o, H a = some o → F' a = some o) → At G F' (toD t) v
  | .v d, _, _, h, _ => by
    cases h with
    | v a => exact a.up sf
  | .lst ts, _, _, h, k => by
    cases h with
    | lst h1 h2 h3 => exact .lst (k _ List.mem_cons_self _ h1) (AtTL.freeze sf ts _ _ h3 fun a m => k a (List.mem_cons_of_mem _ m))
  | .dic ks ts, _, _, h, k => by
    cases h with
    | dic h1 hd h2 h3 => exact .dic (k _ List.mem_cons_self _ h1) hd (AtTL.freeze sf ts _ _ h3 fun a m => k a (List.mem_cons_of_mem _ m))
  | .ins c ts, _, _, h, k => by
    cases h with
    | ins h1 hc hn h2 h3 => exact .obj (k _ List.mem_cons_self _ h1) hc (by rw [toDs_length]; exact hn) (AtTL.freeze sf ts _ _ h3 fun a m => k a (List.mem_cons_of_mem _ m))
theorem AtTL.freeze (sf : Same F F') : ∀ (ts : List T) (vs : List V) (fp : List Addr), AtTL G F H ts vs fp → (∀ a ∈ fp, ∀ o, H a = some o → F' a = some o) → AtL G F' (toDs ts) vs
  | [], _, _, h, _ => by cases h; exact .nil
  | t :: ts, _, _, h, k => by
    cases h with
    | cons h1 h2 => exact .cons (AtT.freeze sf t _ _ h1 fun a m => k a (List.mem_append_left _ m)) (AtTL.freeze sf ts _ _ h2 fun a m => k a (List.mem_append_right _ m))
end
theorem AtT.seen {t : T} {v : V} {fp : List Addr} (h : AtT G F H t v fp) (s : Same F H) : At G H (toD t) v := AtT.freeze s t v fp h fun _ _ _ e => e
theorem AtTL.seen {t : List T} {v : List V} {fp : List Addr} (h : AtTL G F H t v fp) (s : Same F H) : AtL G H (toDs t) v := AtTL.freeze s t v fp h fun _ _ _ e => e
theorem AtTL.vals : ∀ {ds : List D} {vs : List V}, AtL G F ds vs → AtTL G F H (ds.map .v) vs []
  | _, _, .nil => .nil
  | _, _, .cons a r => .cons (.v a) (AtTL.vals r)
theorem AtTL.length : ∀ {ts : List T} {vs : List V} {fp : List Addr}, AtTL G F H ts vs fp → ts.length = vs.length
  | _, _, _, .nil => rfl
  | _, _, _, .cons _ h => by rw [List.length_cons, List.length_cons, h.length]
theorem AtTL.append : ∀ {ts us : List T} {vs ws : List V} {fp fq : List Addr}, AtTL G F H ts vs fp → AtTL G F H us ws fq → AtTL G F H (ts ++ us) (vs ++ ws) (fp ++ fq)
  | _, _, _, _, _, _, .nil, s => s
  | _, _, _, _, _, _, .cons r t, s => by
    rw [List.append_assoc]
    exact .cons r (AtTL.append t s)
/-- the i-th tree of some, and another one in its place -/
theorem AtTL.at_ : ∀ {ts : List T} {vs : List V} {fps : List Addr} {i : Nat} {t : T}, AtTL G F H ts vs fps → ts[i]? = some t →
    ∃ v fp L R, vs[i]? = some v ∧ AtT G F H t v fp ∧ fps = L ++ fp ++ R ∧ ∀ (F' H' : Hp) (t' : T) (v' : V) (fp' : List Addr), Same F F' → (∀ a ∈ L ++ R, ∀ o, H a = some o → H' a = some o) → (∀ a ∈ L ++ R, F' a = none) → AtT G F' H' t' v' fp' → AtTL G F' H' (ts.set i t') (vs.set i v') (L ++ fp' ++ R)
  | _, _, _, _, _, .nil, e => by simp at e
  | _, _, _, 0, _, .cons (fp := fp) (fps := fps) r s, e => by
    simp at e
    subst e
    refine ⟨_, fp, [], fps, rfl, r, by simp, fun F' H' t' v' fp' sf kh kf a => ?_⟩
    exact .cons a (AtTL.frame sf _ _ _ s (fun x m => kh x (by simpa using m)) fun x m => kf x (by simpa using m))
  | _, _, _, i + 1, t, .cons (fp := fq) (fps := fps) r s, e => by
    obtain ⟨v, fp, L, R, h1, h2, h3, h4⟩ := AtTL.at_ (i := i) (t := t) s (by simpa using e)
    refine ⟨v, fp, fq ++ L, R, by simpa using h1, h2, by rw [h3]; simp, fun F' H' t' v' fp' sf kh kf a => ?_⟩
    have := AtTL.cons (AtT.frame sf _ _ _ r (fun x m => kh x (by simp [m])) fun x m => kf x (by simp [m])) (h4 F' H' t' v' fp' sf (fun x m => kh x (by rcases List.mem_append.mp m with m | m <;> simp [m])) (fun x m => kf x (by rcases List.mem_append.mp m with m | m <;> simp [m])) a)
    simpa using this
end

/-! ### the state -/
structure Bs where
  H0 : Hp
  F0 : Hp
  M : Addr → Prop
  /-- slots that keep their values -/
  P0 : List (Nat × V)
structure Fb (b : Bs) (H F : Hp) : Prop where
  sub : Same F H
  ext : Same b.F0 F
  new : ∀ a o, F a = some o → b.F0 a = some o ∨ b.H0 a = none ∨ b.M a
  keep : ∀ a o, b.H0 a = some o → ¬ b.M a → H a = some o
  there : ∀ a, H a = none → b.H0 a = none
structure StF (G : Gx) (b : Bs) (σ : L2.St) (H F : Hp) (ρ : Env) (fps : List (List Addr)) : Prop where
  fb : Fb b H F
  len : ρ.length = σ.length
  lenF : fps.length = ρ.length
  slot : ∀ (i : Nat) (t : T), ρ[i]? = some (some t) → ∃ v fp, σ[i]? = some (some v) ∧ fps[i]? = some fp ∧ AtT G F H t v fp
  nodup : fps.flatten.Nodup
  mine : ∀ a ∈ fps.flatten, b.H0 a = none ∨ b.M a
  live : ∀ a ∈ fps.flatten, F a = none ∧ ∃ o, H a = some o ∧ Mut (some o)
  pro : ∀ p ∈ b.P0, p.1 ∈ G.pr ∧ σ[p.1]? = some (some p.2)
end J

set_option Elab.async false
set_option linter.all false
set_option maxRecDepth 100000
set_option maxHeartbeats 4000000
namespace J
open PySem PySem.Spec PyProof.Rows L2

/-! ### lists of footprints -/
theorem set_split {α : Type} {l : List α} {i : Nat} (h : i < l.length) : ∃ A B, l = A ++ l[i] :: B ∧ A.length = i ∧ ∀ x, l.set i x = A ++ x :: B :=
  ⟨l.take i, l.drop (i + 1), by simp, by rw [List.length_take]; omega, fun x => by rw [List.set_eq_take_append_cons_drop, if_pos h]⟩
def fpAt (fps : List (List Addr)) (i : Nat) : List Addr := fps[i]?.getD []
theorem fpAt_sub {fps : List (List Addr)} {i : Nat} : ∀ a ∈ fpAt fps i, a ∈ fps.flatten := fun a h => by
  unfold fpAt at h
  cases e : fps[i]? with
  | none => rw [e] at h; simp at h
  | some l =>
    rw [e] at h
    exact List.mem_flatten.mpr ⟨l, List.mem_of_getElem? e, h⟩
theorem set_flat_mem {fps : List (List Addr)} {i : Nat} {x : List Addr} {a : Addr} (h : a ∈ (fps.set i x).flatten) : a ∈ x ∨ a ∈ fps.flatten := by
  rw [List.mem_flatten] at h
  obtain ⟨l, h1, h2⟩ := h
  rcases List.mem_or_eq_of_mem_set h1 with h | h
  · exact .inr (List.mem_flatten.mpr ⟨l, h, h2⟩)
  · subst h; exact .inl h2
/-- what is in the changed list of footprints: in the new one, or in another one -/
theorem set_flat {fps : List (List Addr)} {i : Nat} {x : List Addr} (hi : i < fps.length) (h : fps.flatten.Nodup) : ∀ a, a ∈ (fps.set i x).flatten ↔ a ∈ x ∨ (a ∈ fps.flatten ∧ a ∉ fpAt fps i) := fun a => by
  obtain ⟨A, B, e, _, hs⟩ := set_split hi
  have ef : fpAt fps i = fps[i] := by unfold fpAt; rw [List.getElem?_eq_getElem hi]; rfl
  rw [hs, ef]
  generalize fps[i] = y at *
  subst e
  simp only [List.flatten_append, List.flatten_cons, List.mem_append, List.nodup_append] at h ⊢
  obtain ⟨h1, ⟨h2, h3, h4⟩, h5⟩ := h
  constructor
  · rintro (z | z | z)
    · exact .inr ⟨.inl z, fun q => h5 a z a (.inl q) rfl⟩
    · exact .inl z
    · exact .inr ⟨.inr (.inr z), fun q => h4 a q a z rfl⟩
  · rintro (z | ⟨z | z | z, n⟩)
    · exact .inr (.inl z)
    · exact .inl z
    · exact (n z).elim
    · exact .inr (.inr z)
theorem set_nodup {fps : List (List Addr)} {i : Nat} {x : List Addr} (h : fps.flatten.Nodup) (hx : x.Nodup) (ha : ∀ a ∈ x, a ∈ fpAt fps i ∨ a ∉ fps.flatten) : (fps.set i x).flatten.Nodup := by
  by_cases hi : i < fps.length
  · obtain ⟨A, B, e, _, hs⟩ := set_split hi
    have ef : fpAt fps i = fps[i] := by unfold fpAt; rw [List.getElem?_eq_getElem hi]; rfl
    rw [hs]
    rw [ef] at ha
    generalize fps[i] = y at *
    subst e
    simp only [List.flatten_append, List.flatten_cons, List.mem_append, List.nodup_append] at h ha ⊢
    obtain ⟨h1, ⟨h2, h3, h4⟩, h5⟩ := h
    refine ⟨h1, ⟨hx, h3, fun a z c q e => ?_⟩, fun a z c q e => ?_⟩
    · subst e
      rcases ha a z with w | w
      · exact h4 a w a q rfl
      · exact w (.inr (.inr q))
    · subst e
      rcases q with q | q
      · rcases ha a q with w | w
        · exact h5 a z a (.inl w) rfl
        · exact w (.inl z)
      · exact h5 a z a (.inr q) rfl
  · rw [List.set_eq_of_length_le (by omega)]; exact h
theorem fpAt_other {fps : List (List Addr)} {i j : Nat} (h : fps.flatten.Nodup) (n : i ≠ j) {fp : List Addr} (e : fps[j]? = some fp) : ∀ a ∈ fp, a ∉ fpAt fps i := fun a m q => by
  unfold fpAt at q
  cases e' : fps[i]? with
  | none => rw [e'] at q; simp at q
  | some l =>
    rw [e'] at q
    simp at q
    have hp := List.pairwise_flatten.mp h
    have := hp.2
    rw [List.pairwise_iff_getElem] at this
    obtain ⟨hj, ej⟩ := List.getElem?_eq_some_iff.mp e
    obtain ⟨hi, ei⟩ := List.getElem?_eq_some_iff.mp e'
    subst ej
    subst ei
    rcases Nat.lt_or_gt_of_ne n with z | z
    · exact this i j hi hj z a q a m rfl
    · exact this j i hj hi z a m a q rfl
theorem fpAt_nodup {fps : List (List Addr)} {i : Nat} (h : fps.flatten.Nodup) : (fpAt fps i).Nodup := by
  unfold fpAt
  cases e : fps[i]? with
  | none => simp
  | some l => exact (List.pairwise_flatten.mp h).1 l (List.mem_of_getElem? e)

/-! ### the two heaps -/
theorem same_new {H : Hp} {p : Addr} {o : HO} (h : H p = none) : Same H (upd H p o) := fun b x e => by
  rw [upd_ne (ne_of_none e h)]
  exact e
/-- nothing that stood is changed; what is new in F is new in H -/
structure Grow (F H F' H' : Hp) : Prop where
  f : Same F F'
  h : Same H H'
  sub : Same F' H'
  new : ∀ a o, F' a = some o → F a = some o ∨ H a = none
theorem Grow.refl {F H : Hp} (s : Same F H) : Grow F H F H := ⟨Same.refl _, Same.refl _, s, fun _ _ h => .inl h⟩
theorem Grow.trans {F H F1 H1 F2 H2 : Hp} (a : Grow F H F1 H1) (b : Grow F1 H1 F2 H2) : Grow F H F2 H2 :=
  ⟨a.f.trans b.f, a.h.trans b.h, b.sub, fun x o e => by
    rcases b.new x o e with h | h
    · exact a.new x o h
    · exact .inr (a.h.free h)⟩
theorem Grow.add {F H : Hp} {p : Addr} {o : HO} (s : Same F H) (h : H p = none) : Grow F H (upd F p o) (upd H p o) := by
  refine ⟨same_new (s.free h), same_new h, fun a x e => ?_, fun a x e => ?_⟩
  · by_cases q : a = p
    · subst q; rw [upd_same] at e ⊢; exact e
    · rw [upd_ne q] at e ⊢; exact s _ _ e
  · by_cases q : a = p
    · subst q; exact .inr h
    · rw [upd_ne q] at e; exact .inl e
/-- a new object that is not frozen -/
theorem Grow.tmp {F H : Hp} {p : Addr} {o : HO} (s : Same F H) (h : H p = none) : Grow F H F (upd H p o) :=
  ⟨Same.refl _, same_new h, s.trans (same_new h), fun a x e => .inl e⟩
theorem Grow.none {F H F' H' : Hp} (g : Grow F H F' H') {p : Addr} {o : HO} (h : H p = some o) (n : F p = Option.none) : F' p = Option.none := by
  cases e : F' p with
  | none => rfl
  | some x =>
    rcases g.new p x e with q | q
    · rw [n] at q; cases q
    · rw [h] at q; cases q
/-- what stands at S is frozen -/
def frz (S : List Addr) (F H : Hp) : Hp := fun a => if a ∈ S then H a else F a
theorem frz_in {S : List Addr} {F H : Hp} {a : Addr} (h : a ∈ S) : frz S F H a = H a := by unfold frz; rw [if_pos h]
theorem frz_out {S : List Addr} {F H : Hp} {a : Addr} (h : a ∉ S) : frz S F H a = F a := by unfold frz; rw [if_neg h]
theorem frz_same {S : List Addr} {F H : Hp} (s : Same F H) : Same F (frz S F H) := fun a o e => by
  by_cases h : a ∈ S
  · rw [frz_in h]; exact s _ _ e
  · rw [frz_out h]; exact e
theorem frz_sub {S : List Addr} {F H : Hp} (s : Same F H) : Same (frz S F H) H := fun a o e => by
  by_cases h : a ∈ S
  · rw [frz_in h] at e; exact e
  · rw [frz_out h] at e; exact s _ _ e

section
variable {G : Gx} {b : Bs} {σ σ' : L2.St} {H F H' F' : Hp} {ρ ρ' : Env} {fps fps' : List (List Addr)}
theorem Fb.grow (f : Fb b H F) (g : Grow F H F' H') : Fb b H' F' :=
  ⟨g.sub, f.ext.trans g.f, fun a o e => by
    rcases g.new a o e with q | q
    · exact f.new a o q
    · exact .inr (.inl (f.there a q)), fun a o e m => g.h _ _ (f.keep a o e m), fun a e => f.there a (g.h.free e)⟩
theorem Fb.write (f : Fb b H F) {p : Addr} {o : HO} (n : F p = none) (m : b.H0 p = none ∨ b.M p) : Fb b (upd H p o) F := by
  refine ⟨fun a u e => ?_, f.ext, f.new, fun a u e m' => ?_, fun a e => ?_⟩
  · have np : a ≠ p := fun z => by subst z; rw [n] at e; cases e
    rw [upd_ne np]; exact f.sub _ _ e
  · have np : a ≠ p := fun z => by
      subst z
      rcases m with z | z
      · rw [z] at e; cases e
      · exact m' z
    rw [upd_ne np]; exact f.keep _ _ e m'
  · have np : a ≠ p := fun z => by subst z; rw [upd_same] at e; cases e
    rw [upd_ne np] at e; exact f.there _ e
theorem Fb.frz (f : Fb b H F) {S : List Addr} (m : ∀ a ∈ S, b.H0 a = none ∨ b.M a) : Fb b H (frz S F H) :=
  ⟨frz_sub f.sub, f.ext.trans (frz_same f.sub), fun a o e => by
    by_cases h : a ∈ S
    · exact .inr (m a h)
    · rw [frz_out h] at e; exact f.new a o e, f.keep, f.there⟩
theorem StF.grow (h : StF G b σ H F ρ fps) (g : Grow F H F' H') : StF G b σ H' F' ρ fps := by
  refine ⟨h.fb.grow g, h.len, h.lenF, fun i t e => ?_, h.nodup, h.mine, fun a m => ?_, h.pro⟩
  · obtain ⟨v, fp, e1, e2, a⟩ := h.slot i t e
    refine ⟨v, fp, e1, e2, AtT.frame g.f _ _ _ a (fun x _ o eo => g.h _ _ eo) fun x m => ?_⟩
    obtain ⟨n, o, eo, _⟩ := a.free _ _ _ x m
    exact g.none eo n
  · obtain ⟨n, o, eo, mu⟩ := h.live a m
    exact ⟨g.none eo n, o, g.h _ _ eo, mu⟩
/-- THE CHANGE of one slot -/
theorem StF.change (I : StF G b σ H F ρ fps) {i : Nat} {v : V} {t : T} {fp : List Addr} (hpr : i ∉ G.pr ∨ σ[i]? = some (some v)) (fb : Fb b H' F') (sf : Same F F')
    (oth : ∀ a ∈ fps.flatten, a ∉ fpAt fps i → (∀ o, H a = some o → H' a = some o) ∧ F' a = none) (at' : AtT G F' H' t v fp) (nd : fp.Nodup)
    (ha : ∀ a ∈ fp, (a ∈ fpAt fps i ∨ a ∉ fps.flatten) ∧ (b.H0 a = none ∨ b.M a)) : StF G b (σ.set i (some v)) H' F' (ρ.set i (some t)) (fps.set i fp) := by
  refine ⟨fb, by simpa using I.len, by simpa using I.lenF, fun j t' e => ?_, set_nodup I.nodup nd fun a m => (ha a m).1, fun a m => ?_, fun a m => ?_, fun p hp => ⟨(I.pro p hp).1, ?_⟩⟩
  · by_cases hj : i = j
    · subst hj
      have l1 : i < ρ.length := by
        have := (List.getElem?_eq_some_iff.mp e).1
        simpa using this
      rw [List.getElem?_set_self l1] at e
      cases e
      exact ⟨v, fp, by rw [List.getElem?_set_self (by rw [← I.len]; exact l1)], by rw [List.getElem?_set_self (by rw [I.lenF]; exact l1)], at'⟩
    · rw [List.getElem?_set_ne hj] at e
      obtain ⟨u, fq, e1, e2, a⟩ := I.slot j t' e
      refine ⟨u, fq, by rw [List.getElem?_set_ne hj]; exact e1, by rw [List.getElem?_set_ne hj]; exact e2, ?_⟩
      have hm : ∀ x ∈ fq, x ∈ fps.flatten := fun x m => List.mem_flatten.mpr ⟨fq, List.mem_of_getElem? e2, m⟩
      have hn := fpAt_other I.nodup hj e2
      exact AtT.frame sf _ _ _ a (fun x m o eo => (oth x (hm x m) (hn x m)).1 o eo) fun x m => (oth x (hm x m) (hn x m)).2
  · rcases set_flat_mem m with m | m
    · exact (ha a m).2
    · exact I.mine a m
  · by_cases hi : i < fps.length
    · rcases (set_flat hi I.nodup a).mp m with m | ⟨m, n⟩
      · exact at'.free _ _ _ a m
      · obtain ⟨_, o, eo, mu⟩ := I.live a m
        exact ⟨(oth a m n).2, o, (oth a m n).1 o eo, mu⟩
    · rw [List.set_eq_of_length_le (by omega)] at m
      have n : a ∉ fpAt fps i := by
        unfold fpAt
        rw [List.getElem?_eq_none (by omega)]
        simp
      obtain ⟨_, o, eo, mu⟩ := I.live a m
      exact ⟨(oth a m n).2, o, (oth a m n).1 o eo, mu⟩
  · obtain ⟨h1, h2⟩ := I.pro p hp
    by_cases hj : i = p.1
    · rcases hpr with z | z
      · rw [hj] at z; exact (z h1).elim
      · rw [hj, h2] at z
        cases z
        rw [← hj, List.getElem?_set_self (by rw [hj]; exact (List.getElem?_eq_some_iff.mp h2).1)]
    · rw [List.getElem?_set_ne hj]; exact h2
theorem set_same {i : Nat} {v : Option V} (h : σ[i]? = some v) : σ.set i v = σ := by
  apply List.ext_getElem?
  intro j
  by_cases hj : i = j
  · subst hj
    rw [List.getElem?_set_self (List.getElem?_eq_some_iff.mp h).1, h]
  · rw [List.getElem?_set_ne hj]
/-- .. where the value stays -/
theorem StF.change' (I : StF G b σ H F ρ fps) {i : Nat} {v : V} {t : T} {fp : List Addr} (hv : σ[i]? = some (some v)) (fb : Fb b H' F') (sf : Same F F')
    (oth : ∀ a ∈ fps.flatten, a ∉ fpAt fps i → (∀ o, H a = some o → H' a = some o) ∧ F' a = none) (at' : AtT G F' H' t v fp) (nd : fp.Nodup)
    (ha : ∀ a ∈ fp, (a ∈ fpAt fps i ∨ a ∉ fps.flatten) ∧ (b.H0 a = none ∨ b.M a)) : StF G b σ H' F' (ρ.set i (some t)) (fps.set i fp) := by
  have := I.change (.inr hv) fb sf oth at' nd ha
  rwa [set_same hv] at this
theorem StF.setV (I : StF G b σ H F ρ fps) {i : Nat} {d : D} {v : V} (hpr : i ∉ G.pr) (a : At G F d v) : StF G b (σ.set i (some v)) H F (ρ.set i (some (.v d))) (fps.set i []) :=
  I.change (.inl hpr) I.fb (Same.refl _) (fun a m _ => ⟨fun o e => e, (I.live a m).1⟩) (.v a) List.nodup_nil (by simp)
theorem StF.setT (I : StF G b σ H F ρ fps) {i : Nat} {t : T} {v : V} {fp : List Addr} (hpr : i ∉ G.pr) (a : AtT G F H t v fp) (nd : fp.Nodup) (hf : ∀ x ∈ fp, b.H0 x = none ∧ x ∉ fps.flatten) :
    StF G b (σ.set i (some v)) H F (ρ.set i (some t)) (fps.set i fp) :=
  I.change (.inl hpr) I.fb (Same.refl _) (fun a m _ => ⟨fun o e => e, (I.live a m).1⟩) a nd fun x m => ⟨.inr (hf x m).2, .inl (hf x m).1⟩
/-- a slot is forgotten -/
theorem StF.setUn (I : StF G b σ H F ρ fps) {i : Nat} {z : Option V} (hpr : i ∉ G.pr) : StF G b (σ.set i z) H F (ρ.set i none) (fps.set i []) := by
  refine ⟨I.fb, by simpa using I.len, by simpa using I.lenF, fun j t e => ?_, set_nodup I.nodup List.nodup_nil (by simp), fun a m => ?_, fun a m => ?_, fun p hp => ⟨(I.pro p hp).1, by rw [List.getElem?_set_ne (fun e => hpr (by rw [e]; exact (I.pro p hp).1))]; exact (I.pro p hp).2⟩⟩
  · by_cases hj : i = j
    · subst hj
      have l1 : i < ρ.length := by
        have := (List.getElem?_eq_some_iff.mp e).1
        simpa using this
      rw [List.getElem?_set_self l1] at e
      cases e
    · rw [List.getElem?_set_ne hj] at e
      obtain ⟨u, fq, e1, e2, a⟩ := I.slot j t e
      exact ⟨u, fq, by rw [List.getElem?_set_ne hj]; exact e1, by rw [List.getElem?_set_ne hj]; exact e2, a⟩
  · rcases set_flat_mem m with m | m
    · simp at m
    · exact I.mine a m
  · rcases set_flat_mem m with m | m
    · simp at m
    · exact I.live a m
/-- the place of a slot's tree -/
theorem StF.at_ (I : StF G b σ H F ρ fps) {i : Nat} {t : T} (e : ρ[i]? = some (some t)) : ∃ v, σ[i]? = some (some v) ∧ AtT G F H t v (fpAt fps i) := by
  obtain ⟨v, fp, e1, e2, a⟩ := I.slot i t e
  refine ⟨v, e1, ?_⟩
  unfold fpAt
  rw [e2]
  exact a
/-- a slot's tree is frozen -/
theorem StF.freeze (I : StF G b σ H F ρ fps) {i : Nat} {t : T} {v : V} (e : ρ[i]? = some (some t)) (ev : σ[i]? = some (some v)) :
    ∃ F', Same F F' ∧ At G F' (toD t) v ∧ StF G b σ H F' (ρ.set i (some (.v (toD t)))) (fps.set i []) := by
  obtain ⟨u, e1, a⟩ := I.at_ e
  rw [ev] at e1
  cases e1
  have hm : ∀ x ∈ fpAt fps i, b.H0 x = none ∨ b.M x := fun x m => I.mine x (fpAt_sub x m)
  have at' : At G (frz (fpAt fps i) F H) (toD t) v := a.freeze (frz_same I.fb.sub) _ _ _ fun x m o eo => by rw [frz_in m]; exact eo
  exact ⟨_, frz_same I.fb.sub, at', I.change' ev (I.fb.frz hm) (frz_same I.fb.sub) (fun x m n => ⟨fun o e => e, by rw [frz_out n]; exact (I.live x m).1⟩) (.v at') List.nodup_nil (by simp)⟩
/-- a new tree, of no slot, is frozen -/
theorem StF.freezeTmp (I : StF G b σ H F ρ fps) {t : T} {v : V} {fp : List Addr} (a : AtT G F H t v fp) (hf : ∀ x ∈ fp, b.H0 x = none ∧ x ∉ fps.flatten) :
    ∃ F', Same F F' ∧ At G F' (toD t) v ∧ StF G b σ H F' ρ fps := by
  have sf := frz_same (S := fp) I.fb.sub
  refine ⟨frz fp F H, sf, a.freeze sf _ _ _ fun x m o eo => by rw [frz_in m]; exact eo, I.fb.frz fun x m => .inl (hf x m).1, I.len, I.lenF, fun i t' e => ?_, I.nodup, I.mine, fun x m => ?_, I.pro⟩
  · obtain ⟨u, fq, e1, e2, a'⟩ := I.slot i t' e
    refine ⟨u, fq, e1, e2, AtT.frame sf _ _ _ a' (fun x _ o eo => eo) fun x m => ?_⟩
    have n : x ∉ fp := fun z => (hf x z).2 (List.mem_flatten.mpr ⟨fq, List.mem_of_getElem? e2, m⟩)
    rw [frz_out n]
    exact (a'.free _ _ _ x m).1
  · have n : x ∉ fp := fun z => (hf x z).2 m
    rw [frz_out n]
    exact I.live x m
/-- the base of what stands now: only what is mine may change -/
def now (b : Bs) (H F : Hp) (fps : List (List Addr)) : Bs := ⟨H, F, fun p => p ∈ fps.flatten, b.P0⟩
theorem StF.now (h : StF G b σ H F ρ fps) : StF G (J.now b H F fps) σ H F ρ fps :=
  ⟨⟨h.fb.sub, Same.refl _, fun a o e => .inl e, fun a o e _ => e, fun a e => e⟩, h.len, h.lenF, h.slot, h.nodup, fun a m => .inr m, h.live, h.pro⟩
/-- what is not mine stays -/
def Held (H F : Hp) (fps : List (List Addr)) (H' F' : Hp) (fps' : List (List Addr)) : Prop := ∀ p o, H p = some o → p ∉ fps.flatten → H' p = some o ∧ (F p = none → F' p = none) ∧ p ∉ fps'.flatten
theorem held_of (h : StF G b σ H F ρ fps) (h' : StF G (J.now b H F fps) σ' H' F' ρ' fps') : StF G b σ' H' F' ρ' fps' ∧ Same F F' ∧ Held H F fps H' F' fps' := by
  have nn : ∀ p, (J.now b H F fps).H0 p = none ∨ (J.now b H F fps).M p → b.H0 p = none ∨ b.M p := fun p q => by
    rcases q with q | q
    · exact .inl (h.fb.there p q)
    · exact h.mine p q
  refine ⟨⟨⟨h'.fb.sub, h.fb.ext.trans h'.fb.ext, fun a o e => ?_, fun a o e m => ?_, fun a e => h.fb.there a (h'.fb.there a e)⟩, h'.len, h'.lenF, h'.slot, h'.nodup, fun a m => nn a (h'.mine a m), h'.live, h'.pro⟩, h'.fb.ext, fun p o e ap => ⟨h'.fb.keep p o e ap, fun n => ?_, fun m => ?_⟩⟩
  · rcases h'.fb.new a o e with q | q
    · exact h.fb.new a o q
    · exact .inr (nn a q)
  · have e1 := h.fb.keep a o e m
    refine h'.fb.keep a o e1 fun q => ?_
    rcases h.mine a q with q | q
    · rw [q] at e; cases e
    · exact m q
  · cases e2 : F' p with
    | none => rfl
    | some u =>
      rcases h'.fb.new p u e2 with q | q | q
      · have q' : F p = some u := q
        rw [n] at q'; cases q'
      · have q' : H p = none := q
        rw [e] at q'; cases q'
      · exact (ap q).elim
  · rcases h'.mine p m with q | q
    · have q' : H p = none := q
      rw [e] at q'; cases q'
    · exact ap q
theorem Held.tree {t : T} {v : V} {fp : List Addr} (k : Held H F fps H' F' fps') (s : Same F F') (a : AtT G F H t v fp) (hf : ∀ x ∈ fp, x ∉ fps.flatten) : AtT G F' H' t v fp ∧ ∀ x ∈ fp, x ∉ fps'.flatten := by
  refine ⟨AtT.frame s _ _ _ a (fun x m o eo => (k x o eo (hf x m)).1) fun x m => ?_, fun x m => ?_⟩
  · obtain ⟨n, o, eo, _⟩ := a.free _ _ _ x m
    exact (k x o eo (hf x m)).2.1 n
  · obtain ⟨_, o, eo, _⟩ := a.free _ _ _ x m
    exact (k x o eo (hf x m)).2.2
theorem Held.trees {t : List T} {v : List V} {fp : List Addr} (k : Held H F fps H' F' fps') (s : Same F F') (a : AtTL G F H t v fp) (hf : ∀ x ∈ fp, x ∉ fps.flatten) : AtTL G F' H' t v fp ∧ ∀ x ∈ fp, x ∉ fps'.flatten := by
  refine ⟨AtTL.frame s _ _ _ a (fun x m o eo => (k x o eo (hf x m)).1) fun x m => ?_, fun x m => ?_⟩
  · obtain ⟨n, o, eo, _⟩ := a.free _ _ _ x m
    exact (k x o eo (hf x m)).2.1 n
  · obtain ⟨_, o, eo, _⟩ := a.free _ _ _ x m
    exact (k x o eo (hf x m)).2.2
/-- a new object behind what stands -/
theorem StF.fresh (I : StF G b σ H F ρ fps) {p : Addr} {o : HO} (hp : H p = none) : StF G b σ (upd H p o) F ρ fps ∧ F p = none ∧ b.H0 p = none ∧ p ∉ fps.flatten :=
  ⟨I.grow (Grow.tmp I.fb.sub hp), I.fb.sub.free hp, I.fb.there _ hp, fun m => by
    obtain ⟨_, o, eo, _⟩ := I.live p m
    rw [hp] at eo; cases eo⟩
/-- an object that is apart is written -/
theorem StF.writeApart (I : StF G b σ H F ρ fps) {p : Addr} {o : HO} (fp : F p = none) (bp : b.H0 p = none) (ap : p ∉ fps.flatten) : StF G b σ (upd H p o) F ρ fps := by
  refine ⟨I.fb.write fp (.inl bp), I.len, I.lenF, fun i t e => ?_, I.nodup, I.mine, fun a m => ?_, I.pro⟩
  · obtain ⟨u, fq, e1, e2, a'⟩ := I.slot i t e
    refine ⟨u, fq, e1, e2, AtT.frame (Same.refl _) _ _ _ a' (fun x m o eo => ?_) fun x m => (a'.free _ _ _ x m).1⟩
    have n : x ≠ p := fun z => by
      subst z
      exact ap (List.mem_flatten.mpr ⟨fq, List.mem_of_getElem? e2, m⟩)
    rw [upd_ne n]; exact eo
  · obtain ⟨n, o', eo, mu⟩ := I.live a m
    have np : a ≠ p := fun z => by subst z; exact ap m
    exact ⟨n, o', by rw [upd_ne np]; exact eo, mu⟩
end
end J

set_option Elab.async false
set_option linter.all false
set_option maxRecDepth 100000
set_option maxHeartbeats 4000000
namespace J
open PySem PySem.Spec PyProof.Rows L2

structure G0 where
  ca : Nat → Addr
  cf : Nat → List Str
  pr : List Nat
abbrev gx (X : Cx) (G : G0) : Gx := ⟨⟨X.K, G.ca, G.cf⟩, G.pr⟩
structure StOk (G : Gx) (b : Bs) (σ : L2.St) (H F : Hp) (ρ : Env) : Prop where
  ex : ∃ fps, StF G b σ H F ρ fps
section
variable {G : Gx} {b : Bs} {σ σ' : L2.St} {H F H' F' : Hp} {ρ ρ' : Env} {fps : List (List Addr)}
theorem StF.ok (I : StF G b σ H F ρ fps) : StOk G b σ H F ρ := ⟨⟨fps, I⟩⟩
theorem StOk.fb (I : StOk G b σ H F ρ) : Fb b H F := by obtain ⟨⟨fps, I⟩⟩ := I; exact I.fb
theorem StOk.len (I : StOk G b σ H F ρ) : ρ.length = σ.length := by obtain ⟨⟨fps, I⟩⟩ := I; exact I.len
theorem StOk.grow (I : StOk G b σ H F ρ) (g : Grow F H F' H') : StOk G b σ H' F' ρ := by obtain ⟨⟨fps, I⟩⟩ := I; exact (I.grow g).ok
theorem StOk.setVal {i : Nat} {d : D} {v : V} (I : StOk G b σ H F ρ) (hpr : i ∉ G.pr) (a : At G F d v) : StOk G b (σ.set i (some v)) H F (ρ.set i (some (.v d))) := by obtain ⟨⟨fps, I⟩⟩ := I; exact (I.setV hpr a).ok
theorem StOk.setUn {i : Nat} {z : Option V} (I : StOk G b σ H F ρ) (hpr : i ∉ G.pr) : StOk G b (σ.set i z) H F (ρ.set i none) := by obtain ⟨⟨fps, I⟩⟩ := I; exact (I.setUn hpr).ok
end
abbrev WE := Env → (Env → D → Prop) → Prop
abbrev WN := Env → (Env → List D → Prop) → Prop
abbrev WT := Env → (Env → Bool → Prop) → Prop

def SndE (G : Gx) (t : TE) (w : WE) : Prop := ∀ (b : Bs) (σ : L2.St) (H F : Hp) (ρ : Env) (post : Env → D → Prop), StOk G b σ H F ρ → w ρ post →
  ∀ Q : VK, (∀ v H' F' ρ' d, Same F F' → StOk G b σ H' F' ρ' → At G F' d v → post ρ' d → Q v H') → t σ H Q
abbrev WQ := Env → (Env → T → Prop) → Prop
/-- a value, or a new tree of which nobody else knows -/
def SndQ (G : Gx) (t : TE) (w : WQ) : Prop := ∀ (b : Bs) (σ : L2.St) (H F : Hp) (ρ : Env) (post : Env → T → Prop), StOk G b σ H F ρ → w ρ post →
  ∀ Q : VK, (∀ v H' F' ρ' fps' t fp, Same F F' → StF G b σ H' F' ρ' fps' → AtT G F' H' t v fp → fp.Nodup → (∀ x ∈ fp, b.H0 x = none ∧ x ∉ fps'.flatten) → post ρ' t → Q v H') → t σ H Q
def SndT (G : Gx) (t : TT) (w : WT) : Prop := ∀ (b : Bs) (σ : L2.St) (H F : Hp) (ρ : Env) (post : Env → Bool → Prop), StOk G b σ H F ρ → w ρ post →
  ∀ Q : Bool → Hp → Prop, (∀ c H' F' ρ', Same F F' → StOk G b σ H' F' ρ' → post ρ' c → Q c H') → t σ H Q
def SndA (G : Gx) (t : TA) (w : WN) : Prop := ∀ (b : Bs) (σ : L2.St) (H F : Hp) (ρ : Env) (post : Env → List D → Prop), StOk G b σ H F ρ → w ρ post →
  ∀ Q : List V → Hp → Prop, (∀ vs H' F' ρ' l, Same F F' → StOk G b σ H' F' ρ' → AtL G F' l vs → post ρ' l → Q vs H') → t σ H Q

def canE (G : Gx) (w : WE) : TE := fun σ H Q => ∃ (b : Bs) (F : Hp) (ρ : Env) (post : Env → D → Prop), StOk G b σ H F ρ ∧ w ρ post ∧ ∀ v H' F' ρ' d, Same F F' → StOk G b σ H' F' ρ' → At G F' d v → post ρ' d → Q v H'
def canQ (G : Gx) (w : WQ) : TE := fun σ H Q => ∃ (b : Bs) (F : Hp) (ρ : Env) (post : Env → T → Prop), StOk G b σ H F ρ ∧ w ρ post ∧
  ∀ v H' F' ρ' fps' t fp, Same F F' → StF G b σ H' F' ρ' fps' → AtT G F' H' t v fp → fp.Nodup → (∀ x ∈ fp, b.H0 x = none ∧ x ∉ fps'.flatten) → post ρ' t → Q v H'
def canT (G : Gx) (w : WT) : TT := fun σ H Q => ∃ (b : Bs) (F : Hp) (ρ : Env) (post : Env → Bool → Prop), StOk G b σ H F ρ ∧ w ρ post ∧ ∀ c H' F' ρ', Same F F' → StOk G b σ H' F' ρ' → post ρ' c → Q c H'
def canA (G : Gx) (w : WN) : TA := fun σ H Q => ∃ (b : Bs) (F : Hp) (ρ : Env) (post : Env → List D → Prop), StOk G b σ H F ρ ∧ w ρ post ∧ ∀ vs H' F' ρ' l, Same F F' → StOk G b σ H' F' ρ' → AtL G F' l vs → post ρ' l → Q vs H'
theorem snd_canE {G : Gx} {w : WE} : SndE G (canE G w) w := fun b σ H F ρ post I h Q q => ⟨b, F, ρ, post, I, h, q⟩
theorem snd_canQ {G : Gx} {w : WQ} : SndQ G (canQ G w) w := fun b σ H F ρ post I h Q q => ⟨b, F, ρ, post, I, h, q⟩
theorem snd_canT {G : Gx} {w : WT} : SndT G (canT G w) w := fun b σ H F ρ post I h Q q => ⟨b, F, ρ, post, I, h, q⟩
theorem snd_canA {G : Gx} {w : WN} : SndA G (canA G w) w := fun b σ H F ρ post I h Q q => ⟨b, F, ρ, post, I, h, q⟩
/-- e does what the reading w on data says -/
structure DE (G : G0) (X : Cx) (e : Expr) (w : WE) : Prop where
  run : PE X e (canE (gx X G) w)
structure DQ (G : G0) (X : Cx) (e : Expr) (w : WQ) : Prop where
  run : PE X e (canQ (gx X G) w)
/-- a new list of frozen things -/
def wNQ (w : WN) : WQ := fun ρ post => w ρ fun ρ1 l => post ρ1 (.lst (l.map .v))
abbrev DN (G : G0) (X : Cx) (e : Expr) (w : WN) : Prop := DQ G X e (wNQ w)
structure DT (G : G0) (X : Cx) (e : Expr) (w : WT) : Prop where
  run : PT X e (canT (gx X G) w)
structure DW (G : G0) (X : Cx) (e : Expr) (w : WT) : Prop where
  run : PW X e (canT (gx X G) w)
structure DA (G : G0) (X : Cx) (es : List Expr) (w : WN) : Prop where
  run : PA X es (canA (gx X G) w)
theorem DE.of {G : G0} {X : Cx} {e : Expr} {w : WE} (h : ∃ t, PE X e t ∧ SndE (gx X G) t w) : DE G X e w := by
  obtain ⟨t, h1, h2⟩ := h
  exact ⟨⟨fun pins s σ H Q I ⟨b, F, ρ, post, i, hw, q⟩ => h1.run pins s σ H Q I (h2 b σ H F ρ post i hw Q q)⟩⟩
theorem DQ.of {G : G0} {X : Cx} {e : Expr} {w : WQ} (h : ∃ t, PE X e t ∧ SndQ (gx X G) t w) : DQ G X e w := by
  obtain ⟨t, h1, h2⟩ := h
  exact ⟨⟨fun pins s σ H Q I ⟨b, F, ρ, post, i, hw, q⟩ => h1.run pins s σ H Q I (h2 b σ H F ρ post i hw Q q)⟩⟩
theorem DT.of {G : G0} {X : Cx} {e : Expr} {w : WT} (h : ∃ t, PT X e t ∧ SndT (gx X G) t w) : DT G X e w := by
  obtain ⟨t, h1, h2⟩ := h
  exact ⟨⟨fun pins s σ H Q I ⟨b, F, ρ, post, i, hw, q⟩ => h1.run pins s σ H Q I (h2 b σ H F ρ post i hw Q q)⟩⟩
theorem DW.of {G : G0} {X : Cx} {e : Expr} {w : WT} (h : ∃ t, PW X e t ∧ SndT (gx X G) t w) : DW G X e w := by
  obtain ⟨t, h1, h2⟩ := h
  exact ⟨⟨fun wh pins s σ H Q I ⟨b, F, ρ, post, i, hw, q⟩ => h1.run wh pins s σ H Q I (h2 b σ H F ρ post i hw Q q)⟩⟩
theorem DA.of {G : G0} {X : Cx} {e : List Expr} {w : WN} (h : ∃ t, PA X e t ∧ SndA (gx X G) t w) : DA G X e w := by
  obtain ⟨t, h1, h2⟩ := h
  exact ⟨⟨fun pos pins s σ H Q I ⟨b, F, ρ, post, i, hw, q⟩ => h1.run pos pins s σ H Q I (h2 b σ H F ρ post i hw Q q)⟩⟩
theorem DE.ex {G : G0} {X : Cx} {e : Expr} {w : WE} (h : DE G X e w) : ∃ t, PE X e t ∧ SndE (gx X G) t w := ⟨_, h.run, snd_canE⟩
theorem DQ.ex {G : G0} {X : Cx} {e : Expr} {w : WQ} (h : DQ G X e w) : ∃ t, PE X e t ∧ SndQ (gx X G) t w := ⟨_, h.run, snd_canQ⟩
theorem DT.ex {G : G0} {X : Cx} {e : Expr} {w : WT} (h : DT G X e w) : ∃ t, PT X e t ∧ SndT (gx X G) t w := ⟨_, h.run, snd_canT⟩
theorem DW.ex {G : G0} {X : Cx} {e : Expr} {w : WT} (h : DW G X e w) : ∃ t, PW X e t ∧ SndT (gx X G) t w := ⟨_, h.run, snd_canT⟩
theorem DA.ex {G : G0} {X : Cx} {e : List Expr} {w : WN} (h : DA G X e w) : ∃ t, PA X e t ∧ SndA (gx X G) t w := ⟨_, h.run, snd_canA⟩

/-! ### names, constants -/
def nth : Env → Nat → Option T
  | [], _ => none
  | x :: _, 0 => x
  | _ :: r, n + 1 => nth r n
theorem nth_some : ∀ {ρ : Env} {i : Nat} {t : T}, nth ρ i = some t → ρ[i]? = some (some t)
  | [], _, x, h => by cases h
  | y :: r, 0, x, h => by
    have : y = some x := h
    subst this; rfl
  | y :: r, i + 1, x, h => by
    have h' : nth r i = some x := h
    have := nth_some h'
    simpa using this
/-- a name is read: from now on its tree does not change -/
def wv (i : Nat) : WE := fun ρ post => match nth ρ i with
  | some t => post (ρ.set i (some (.v (toD t)))) (toD t)
  | none => False
def wC (d : D) : WE := fun ρ post => post ρ d
section
variable {G : Gx}
theorem snd_v {i : Nat} : SndE G (tVar i) (wv i) := fun b σ H F ρ post I h Q q => by
  unfold wv at h
  split at h
  · rename_i t e
    obtain ⟨⟨fps, I⟩⟩ := I
    have e' := nth_some e
    obtain ⟨v, ev, a⟩ := I.at_ e'
    obtain ⟨F', sf, a', I'⟩ := I.freeze e' ev
    exact ⟨v, ev, q v H F' _ _ sf I'.ok a' h⟩
  · exact h.elim
theorem snd_c {v : V} {d : D} (a : ∀ F, At G F d v) : SndE G (tC v) (wC d) := fun b σ H F ρ post I h Q q => q v H F ρ d (Same.refl _) I (a F) h
end
section
variable {G : G0} {X : Cx}
theorem dv (i : Nat) {x : Str} {pos : Pos} (hN : X.N[i]? = some x := by rfl) (hv : Vis X.env.scope x := by first | exact Or.inl rfl | exact Or.inr (Or.inl rfl) | exact Or.inr (Or.inr rfl)) (hd : (x == ("__debug__" : Str)) = false := by decide)
    (hcd : (x == ("__classdict__" : Str)) = false := by decide) : DE G X (.Name x pos) (wv i) := .of ⟨_, pe_var hN hv hd hcd, snd_v⟩
theorem d_int {i j pos} : DE G X (.Constant (.int i) j pos) (wC (.int i)) := .of ⟨_, pe_int, snd_c fun _ => .int i⟩
theorem d_bl {i j pos} : DE G X (.Constant (.bool i) j pos) (wC (.bl i)) := .of ⟨_, pe_bl, snd_c fun _ => .bl i⟩
theorem d_non {j pos} : DE G X (.Constant .none j pos) (wC .non) := .of ⟨_, pe_non, snd_c fun _ => .non⟩
theorem d_str {i j pos} : DE G X (.Constant (.str i) j pos) (wC (.str i)) := .of ⟨_, pe_str, snd_c fun _ => .str i⟩
theorem d_glI {x : Str} {i : Int} {t : Tok} {pos : Pos} (hg : Gl X x) (hm : X.mg x = some (.int i t)) (hd : (x == ("__debug__" : Str)) = false := by decide) : DE G X (.Name x pos) (wC (.int i)) := .of ⟨_, pe_glob hg hm (show RelV (.int i) (.int i t) from ⟨t, rfl⟩) hd, snd_c fun _ => .int i⟩
theorem d_glS {x y : Str} {t : Tok} {pos : Pos} (hg : Gl X x) (hm : X.mg x = some (.str y t)) (hd : (x == ("__debug__" : Str)) = false := by decide) : DE G X (.Name x pos) (wC (.str y)) := .of ⟨_, pe_glob hg hm (show RelV (.str y) (.str y t) from ⟨t, rfl⟩) hd, snd_c fun _ => .str y⟩
end

/-! ### operators on values -/
abbrev R2D := D → D → (D → Prop) → Prop
def SndO (G : Gx) (r : R2) (wr : R2D) : Prop := ∀ (F H : Hp) (x y : V) (d1 d2 : D) (post : D → Prop), Same F H → At G F d1 x → At G F d2 y → wr d1 d2 post →
  ∀ Q : VK, (∀ v H' F' d, Grow F H F' H' → At G F' d v → post d → Q v H') → r x y H Q
def wOp (wr : R2D) (wa wb : WE) : WE := fun ρ post => wa ρ fun ρ1 d1 => wb ρ1 fun ρ2 d2 => wr d1 d2 (post ρ2)
theorem snd_op {G : Gx} {r : R2} {wr : R2D} {ta tb : TE} {wa wb : WE} (ho : SndO G r wr) (ha : SndE G ta wa) (hb : SndE G tb wb) : SndE G (tOp r ta tb) (wOp wr wa wb) := fun b σ H F ρ post I h Q q =>
  ha b σ H F ρ _ I h _ fun x H1 F1 ρ1 d1 s1 I1 a1 h1 => hb b σ H1 F1 ρ1 _ I1 h1 _ fun y H2 F2 ρ2 d2 s2 I2 a2 h2 =>
    ho F2 H2 x y d1 d2 _ I2.fb.sub (a1.up s2) a2 h2 _ fun v H3 F3 d g a3 h3 => q v H3 F3 ρ2 d ((s1.trans s2).trans g.f) (I2.grow g) a3 h3
structure DOp (G : G0) (X : Cx) (f : Value → Value → Sem Value) (wr : R2D) : Prop where
  ex : ∃ r, OpR X f r ∧ SndO (gx X G) r wr
def wI0 (g : Int → Int → D) : R2D := fun x y post => match x, y with
  | .int i, .int j => post (g i j)
  | _, _ => False
def wI (C : Int → Int → Prop) (g : Int → Int → D) : R2D := fun x y post => match x, y with
  | .int i, .int j => C i j ∧ post (g i j)
  | _, _ => False
section
variable {G : Gx}
theorem sndo_I0 {g : Int → Int → V} {g' : Int → Int → D} (hg : ∀ F i j, At G F (g' i j) (g i j)) : SndO G (rI0 g) (wI0 g') := fun F H x y d1 d2 post s a1 a2 h Q q => by
  unfold wI0 at h
  split at h
  · rename_i i j
    cases a1; cases a2
    exact ⟨i, j, rfl, rfl, q _ H F _ (Grow.refl s) (hg F i j) h⟩
  · exact h.elim
theorem sndo_I {C : Int → Int → Prop} {g : Int → Int → V} {g' : Int → Int → D} (hg : ∀ F i j, At G F (g' i j) (g i j)) : SndO G (rI C g) (wI C g') := fun F H x y d1 d2 post s a1 a2 h Q q => by
  unfold wI at h
  split at h
  · rename_i i j
    cases a1; cases a2
    exact ⟨i, j, rfl, rfl, h.1, q _ H F _ (Grow.refl s) (hg F i j) h.2⟩
  · exact h.elim
end
section
variable {G : G0} {X : Cx}
theorem do_add : DOp G X (binaryOp .Add) (wI0 fun i j => .int (i + j)) := ⟨_, op_add, sndo_I0 fun _ _ _ => .int _⟩
theorem do_sub : DOp G X (binaryOp .Sub) (wI0 fun i j => .int (i - j)) := ⟨_, op_sub, sndo_I0 fun _ _ _ => .int _⟩
theorem do_mul : DOp G X (binaryOp .Mult) (wI CMul fun i j => .int (i * j)) := ⟨_, op_mul, sndo_I fun _ _ _ => .int _⟩
theorem do_fdiv : DOp G X (binaryOp .FloorDiv) (wI CDiv fun i j => .int (i / j)) := ⟨_, op_fdiv, sndo_I fun _ _ _ => .int _⟩
theorem do_mod : DOp G X (binaryOp .Mod) (wI (fun _ j => 0 < j) fun i j => .int (i % j)) := ⟨_, op_mod, sndo_I fun _ _ _ => .int _⟩
theorem do_pow : DOp G X (binaryOp .Pow) (wI CPow fun i j => .int (i ^ j.toNat)) := ⟨_, op_pow, sndo_I fun _ _ _ => .int _⟩
theorem do_lt : DOp G X (compareOp .Lt) (wI0 fun i j => .bl (decide (i < j))) := ⟨_, op_lt, sndo_I0 fun _ _ _ => .bl _⟩
theorem do_le : DOp G X (compareOp .LtE) (wI0 fun i j => .bl (decide (i ≤ j))) := ⟨_, op_le, sndo_I0 fun _ _ _ => .bl _⟩
theorem do_gt : DOp G X (compareOp .Gt) (wI0 fun i j => .bl (decide (j < i))) := ⟨_, op_gt, sndo_I0 fun _ _ _ => .bl _⟩
theorem do_ge : DOp G X (compareOp .GtE) (wI0 fun i j => .bl (decide (j ≤ i))) := ⟨_, op_ge, sndo_I0 fun _ _ _ => .bl _⟩
/-- == of two ints -/
theorem do_eqI : DOp G X (compareOp .Eq) (wI0 fun i j => .bl (decide (i = j))) := ⟨_, op_eq, fun F H x y d1 d2 post s a1 a2 h Q q => by
  unfold wI0 at h
  split at h
  · rename_i i j
    cases a1; cases a2
    refine ⟨rfl, q _ H F _ (Grow.refl s) ?_ h⟩
    rw [show decide (V.int i = V.int j) = decide (i = j) by simp]
    exact .bl _
  · exact h.elim⟩
theorem do_neI : DOp G X (compareOp .NotEq) (wI0 fun i j => .bl (!decide (i = j))) := ⟨_, op_ne, fun F H x y d1 d2 post s a1 a2 h Q q => by
  unfold wI0 at h
  split at h
  · rename_i i j
    cases a1; cases a2
    refine ⟨rfl, q _ H F _ (Grow.refl s) ?_ h⟩
    rw [show decide (V.int i = V.int j) = decide (i = j) by simp]
    exact .bl _
  · exact h.elim⟩
end

/-! ### == of data -/
mutual
def py : D → PyData
  | .non => .none
  | .bl b => .bool b
  | .int i => .int i
  | .str x => .str x
  | .tup l => .tuple (pyL l)
  | .lst l => .list (pyL l)
  | .dic _ _ => .none
  | .obj _ _ => .none
  | .scr _ => .none
def pyL : List D → List PyData
  | [] => []
  | d :: r => py d :: pyL r
end
mutual
def noObj : D → Bool
  | .tup l => noObjL l
  | .lst l => noObjL l
  | .obj _ _ => false
  | .dic _ _ => false
  | .scr _ => false
  | _ => true
def noObjL : List D → Bool
  | [] => true
  | d :: r => noObj d && noObjL r
end
section
variable {G : Gx} {F H : Hp}
mutual
theorem At.dp (s : Same F H) : ∀ (d : D) (v : V), At G F d v → noObj d = true → Dp G.K H v (py d)
  | .non, _, h, _ => by cases h; exact .non
  | .bl b, _, h, _ => by cases h; exact .bl b
  | .int i, _, h, _ => by cases h; exact .int i
  | .str x, _, h, _ => by cases h; exact .str x
  | .tup ds, _, h, n => by
    cases h with
    | tup hs ha => exact .tup (same_t s hs) (AtL.dp s ds _ ha (by simpa [noObj] using n))
  | .lst ds, _, h, n => by
    cases h with
    | lst hs ha => exact .lst (.inl (.inl (s _ _ hs))) (AtL.dp s ds _ ha (by simpa [noObj] using n))
  | .obj _ _, _, _, n => by simp [noObj] at n
  | .dic _ _, _, _, n => by simp [noObj] at n
  | .scr _, _, _, n => by simp [noObj] at n
theorem AtL.dp (s : Same F H) : ∀ (ds : List D) (vs : List V), AtL G F ds vs → noObjL ds = true → DpAll G.K H vs (pyL ds)
  | [], _, h, _ => by cases h; exact .nil
  | d :: ds, _, h, n => by
    have n' : noObj d = true ∧ noObjL ds = true := by simpa [noObjL] using n
    cases h with
    | cons h1 h2 => exact .cons (At.dp s d _ h1 n'.1) (AtL.dp s ds _ h2 n'.2)
end
end
/-- what == of data asks: no objects, texts that can be, at most 64 deep -/
def shp (d : D) : Bool := noObj d && SeqAt.shaped (py d)
def deq (d e : D) : Bool := PyData.eqv (py d) (py e)
def wEq : R2D := fun x y post => (shp x = true ∧ shp y = true) ∧ post (.bl (deq x y))
def wNe : R2D := fun x y post => (shp x = true ∧ shp y = true) ∧ post (.bl (!deq x y))
section
variable {G : G0} {X : Cx}
theorem do_eq (hu : X.A.units + 64 < cLine) : DOp G X (compareOp .Eq) wEq := ⟨_, op_eqD hu, fun F H x y d1 d2 post s a1 a2 h Q q => by
  obtain ⟨⟨n1, n2⟩, h⟩ := h
  have m1 : noObj d1 = true ∧ SeqAt.shaped (py d1) = true := by simpa [shp] using n1
  have m2 : noObj d2 = true ∧ SeqAt.shaped (py d2) = true := by simpa [shp] using n2
  exact ⟨py d1, py d2, At.dp s _ _ a1 m1.1, At.dp s _ _ a2 m2.1, m1.2, m2.2, q _ H F _ (Grow.refl s) (.bl _) h⟩⟩
theorem do_ne (hu : X.A.units + 64 < cLine) : DOp G X (compareOp .NotEq) wNe := ⟨_, op_neD hu, fun F H x y d1 d2 post s a1 a2 h Q q => by
  obtain ⟨⟨n1, n2⟩, h⟩ := h
  have m1 : noObj d1 = true ∧ SeqAt.shaped (py d1) = true := by simpa [shp] using n1
  have m2 : noObj d2 = true ∧ SeqAt.shaped (py d2) = true := by simpa [shp] using n2
  exact ⟨py d1, py d2, At.dp s _ _ a1 m1.1, At.dp s _ _ a2 m2.1, m1.2, m2.2, q _ H F _ (Grow.refl s) (.bl _) h⟩⟩
/-- is None -/
def isNon : D → Bool
  | .non => true
  | _ => false
theorem isNon_at {G : Gx} {F : Hp} {d : D} {v : V} (a : At G F d v) : decide (v = .non) = isNon d := by
  cases a <;> rfl
def wIsN : R2D := fun x y post => match y with
  | .non => post (.bl (isNon x))
  | _ => False
def wNotN : R2D := fun x y post => match y with
  | .non => post (.bl (!isNon x))
  | _ => False
theorem do_isN : DOp G X (compareOp .Is) wIsN := ⟨_, op_isN, fun F H x y d1 d2 post s a1 a2 h Q q => by
  unfold wIsN at h
  split at h
  · cases a2
    refine ⟨rfl, q _ H F _ (Grow.refl s) ?_ h⟩
    rw [isNon_at a1]
    exact .bl _
  · exact h.elim⟩
theorem do_notN : DOp G X (compareOp .IsNot) wNotN := ⟨_, op_notN, fun F H x y d1 d2 post s a1 a2 h Q q => by
  unfold wNotN at h
  split at h
  · cases a2
    refine ⟨rfl, q _ H F _ (Grow.refl s) ?_ h⟩
    rw [isNon_at a1]
    exact .bl _
  · exact h.elim⟩
end

/-! ### expressions of operators -/
section
variable {G : G0} {X : Cx} {a b c e : Expr} {wa wb wc w : WE} {pos : Pos} {rest : List Expr}
theorem d_op {op : Operator} {wr : R2D} (ho : DOp G X (binaryOp op) wr) (ha : DE G X a wa) (hb : DE G X b wb) : DE G X (.BinOp a op b pos) (wOp wr wa wb) := by
  obtain ⟨r, o1, o2⟩ := ho.ex
  obtain ⟨ta, a1, a2⟩ := ha.ex
  obtain ⟨tb, b1, b2⟩ := hb.ex
  exact .of ⟨_, pe_op o1 a1 b1, snd_op o2 a2 b2⟩
theorem d_cmp {op : CmpOp} {wr : R2D} (ho : DOp G X (compareOp op) wr) (ha : DE G X a wa) (hb : DE G X b wb) (hm : behindInMarks op b = false := by first | exact nomark _ | with_unfolding_all rfl) : DE G X (.Compare a [op] [b] pos) (wOp wr wa wb) := by
  obtain ⟨r, o1, o2⟩ := ho.ex
  obtain ⟨ta, a1, a2⟩ := ha.ex
  obtain ⟨tb, b1, b2⟩ := hb.ex
  exact .of ⟨_, pe_cmpR o1 a1 b1 hm, snd_op o2 a2 b2⟩
/-- a op b op' c -/
def wChain (wr wr' : R2D) (wa wb wc : WE) : WE := fun ρ post => wa ρ fun ρ1 d1 => wb ρ1 fun ρ2 d2 => wr d1 d2 fun z => match z with
  | .bl true => wc ρ2 fun ρ3 d3 => wr' d2 d3 (post ρ3)
  | .bl false => post ρ2 (.bl false)
  | _ => False
theorem snd_chain {G : Gx} {r r' : R2} {wr wr' : R2D} {ta tb tc : TE} (ho : SndO G r wr) (ho' : SndO G r' wr') (ha : SndE G ta wa) (hb : SndE G tb wb) (hc : SndE G tc wc) : SndE G (tChain r r' ta tb tc) (wChain wr wr' wa wb wc) := fun b σ H F ρ post I h Q q =>
  ha b σ H F ρ _ I h _ fun x H1 F1 ρ1 d1 s1 I1 a1 h1 => hb b σ H1 F1 ρ1 _ I1 h1 _ fun y H2 F2 ρ2 d2 s2 I2 a2 h2 =>
    ho F2 H2 x y d1 d2 _ I2.fb.sub (a1.up s2) a2 h2 _ fun v H3 F3 d g a3 h3 => by
      have s3 := (s1.trans s2).trans g.f
      split at h3
      · cases a3
        exact ⟨true, rfl, hc b σ H3 F3 ρ2 _ (I2.grow g) h3 _ fun z H4 F4 ρ4 d4 s4 I4 a4 h4 => ho' F4 H4 y z d2 d4 _ I4.fb.sub ((a2.up g.f).up s4) a4 h4 _ fun v5 H5 F5 d5 g5 a5 h5 => q v5 H5 F5 ρ4 d5 ((s3.trans s4).trans g5.f) (I4.grow g5) a5 h5⟩
      · cases a3
        exact ⟨false, rfl, q _ H3 F3 ρ2 _ s3 (I2.grow g) (.bl false) h3⟩
      · exact h3.elim
theorem d_chain {op op' : CmpOp} {wr wr' : R2D} (ho : DOp G X (compareOp op) wr) (ho' : DOp G X (compareOp op') wr') (ha : DE G X a wa) (hb : DE G X b wb) (hc : DE G X c wc)
    (hm : lastMarks [op, op'] [b, c] = false := by with_unfolding_all rfl) : DE G X (.Compare a [op, op'] [b, c] pos) (wChain wr wr' wa wb wc) := by
  obtain ⟨r, o1, o2⟩ := ho.ex
  obtain ⟨r', o1', o2'⟩ := ho'.ex
  obtain ⟨ta, a1, a2⟩ := ha.ex
  obtain ⟨tb, b1, b2⟩ := hb.ex
  obtain ⟨tc, c1, c2⟩ := hc.ex
  exact .of ⟨_, pe_chain o1 o1' a1 b1 c1 hm, snd_chain o2 o2' a2 b2 c2⟩
/-- a bool as a test -/
def wTst (w : WE) : WT := fun ρ post => w ρ fun ρ1 d => match d with
  | .bl k => post ρ1 k
  | _ => False
theorem snd_tst {G : Gx} {t : TE} (h : SndE G t w) : SndT G (tTest t) (wTst w) := fun b σ H F ρ post I hw Q q => h b σ H F ρ _ I hw _ fun v H1 F1 ρ1 d s1 I1 a1 h1 => by
  split at h1
  · cases a1
    exact ⟨_, rfl, q _ H1 F1 ρ1 s1 I1 h1⟩
  · exact h1.elim
theorem snd_tB {G : Gx} {t : TE} (h : SndE G t w) : SndT G (tB t) (wTst w) := fun b σ H F ρ post I hw Q q => h b σ H F ρ _ I hw _ fun v H1 F1 ρ1 d s1 I1 a1 h1 => by
  split at h1
  · cases a1
    exact ⟨_, rfl, q _ H1 F1 ρ1 s1 I1 h1⟩
  · exact h1.elim
theorem dt_cmp {op : CmpOp} {wr : R2D} (ho : DOp G X (compareOp op) wr) (ha : DE G X a wa) (hb : DE G X b wb) (hm : behindInMarks op b = false := by first | exact nomark _ | with_unfolding_all rfl) : DT G X (.Compare a [op] [b] pos) (wTst (wOp wr wa wb)) := by
  obtain ⟨r, o1, o2⟩ := ho.ex
  obtain ⟨ta, a1, a2⟩ := ha.ex
  obtain ⟨tb, b1, b2⟩ := hb.ex
  exact .of ⟨_, pt_cmpR o1 a1 b1 hm, snd_tst (snd_op o2 a2 b2)⟩
theorem dt_chain {op op' : CmpOp} {wr wr' : R2D} (ho : DOp G X (compareOp op) wr) (ho' : DOp G X (compareOp op') wr') (ha : DE G X a wa) (hb : DE G X b wb) (hc : DE G X c wc)
    (hm : lastMarks [op, op'] [b, c] = false := by with_unfolding_all rfl) : DT G X (.Compare a [op, op'] [b, c] pos) (wTst (wChain wr wr' wa wb wc)) := by
  obtain ⟨r, o1, o2⟩ := ho.ex
  obtain ⟨r', o1', o2'⟩ := ho'.ex
  obtain ⟨ta, a1, a2⟩ := ha.ex
  obtain ⟨tb, b1, b2⟩ := hb.ex
  obtain ⟨tc, c1, c2⟩ := hc.ex
  exact .of ⟨_, pt_chain o1 o1' a1 b1 c1 hm, snd_tst (snd_chain o2 o2' a2 b2 c2)⟩
/-- an expression whose value is a bool, as a test: a call, a name, a field -/
theorem dt_val (h : DE G X e w) (he : ∀ whole, isTrue e X.env whole = (do let v ← whole; standAt e.pos; holding [v] (truthy v)) := by intro _; rfl) : DT G X e (wTst w) := by
  obtain ⟨t, h1, h2⟩ := h.ex
  exact .of ⟨_, pt_val h1 he, snd_tB h2⟩
def wNot (w : WT) : WT := fun ρ post => w ρ fun ρ1 k => post ρ1 (!k)
theorem dt_not {w : WT} (h : DT G X a w) : DT G X (.UnaryOp .Not a pos) (wNot w) := by
  obtain ⟨t, h1, h2⟩ := h.ex
  exact .of ⟨_, pt_not h1, fun b σ H F ρ post I hw Q q => h2 b σ H F ρ _ I hw _ fun k H1 F1 ρ1 s1 I1 h1 => q _ H1 F1 ρ1 s1 I1 h1⟩
def wAndT (w u : WT) : WT := fun ρ post => w ρ fun ρ1 k => match k with
  | true => u ρ1 post
  | false => post ρ1 false
def wOrT (w u : WT) : WT := fun ρ post => w ρ fun ρ1 k => match k with
  | true => post ρ1 true
  | false => u ρ1 post
theorem dw_and1 {w : WT} (h : DT G X a w) : DW G X (.BoolOp .And [a] pos) w := by
  obtain ⟨t, h1, h2⟩ := h.ex
  exact .of ⟨_, pw_and1 h1, h2⟩
theorem dw_or1 {w : WT} (h : DT G X a w) : DW G X (.BoolOp .Or [a] pos) w := by
  obtain ⟨t, h1, h2⟩ := h.ex
  exact .of ⟨_, pw_or1 h1, h2⟩
theorem dw_and {w u : WT} (h : DT G X a w) (hr : DW G X (.BoolOp .And (b :: rest) pos) u) : DW G X (.BoolOp .And (a :: b :: rest) pos) (wAndT w u) := by
  obtain ⟨t, h1, h2⟩ := h.ex
  obtain ⟨t', r1, r2⟩ := hr.ex
  refine .of ⟨_, pw_and h1 r1, fun b σ H F ρ post I hw Q q => h2 b σ H F ρ _ I hw _ fun k H1 F1 ρ1 s1 I1 h1 => ?_⟩
  cases k with
  | true => exact r2 b σ H1 F1 ρ1 _ I1 h1 _ fun k' H2 F2 ρ2 s2 I2 h2 => q _ H2 F2 ρ2 (s1.trans s2) I2 h2
  | false => exact q _ H1 F1 ρ1 s1 I1 h1
theorem dw_or {w u : WT} (h : DT G X a w) (hr : DW G X (.BoolOp .Or (b :: rest) pos) u) : DW G X (.BoolOp .Or (a :: b :: rest) pos) (wOrT w u) := by
  obtain ⟨t, h1, h2⟩ := h.ex
  obtain ⟨t', r1, r2⟩ := hr.ex
  refine .of ⟨_, pw_or h1 r1, fun b σ H F ρ post I hw Q q => h2 b σ H F ρ _ I hw _ fun k H1 F1 ρ1 s1 I1 h1 => ?_⟩
  cases k with
  | false => exact r2 b σ H1 F1 ρ1 _ I1 h1 _ fun k' H2 F2 ρ2 s2 I2 h2 => q _ H2 F2 ρ2 (s1.trans s2) I2 h2
  | true => exact q _ H1 F1 ρ1 s1 I1 h1
theorem DW.dt {w : WT} (h : DW G X a w) : DT G X a w := by
  obtain ⟨t, h1, h2⟩ := h.ex
  exact .of ⟨_, h1.pt, h2⟩
/-- and, or, not as values (bools) -/
def wAnd (wa wb : WE) : WE := fun ρ post => wa ρ fun ρ1 d => match d with
  | .bl true => wb ρ1 post
  | .bl false => post ρ1 (.bl false)
  | _ => False
def wOr (wa wb : WE) : WE := fun ρ post => wa ρ fun ρ1 d => match d with
  | .bl true => post ρ1 (.bl true)
  | .bl false => wb ρ1 post
  | _ => False
def wNotV (wa : WE) : WE := fun ρ post => wa ρ fun ρ1 d => match d with
  | .bl k => post ρ1 (.bl (!k))
  | _ => False
theorem d_one {op} (h : DE G X a wa) : DE G X (.BoolOp op [a] pos) wa := by
  obtain ⟨t, h1, h2⟩ := h.ex
  exact .of ⟨_, pe_one h1, h2⟩
theorem d_and (h : DE G X a wa) (hr : DE G X (.BoolOp .And (b :: rest) pos) wb) : DE G X (.BoolOp .And (a :: b :: rest) pos) (wAnd wa wb) := by
  obtain ⟨t, h1, h2⟩ := h.ex
  obtain ⟨t', r1, r2⟩ := hr.ex
  refine .of ⟨_, pe_and h1 r1, fun b σ H F ρ post I hw Q q => h2 b σ H F ρ _ I hw _ fun v H1 F1 ρ1 d s1 I1 a1 h1 => ?_⟩
  split at h1
  · cases a1
    exact ⟨true, rfl, r2 b σ H1 F1 ρ1 _ I1 h1 _ fun v2 H2 F2 ρ2 d2 s2 I2 a2 h2 => q _ H2 F2 ρ2 d2 (s1.trans s2) I2 a2 h2⟩
  · cases a1
    exact ⟨false, rfl, q _ H1 F1 ρ1 _ s1 I1 (.bl _) h1⟩
  · exact h1.elim
theorem d_or (h : DE G X a wa) (hr : DE G X (.BoolOp .Or (b :: rest) pos) wb) : DE G X (.BoolOp .Or (a :: b :: rest) pos) (wOr wa wb) := by
  obtain ⟨t, h1, h2⟩ := h.ex
  obtain ⟨t', r1, r2⟩ := hr.ex
  refine .of ⟨_, pe_or h1 r1, fun b σ H F ρ post I hw Q q => h2 b σ H F ρ _ I hw _ fun v H1 F1 ρ1 d s1 I1 a1 h1 => ?_⟩
  split at h1
  · cases a1
    exact ⟨true, rfl, q _ H1 F1 ρ1 _ s1 I1 (.bl _) h1⟩
  · cases a1
    exact ⟨false, rfl, r2 b σ H1 F1 ρ1 _ I1 h1 _ fun v2 H2 F2 ρ2 d2 s2 I2 a2 h2 => q _ H2 F2 ρ2 d2 (s1.trans s2) I2 a2 h2⟩
  · exact h1.elim
theorem d_not (h : DE G X a wa) : DE G X (.UnaryOp .Not a pos) (wNotV wa) := by
  obtain ⟨t, h1, h2⟩ := h.ex
  refine .of ⟨_, pe_not h1, fun b σ H F ρ post I hw Q q => h2 b σ H F ρ _ I hw _ fun v H1 F1 ρ1 d s1 I1 a1 h1 => ?_⟩
  split at h1
  · cases a1
    exact ⟨_, rfl, q _ H1 F1 ρ1 _ s1 I1 (.bl _) h1⟩
  · exact h1.elim
/-- -a of an int -/
def wNeg (wa : WE) : WE := fun ρ post => wa ρ fun ρ1 d => match d with
  | .int i => post ρ1 (.int (-i))
  | _ => False
theorem d_neg (h : DE G X a wa) : DE G X (.UnaryOp .USub a pos) (wNeg wa) := by
  obtain ⟨t, h1, h2⟩ := h.ex
  refine .of ⟨_, pe_un un_neg h1, fun b σ H F ρ post I hw Q q => h2 b σ H F ρ _ I hw _ fun v H1 F1 ρ1 d s1 I1 a1 h1 => ?_⟩
  split at h1
  · cases a1
    exact ⟨_, rfl, q _ H1 F1 ρ1 _ s1 I1 (.int _) h1⟩
  · exact h1.elim
def wIf (wt : WT) (wa wb : WE) : WE := fun ρ post => wt ρ fun ρ1 k => match k with
  | true => wa ρ1 post
  | false => wb ρ1 post
theorem d_if {wt : WT} (hc : DT G X c wt) (ha : DE G X a wa) (hb : DE G X b wb) : DE G X (.IfExp c a b pos) (wIf wt wa wb) := by
  obtain ⟨t, h1, h2⟩ := hc.ex
  obtain ⟨ta, a1, a2⟩ := ha.ex
  obtain ⟨tb, b1, b2⟩ := hb.ex
  refine .of ⟨_, pe_ifExp h1 a1 b1, fun b σ H F ρ post I hw Q q => h2 b σ H F ρ _ I hw _ fun k H1 F1 ρ1 s1 I1 h1 => ?_⟩
  cases k with
  | true => exact a2 b σ H1 F1 ρ1 _ I1 h1 _ fun v2 H2 F2 ρ2 d2 s2 I2 a2 h2 => q _ H2 F2 ρ2 d2 (s1.trans s2) I2 a2 h2
  | false => exact b2 b σ H1 F1 ρ1 _ I1 h1 _ fun v2 H2 F2 ρ2 d2 s2 I2 a2 h2 => q _ H2 F2 ρ2 d2 (s1.trans s2) I2 a2 h2
end

/-! ### new lists; arguments; displays -/
section
variable {G : G0} {X : Cx} {a b c e : Expr} {es : List Expr} {wa wb wc w : WE} {pos p : Pos}
/-- a new tree, frozen at once -/
def wFz (w : WQ) : WE := fun ρ post => w ρ fun ρ1 t => post ρ1 (toD t)
/-- a value as a tree -/
def wVQ (w : WE) : WQ := fun ρ post => w ρ fun ρ1 d => post ρ1 (.v d)
theorem dq_e {w : WQ} (h : DQ G X e w) : DE G X e (wFz w) := by
  obtain ⟨t, h1, h2⟩ := h.ex
  refine .of ⟨t, h1, fun b σ H F ρ post I hw Q q => h2 b σ H F ρ _ I hw _ fun v H1 F1 ρ1 fps1 t fp s1 I1 a1 nd hf k1 => ?_⟩
  obtain ⟨F2, s2, a2, I2⟩ := I1.freezeTmp a1 hf
  exact q v H1 F2 ρ1 _ (s1.trans s2) I2.ok a2 k1
theorem de_q {w : WE} (h : DE G X e w) : DQ G X e (wVQ w) := by
  obtain ⟨t, h1, h2⟩ := h.ex
  refine .of ⟨t, h1, fun b σ H F ρ post I hw Q q => h2 b σ H F ρ _ I hw _ fun v H1 F1 ρ1 d s1 I1 a1 k1 => ?_⟩
  obtain ⟨⟨fps1, I1⟩⟩ := I1
  exact q v H1 F1 ρ1 fps1 _ [] s1 I1 (.v a1) List.nodup_nil (by simp) k1
theorem toDs_v : ∀ l : List D, toDs (l.map .v) = l
  | [] => rfl
  | d :: r => by
    show toD (.v d) :: toDs (r.map .v) = d :: r
    rw [toDs_v r]
    rfl
/-- a new list lies behind what stands -/
theorem q_new {G : Gx} {b : Bs} {σ : L2.St} {H F0 F : Hp} {ρ : Env} {r : Addr} {vs : List V} {l : List D} {post : Env → T → Prop} {Q : VK} (I : StOk G b σ H F ρ) (hr : H r = none) (a : AtL G F l vs) (s : Same F0 F)
    (q : ∀ v H' F' ρ' fps' t fp, Same F0 F' → StF G b σ H' F' ρ' fps' → AtT G F' H' t v fp → fp.Nodup → (∀ x ∈ fp, b.H0 x = none ∧ x ∉ fps'.flatten) → post ρ' t → Q v H') (h : post ρ (.lst (l.map .v))) : Q (.ref r) (upd H r (.lst vs)) := by
  obtain ⟨⟨fps, I⟩⟩ := I
  obtain ⟨I2, f1, f2, f3⟩ := I.fresh (o := .lst vs) hr
  exact q _ _ F ρ fps _ [r] s I2 (.lst upd_same f1 (AtTL.vals a)) (by simp) (fun x m => by simp at m; subst m; exact ⟨f2, f3⟩) h
def wNil : WN := fun ρ post => post ρ []
def wCons (wa : WE) (wr : WN) : WN := fun ρ post => wa ρ fun ρ1 d => wr ρ1 fun ρ2 l => post ρ2 (d :: l)
theorem da_nil : DA G X [] wNil := .of ⟨_, pa_nil, fun b σ H F ρ post I h Q q => q [] H F ρ [] (Same.refl _) I .nil h⟩
theorem da_cons {wr : WN} (ha : DE G X a wa) (hr : DA G X es wr) (hs : starEach (a :: es) X.env = (false, eval a X.env) :: starEach es X.env := by rfl) : DA G X (a :: es) (wCons wa wr) := by
  obtain ⟨ta, a1, a2⟩ := ha.ex
  obtain ⟨tr, r1, r2⟩ := hr.ex
  exact .of ⟨_, pa_cons a1 r1 hs, fun b σ H F ρ post I h Q q => a2 b σ H F ρ _ I h _ fun v H1 F1 ρ1 d s1 I1 at1 h1 => r2 b σ H1 F1 ρ1 _ I1 h1 _ fun vs H2 F2 ρ2 l s2 I2 at2 h2 =>
    q _ H2 F2 ρ2 _ (s1.trans s2) I2 (.cons (at1.up s2) at2) h2⟩
/-- the items of a list or a tuple -/
def items : D → Option (List D)
  | .tup l => some l
  | .lst l => some l
  | .scr ns => some (ns.map .int)
  | _ => none
theorem items_at {G : Gx} {F H : Hp} {d : D} {l : List D} {v : V} (s : Same F H) (a : At G F d v) (h : items d = some l) : ∃ r vs, v = .ref r ∧ (SqL G.K H r vs ∨ SqT G.K H r vs) ∧ AtL G F l vs := by
  cases d with
  | tup ds =>
    cases h
    cases a with
    | tup hs ha => exact ⟨_, _, rfl, .inr (same_t s hs), ha⟩
  | lst ds =>
    cases h
    cases a with
    | lst hs ha => exact ⟨_, _, rfl, .inl (.inl (.inl (s _ _ hs))), ha⟩
  | scr ns =>
    cases h
    cases a with
    | scr hs => exact ⟨_, _, rfl, .inl (same_l s hs), AtL.ints _⟩
  | _ => cases h
def wStar (wa : WE) (wr : WN) : WN := fun ρ post => wa ρ fun ρ1 d => match items d with
  | some l1 => wr ρ1 fun ρ2 l => post ρ2 (l1 ++ l)
  | none => False
theorem da_star {wr : WN} (ha : DE G X a wa) (hr : DA G X es wr) (hs : starEach (.Starred a p :: es) X.env = (true, eval a X.env) :: starEach es X.env := by rfl) : DA G X (.Starred a p :: es) (wStar wa wr) := by
  obtain ⟨ta, a1, a2⟩ := ha.ex
  obtain ⟨tr, r1, r2⟩ := hr.ex
  refine .of ⟨_, StX.pa_star a1 r1 hs, fun b σ H F ρ post I h Q q => a2 b σ H F ρ _ I h _ fun v H1 F1 ρ1 d s1 I1 at1 h1 => ?_⟩
  split at h1
  · rename_i l1 el
    obtain ⟨r, vs, rfl, sq, al⟩ := items_at I1.fb.sub at1 el
    exact ⟨r, vs, rfl, sq.symm, r2 b σ H1 F1 ρ1 _ I1 h1 _ fun ws H2 F2 ρ2 l s2 I2 at2 h2 => q _ H2 F2 ρ2 _ (s1.trans s2) I2 ((al.up s2).append at2) h2⟩
  · exact h1.elim
def wTup (wa : WN) : WE := fun ρ post => wa ρ fun ρ1 l => l.length ≤ 1000000 ∧ post ρ1 (.tup l)
def wLst (wa : WN) : WN := fun ρ post => wa ρ fun ρ1 l => l.length ≤ 1000000 ∧ post ρ1 l
theorem sz {n : Nat} (h : n ≤ 1000000) : n ≤ sizeLine := Nat.le_trans h (by decide)
theorem d_tup {wa : WN} {x1} (h : DA G X es wa) : DE G X (.Tuple es x1 pos) (wTup wa) := by
  obtain ⟨t, h1, h2⟩ := h.ex
  refine .of ⟨_, pe_tup h1, fun b σ H F ρ post I hw Q q => h2 b σ H F ρ _ I hw _ fun vs H1 F1 ρ1 l s1 I1 a1 h1 => ⟨by rw [← a1.length]; exact sz h1.1, fun r hr => ?_⟩⟩
  have g := Grow.add (o := .tup vs) I1.fb.sub hr
  exact q _ _ _ ρ1 _ (s1.trans g.f) (I1.grow g) (.tup (.inl (.inl upd_same)) (a1.up g.f)) h1.2
theorem dn_lst {wa : WN} (h : DA G X es wa) : DN G X (.List es pos) (wLst wa) := by
  obtain ⟨t, h1, h2⟩ := h.ex
  refine .of ⟨_, pe_lst h1, fun b σ H F ρ post I hw Q q => h2 b σ H F ρ _ I hw _ fun vs H1 F1 ρ1 l s1 I1 a1 h1 => ⟨by rw [← a1.length]; exact sz h1.1, fun r hr => ?_⟩⟩
  exact q_new I1 hr a1 s1 q h1.2
end

/-! ### calls of what is built in -/
def SndC (G : Gx) (r : List V → Hp → VK → Prop) (wr : List D → (D → Prop) → Prop) : Prop := ∀ (F H : Hp) (vs : List V) (ds : List D) (post : D → Prop), Same F H → AtL G F ds vs → wr ds post →
  ∀ Q : VK, (∀ v H' F' d, Grow F H F' H' → At G F' d v → post d → Q v H') → r vs H Q
/-- that makes a new list -/
def SndCN (G : Gx) (r : List V → Hp → VK → Prop) (wr : List D → (List D → Prop) → Prop) : Prop := ∀ (F H : Hp) (vs : List V) (ds : List D) (post : List D → Prop), Same F H → AtL G F ds vs → wr ds post →
  ∀ Q : VK, (∀ p ws l, H p = none → AtL G F l ws → post l → Q (.ref p) (upd H p (.lst ws))) → r vs H Q
structure DC (G : G0) (X : Cx) (f : Value) (wr : List D → (D → Prop) → Prop) : Prop where
  ex : ∃ r, CallR X f r ∧ SndC (gx X G) r wr
structure DCN (G : G0) (X : Cx) (f : Value) (wr : List D → (List D → Prop) → Prop) : Prop where
  ex : ∃ r, CallR X f r ∧ SndCN (gx X G) r wr
def wCB (wr : List D → (D → Prop) → Prop) (wa : WN) : WE := fun ρ post => wa ρ fun ρ1 ds => wr ds (post ρ1)
def wCBN (wr : List D → (List D → Prop) → Prop) (wa : WN) : WN := fun ρ post => wa ρ fun ρ1 ds => wr ds (post ρ1)
theorem snd_cb {G : Gx} {r : List V → Hp → VK → Prop} {wr : List D → (D → Prop) → Prop} {t : TA} {wa : WN} (hc : SndC G r wr) (ha : SndA G t wa) : SndE G (tCB r t) (wCB wr wa) := fun b σ H F ρ post I h Q q =>
  ha b σ H F ρ _ I h _ fun vs H1 F1 ρ1 ds s1 I1 a1 h1 => hc F1 H1 vs ds _ I1.fb.sub a1 h1 _ fun v H2 F2 d g a2 h2 => q v H2 F2 ρ1 d (s1.trans g.f) (I1.grow g) a2 h2
theorem snd_cbn {G : Gx} {r : List V → Hp → VK → Prop} {wr : List D → (List D → Prop) → Prop} {t : TA} {wa : WN} (hc : SndCN G r wr) (ha : SndA G t wa) : SndQ G (tCB r t) (wNQ (wCBN wr wa)) := fun b σ H F ρ post I h Q q =>
  ha b σ H F ρ _ I h _ fun vs H1 F1 ρ1 ds s1 I1 a1 h1 => hc F1 H1 vs ds _ I1.fb.sub a1 h1 _ fun p ws l n a2 h2 => q_new I1 n a2 s1 q h2
section
variable {G : G0} {X : Cx} {x : Str} {p pos : Pos} {e : Expr} {es : List Expr} {id T : String} {wa : WN}
theorem d_callB {wr : List D → (D → Prop) → Prop} (hc : DC G X (.builtin id) wr) (hg : Gl X x) (hm : X.mg x = none) (hv : bootBuiltins x = some (.builtin id)) (ha : DA G X (e :: es) wa) (hn : x ≠ "__name__" := by decide) (hdb : (x == ("__debug__" : Str)) = false := by decide)
    (he : starEach (e :: es) X.env = (false, eval e X.env) :: starEach es X.env := by rfl) (hpl : (backTo pos (starEach es X.env)).any (·.1) = false := by rfl) : DE G X (.Call (.Name x p) (e :: es) [] pos) (wCB wr wa) := by
  obtain ⟨r, c1, c2⟩ := hc.ex
  obtain ⟨t, a1, a2⟩ := ha.ex
  exact .of ⟨_, pe_callB c1 hg hm hv a1 hn hdb he hpl, snd_cb c2 a2⟩
theorem d_callT {wr : List D → (D → Prop) → Prop} (hc : DC G X (.type T) wr) (hg : Gl X x) (hm : X.mg x = none) (hv : bootBuiltins x = some (.type T)) (ha : DA G X (e :: es) wa) (hn : x ≠ "__name__" := by decide) (hdb : (x == ("__debug__" : Str)) = false := by decide)
    (he : starEach (e :: es) X.env = (false, eval e X.env) :: starEach es X.env := by rfl) (hpl : (backTo pos (starEach es X.env)).any (·.1) = false := by rfl) : DE G X (.Call (.Name x p) (e :: es) [] pos) (wCB wr wa) := by
  obtain ⟨r, c1, c2⟩ := hc.ex
  obtain ⟨t, a1, a2⟩ := ha.ex
  exact .of ⟨_, pe_callTy c1 hg hm hv a1 hn hdb he hpl, snd_cb c2 a2⟩
theorem dn_callB {wr : List D → (List D → Prop) → Prop} (hc : DCN G X (.builtin id) wr) (hg : Gl X x) (hm : X.mg x = none) (hv : bootBuiltins x = some (.builtin id)) (ha : DA G X (e :: es) wa) (hn : x ≠ "__name__" := by decide) (hdb : (x == ("__debug__" : Str)) = false := by decide)
    (he : starEach (e :: es) X.env = (false, eval e X.env) :: starEach es X.env := by rfl) (hpl : (backTo pos (starEach es X.env)).any (·.1) = false := by rfl) : DN G X (.Call (.Name x p) (e :: es) [] pos) (wCBN wr wa) := by
  obtain ⟨r, c1, c2⟩ := hc.ex
  obtain ⟨t, a1, a2⟩ := ha.ex
  exact .of ⟨_, pe_callB c1 hg hm hv a1 hn hdb he hpl, snd_cbn c2 a2⟩
theorem dn_callT {wr : List D → (List D → Prop) → Prop} (hc : DCN G X (.type T) wr) (hg : Gl X x) (hm : X.mg x = none) (hv : bootBuiltins x = some (.type T)) (ha : DA G X (e :: es) wa) (hn : x ≠ "__name__" := by decide) (hdb : (x == ("__debug__" : Str)) = false := by decide)
    (he : starEach (e :: es) X.env = (false, eval e X.env) :: starEach es X.env := by rfl) (hpl : (backTo pos (starEach es X.env)).any (·.1) = false := by rfl) : DN G X (.Call (.Name x p) (e :: es) [] pos) (wCBN wr wa) := by
  obtain ⟨r, c1, c2⟩ := hc.ex
  obtain ⟨t, a1, a2⟩ := ha.ex
  exact .of ⟨_, pe_callTy c1 hg hm hv a1 hn hdb he hpl, snd_cbn c2 a2⟩
end
def intsOf : List D → Option (List Int)
  | [] => some []
  | .int i :: r => (intsOf r).map (i :: ·)
  | _ => none
theorem intsOf_eq : ∀ {l : List D} {ns : List Int}, intsOf l = some ns → l = ns.map D.int
  | [], _, h => by cases h; rfl
  | .int i :: r, ns, h => by
    have h' : (intsOf r).map (i :: ·) = some ns := h
    cases e : intsOf r with
    | none => rw [e] at h'; cases h'
    | some ms =>
      rw [e] at h'
      cases h'
      rw [intsOf_eq e]
      rfl
  | .non :: _, _, h => by cases h
  | .bl _ :: _, _, h => by cases h
  | .str _ :: _, _, h => by cases h
  | .tup _ :: _, _, h => by cases h
  | .lst _ :: _, _, h => by cases h
  | .obj _ _ :: _, _, h => by cases h
  | .dic _ _ :: _, _, h => by cases h
  | .scr _ :: _, _, h => by cases h
theorem intsOf_map : ∀ ns : List Int, intsOf (ns.map D.int) = some ns
  | [] => rfl
  | n :: r => by
    show (intsOf (r.map D.int)).map (n :: ·) = some (n :: r)
    rw [intsOf_map r]
    rfl
def blsOf : List D → Option (List Bool)
  | [] => some []
  | .bl i :: r => (blsOf r).map (i :: ·)
  | _ => none
theorem blsOf_eq : ∀ {l : List D} {ns : List Bool}, blsOf l = some ns → l = ns.map D.bl
  | [], _, h => by cases h; rfl
  | .bl i :: r, ns, h => by
    have h' : (blsOf r).map (i :: ·) = some ns := h
    cases e : blsOf r with
    | none => rw [e] at h'; cases h'
    | some ms =>
      rw [e] at h'
      cases h'
      rw [blsOf_eq e]
      rfl
  | .non :: _, _, h => by cases h
  | .int _ :: _, _, h => by cases h
  | .str _ :: _, _, h => by cases h
  | .tup _ :: _, _, h => by cases h
  | .lst _ :: _, _, h => by cases h
  | .obj _ _ :: _, _, h => by cases h
  | .dic _ _ :: _, _, h => by cases h
  | .scr _ :: _, _, h => by cases h
theorem blsOf_map : ∀ ns : List Bool, blsOf (ns.map D.bl) = some ns
  | [] => rfl
  | n :: r => by
    show (blsOf (r.map D.bl)).map (n :: ·) = some (n :: r)
    rw [blsOf_map r]
    rfl
def w1 (f : D → (D → Prop) → Prop) : List D → (D → Prop) → Prop := fun ds post => match ds with
  | [d] => f d post
  | _ => False
def w1N (f : D → (List D → Prop) → Prop) : List D → (List D → Prop) → Prop := fun ds post => match ds with
  | [d] => f d post
  | _ => False
def w2 (f : D → D → (D → Prop) → Prop) : List D → (D → Prop) → Prop := fun ds post => match ds with
  | [d, e] => f d e post
  | _ => False
theorem sndc_1 {G : Gx} {r : List V → Hp → VK → Prop} {f : D → (D → Prop) → Prop} (h : ∀ (F H : Hp) (v : V) (d : D) (post : D → Prop), Same F H → At G F d v → f d post → ∀ Q : VK, (∀ v H' F' d, Grow F H F' H' → At G F' d v → post d → Q v H') → r [v] H Q) : SndC G r (w1 f) := fun F H vs ds post s a hw Q q => by
  unfold w1 at hw
  split at hw
  · obtain ⟨v, rfl, a'⟩ := a.one
    exact h F H v _ post s a' hw Q q
  · exact hw.elim
theorem sndcn_1 {G : Gx} {r : List V → Hp → VK → Prop} {f : D → (List D → Prop) → Prop} (h : ∀ (F H : Hp) (v : V) (d : D) (post : List D → Prop), Same F H → At G F d v → f d post → ∀ Q : VK, (∀ p ws l, H p = none → AtL G F l ws → post l → Q (.ref p) (upd H p (.lst ws))) → r [v] H Q) : SndCN G r (w1N f) := fun F H vs ds post s a hw Q q => by
  unfold w1N at hw
  split at hw
  · obtain ⟨v, rfl, a'⟩ := a.one
    exact h F H v _ post s a' hw Q q
  · exact hw.elim
theorem sndc_2 {G : Gx} {r : List V → Hp → VK → Prop} {f : D → D → (D → Prop) → Prop} (h : ∀ (F H : Hp) (v u : V) (d e : D) (post : D → Prop), Same F H → At G F d v → At G F e u → f d e post → ∀ Q : VK, (∀ v H' F' d, Grow F H F' H' → At G F' d v → post d → Q v H') → r [v, u] H Q) : SndC G r (w2 f) := fun F H vs ds post s a hw Q q => by
  unfold w2 at hw
  split at hw
  · obtain ⟨v, u, rfl, a1, a2⟩ := a.two
    exact h F H v u _ _ post s a1 a2 hw Q q
  · exact hw.elim
/-- the reading of a call on the items of one list or tuple -/
def wItems (f : List D → (D → Prop) → Prop) : D → (D → Prop) → Prop := fun d post => match items d with
  | some l => f l post
  | none => False
def wLen : List D → (D → Prop) → Prop := w1 (wItems fun l post => post (.int l.length))
/-- sum, max, .. want a list -/
def wInts (f : List Int → (D → Prop) → Prop) : D → (D → Prop) → Prop := fun d post => match d with
  | .lst l => (match intsOf l with
    | some ns => f ns post
    | none => False)
  | _ => False
def wBls (f : List Bool → (D → Prop) → Prop) : D → (D → Prop) → Prop := fun d post => match d with
  | .lst l => (match blsOf l with
    | some ns => f ns post
    | none => False)
  | _ => False
def wSum : List D → (D → Prop) → Prop := w1 (wInts fun ns post => post (.int ns.sum))
def wMaxL : List D → (D → Prop) → Prop := w1 (wInts fun ns post => 0 < ns.length ∧ ∀ m, m ∈ ns → (∀ y, y ∈ ns → y ≤ m) → post (.int m))
def wMinL : List D → (D → Prop) → Prop := w1 (wInts fun ns post => 0 < ns.length ∧ ∀ m, m ∈ ns → (∀ y, y ∈ ns → m ≤ y) → post (.int m))
def wAll : List D → (D → Prop) → Prop := w1 (wBls fun ns post => post (.bl (ns.all id)))
def wAny : List D → (D → Prop) → Prop := w1 (wBls fun ns post => post (.bl (ns.any id)))
def wMax2 : List D → (D → Prop) → Prop := w2 (wI0 fun i j => .int (if j > i then j else i))
def wMin2 : List D → (D → Prop) → Prop := w2 (wI0 fun i j => .int (if j < i then j else i))
def wInt1 : List D → (D → Prop) → Prop := w1 fun d post => match d with
  | .int i => post (.int i)
  | .bl k => post (.int (if k = true then 1 else 0))
  | _ => False
def wAbs : List D → (D → Prop) → Prop := w1 fun d post => match d with
  | .int i => post (.int (if i < 0 then -i else i))
  | _ => False
def wTupOf : List D → (D → Prop) → Prop := w1 (wItems fun l post => post (.tup l))
def wLstOf : List D → (List D → Prop) → Prop := w1N fun d post => match items d with
  | some l => post l
  | none => False
section
variable {G : G0} {X : Cx}
theorem sndc_ints {G : Gx} {r : List V → Hp → VK → Prop} {f : List Int → (D → Prop) → Prop} (h : ∀ (F H : Hp) (a : Addr) (ns : List Int) (post : D → Prop), Same F H → SqL G.K H a (ns.map V.int) → f ns post → ∀ Q : VK, (∀ v H' F' d, Grow F H F' H' → At G F' d v → post d → Q v H') → r [.ref a] H Q) : SndC G r (w1 (wInts f)) :=
  sndc_1 fun F H v d post s a hw Q q => by
    unfold wInts at hw
    split at hw
    · split at hw
      · rename_i l _ ns e
        have e' := intsOf_eq e
        subst e'
        cases a with
        | lst hs ha =>
          rw [ha.ints_inv] at hs
          exact h F H _ ns post s (.inl (.inl (s _ _ hs))) hw Q q
      · exact hw.elim
    · exact hw.elim
theorem sndc_bls {G : Gx} {r : List V → Hp → VK → Prop} {f : List Bool → (D → Prop) → Prop} (h : ∀ (F H : Hp) (a : Addr) (ns : List Bool) (post : D → Prop), Same F H → SqL G.K H a (ns.map V.bl) → f ns post → ∀ Q : VK, (∀ v H' F' d, Grow F H F' H' → At G F' d v → post d → Q v H') → r [.ref a] H Q) : SndC G r (w1 (wBls f)) :=
  sndc_1 fun F H v d post s a hw Q q => by
    unfold wBls at hw
    split at hw
    · split at hw
      · rename_i l _ ns e
        have e' := blsOf_eq e
        subst e'
        cases a with
        | lst hs ha =>
          rw [ha.bls_inv] at hs
          exact h F H _ ns post s (.inl (.inl (s _ _ hs))) hw Q q
      · exact hw.elim
    · exact hw.elim
theorem dc_len : DC G X (.builtin "len") wLen := ⟨_, call_len_seq, sndc_1 fun F H v d post s a hw Q q => by
  unfold wItems at hw
  split at hw
  · rename_i l e
    obtain ⟨r, vs, rfl, sq, al⟩ := items_at s a e
    refine ⟨r, vs, rfl, sq, q _ H F _ (Grow.refl s) ?_ hw⟩
    rw [al.length]
    exact .int _
  · exact hw.elim⟩
theorem dc_sum (hc : X.calm = true) : DC G X (.builtin "sum") wSum := ⟨_, cr_sum hc, sndc_ints fun F H a ns post s sq hw Q q => ⟨a, ns, rfl, sq, q _ H F _ (Grow.refl s) (.int _) hw⟩⟩
theorem dc_max (hc : X.calm = true) : DC G X (.builtin "max") wMaxL := ⟨_, cr_max hc, sndc_ints fun F H a ns post s sq hw Q q => ⟨a, ns, rfl, sq, hw.1, fun m m1 m2 => q _ H F _ (Grow.refl s) (.int m) (hw.2 m m1 m2)⟩⟩
theorem dc_min (hc : X.calm = true) : DC G X (.builtin "min") wMinL := ⟨_, cr_min hc, sndc_ints fun F H a ns post s sq hw Q q => ⟨a, ns, rfl, sq, hw.1, fun m m1 m2 => q _ H F _ (Grow.refl s) (.int m) (hw.2 m m1 m2)⟩⟩
theorem dc_all (hc : X.calm = true) : DC G X (.builtin "all") wAll := ⟨_, cr_all hc, sndc_bls fun F H a ns post s sq hw Q q => ⟨a, ns, rfl, sq, q _ H F _ (Grow.refl s) (.bl _) hw⟩⟩
theorem dc_any (hc : X.calm = true) : DC G X (.builtin "any") wAny := ⟨_, cr_any hc, sndc_bls fun F H a ns post s sq hw Q q => ⟨a, ns, rfl, sq, q _ H F _ (Grow.refl s) (.bl _) hw⟩⟩
theorem dc_max2 (hc : X.calm = true) : DC G X (.builtin "max") wMax2 := ⟨_, call_max2 hc, sndc_2 fun F H v u d e post s a1 a2 hw Q q => by
  unfold wI0 at hw
  split at hw
  · cases a1; cases a2
    exact ⟨_, _, rfl, q _ H F _ (Grow.refl s) (.int _) hw⟩
  · exact hw.elim⟩
theorem dc_min2 (hc : X.calm = true) : DC G X (.builtin "min") wMin2 := ⟨_, call_min2 hc, sndc_2 fun F H v u d e post s a1 a2 hw Q q => by
  unfold wI0 at hw
  split at hw
  · cases a1; cases a2
    exact ⟨_, _, rfl, q _ H F _ (Grow.refl s) (.int _) hw⟩
  · exact hw.elim⟩
theorem dc_int : DC G X (.type "int") wInt1 := ⟨_, call_int1, sndc_1 fun F H v d post s a hw Q q => by
  split at hw
  · cases a; exact .inl ⟨_, rfl, q _ H F _ (Grow.refl s) (.int _) hw⟩
  · cases a; exact .inr ⟨_, rfl, q _ H F _ (Grow.refl s) (.int _) hw⟩
  · exact hw.elim⟩
theorem dc_abs : DC G X (.builtin "abs") wAbs := ⟨_, call_abs, sndc_1 fun F H v d post s a hw Q q => by
  split at hw
  · cases a; exact ⟨_, rfl, q _ H F _ (Grow.refl s) (.int _) hw⟩
  · exact hw.elim⟩
theorem dc_tuple : DC G X (.type "tuple") wTupOf := ⟨_, call_tuple_of, sndc_1 fun F H v d post s a hw Q q => by
  unfold wItems at hw
  split at hw
  · rename_i l e
    cases d with
    | tup ds =>
      cases e
      cases a with
      | tup hs ha => exact ⟨_, _, rfl, .inr ⟨same_t s hs, q _ H F _ (Grow.refl s) (.tup hs ha) hw⟩⟩
    | lst ds =>
      cases e
      cases a with
      | @lst a0 vs0 _ hs ha =>
        refine ⟨_, _, rfl, .inl ⟨.inl (.inl (s _ _ hs)), fun r hr => ?_⟩⟩
        have g := Grow.add (o := .tup vs0) s hr
        exact q _ _ _ _ g (.tup (.inl (.inl upd_same)) (ha.up g.f)) hw
    | scr ns =>
      cases e
      cases a with
      | @scr a0 _ hs =>
        refine ⟨_, _, rfl, .inl ⟨same_l s hs, fun r hr => ?_⟩⟩
        have g := Grow.add (o := .tup (ns.map V.int)) s hr
        exact q _ _ _ _ g (.tup (.inl (.inl upd_same)) (AtL.ints _)) hw
    | _ => cases e
  · exact hw.elim⟩
theorem dcn_list : DCN G X (.type "list") wLstOf := ⟨_, call_list_of, sndcn_1 fun F H v d post s a hw Q q => by
  split at hw
  · rename_i l e
    obtain ⟨r, vs, rfl, sq, al⟩ := items_at s a e
    exact ⟨r, vs, rfl, sq, fun p hp => q p vs l hp al hw⟩
  · exact hw.elim⟩
end
end J


set_option Elab.async false
set_option linter.all false
set_option maxRecDepth 100000
set_option maxHeartbeats 4000000
namespace J
open PySem PySem.Spec PyProof.Rows L2

/-! ### a list or a tuple, told by its kind (true: a tuple) -/
def SqK (k : Bool) (K : PySem.W.Frag) (H : Hp) (a : Addr) (xs : List V) : Prop := match k with
  | true => SqT K H a xs
  | false => SqL K H a xs
def HasK (k : Bool) (h : Heap) (a : Addr) (its : Array Value) : Prop := match k with
  | true => h.IsTuple a its
  | false => h.IsList a its
def IterK (k : Bool) (h : Heap) (it a : Addr) (i : Nat) : Prop := match k with
  | true => h.IsTupleIter it a i
  | false => h.IsListIter it a i
def itK (k : Bool) (a : Addr) : Obj := match k with
  | true => { cls := .type "tuple_iterator", data := .fields #[.ref a, .int 0 0] }
  | false => { cls := .type "list_iterator", data := .fields #[.ref a, .int 0 0] }
section
variable {X : Cx} {pins : List (Addr × Obj)} {σ : L2.St} {H : Hp} {s : Shared} {a : Addr} {xs ys : List V} {k : Bool}
theorem inv_seqK (I : Inv X pins σ H s) (h : SqK k X.K H a xs) : ∃ its : List Value, Vals xs its ∧ HasK k s.heap a its.toArray ∧ xs.length ≤ sizeLine ∧ a < s.heap.objs.size := by
  cases k with
  | true =>
    obtain ⟨its, r, p, z⟩ := I.tuple h
    obtain ⟨o, ho, _⟩ := id p
    exact ⟨its, r, p, z, Heap.lt_size ho⟩
  | false =>
    obtain ⟨its, r, p, z⟩ := I.list h
    exact ⟨its, r, p.isList, z, p.lt⟩
theorem inv_seqK_inj (I : Inv X pins σ H s) (h : SqK k X.K H a xs) (h' : SqK k X.K H a ys) : xs = ys := by
  cases k with
  | true => exact I.tuple_inj h h'
  | false => exact I.list_inj h h'
theorem iterK_at {h h' : Heap} {it : Addr} {i : Nat} (x : IterK k h it a i) (f : ∀ o, h.get? it = some o → h'.get? it = some o) : IterK k h' it a i := by
  cases k with
  | true => exact Heap.IsTupleIter.at x f
  | false => exact Heap.IsListIter.at x f
theorem iterK_get {h : Heap} {it : Addr} {i : Nat} (x : IterK k h it a i) : ∃ o, h.get? it = some o ∧ ∀ v, o.data ≠ .cell v := by
  cases k with
  | true => obtain ⟨o, e, _, d⟩ := x; exact ⟨o, e, fun v q => by rw [d] at q; cases q⟩
  | false => obtain ⟨o, e, _, d⟩ := x; exact ⟨o, e, fun v q => by rw [d] at q; cases q⟩
theorem iterK_new {h : Heap} {it : Addr} (e : h.get? it = some (itK k a)) : IterK k h it a 0 := by
  cases k with
  | true => exact ⟨_, e, rfl, rfl⟩
  | false => exact ⟨_, e, rfl, rfl⟩
theorem hasK_ne {h : Heap} {its : Array Value} {it : Addr} {i : Nat} {k' : Bool} {a' : Addr} (p : HasK k h a its) (q : IterK k' h it a' i) : a ≠ it := by
  intro e
  subst e
  cases k with
  | true =>
    obtain ⟨o, ho, hcl, _⟩ := p
    cases k' with
    | true => obtain ⟨o', ho', hcl', _⟩ := q; rw [ho] at ho'; cases ho'; rw [hcl] at hcl'; exact absurd (Value.type.inj hcl') (by decide)
    | false => obtain ⟨o', ho', hcl', _⟩ := q; rw [ho] at ho'; cases ho'; rw [hcl] at hcl'; exact absurd (Value.type.inj hcl') (by decide)
  | false =>
    obtain ⟨o, ho, hcl, _⟩ := p
    cases k' with
    | true => obtain ⟨o', ho', hcl', _⟩ := q; rw [ho] at ho'; cases ho'; rw [hcl] at hcl'; exact absurd (Value.type.inj hcl') (by decide)
    | false => obtain ⟨o', ho', hcl', _⟩ := q; rw [ho] at ho'; cases ho'; rw [hcl] at hcl'; exact absurd (Value.type.inj hcl') (by decide)
theorem drawsK {prog : Program} {w : World} {A : Around} (hh : A.handled = none) (it a : Addr) (hne : a ≠ it) (items : Array Value) :
    Draws prog w A it [it, a] items.size (fun i v => items[i]? = some v) (fun i h => IterK k h it a i ∧ HasK k h a items) := by
  cases k with
  | true => exact Draws.tuple hh it a hne items
  | false => exact Draws.list hh it a hne items
theorem beginsK (a : Addr) (items : Array Value) : Begins (.ref a) (itK k a) (fun h => HasK k h a items) := by
  cases k with
  | true => exact begins_tuple a items
  | false => exact begins_list a items
end

/-! ### zip(a, b), each a list or a tuple -/
def ItzK (K : PySem.W.Frag) (k1 : Bool) (a : Addr) (k2 : Bool) (b : Addr) : It :=
  ⟨fun i H => ∃ (xs ys : List V) (x y : V), SqK k1 K H a xs ∧ SqK k2 K H b ys ∧ xs[i]? = some x ∧ ys[i]? = some y,
    fun i H v H' => ∃ T x y, v = .ref T ∧ H T = none ∧ H' = upd H T (.tup [x, y]) ∧ (∀ xs, SqK k1 K H a xs → xs[i]? = some x) ∧ ∀ ys, SqK k2 K H b ys → ys[i]? = some y,
    fun i H => ∃ xs ys : List V, SqK k1 K H a xs ∧ SqK k2 K H b ys ∧ i ≤ xs.length ∧ i ≤ ys.length ∧ (xs.length = i ∨ ys.length = i)⟩
theorem turn_zipK {P : Program} {w : World} {K : PySem.W.Frag} {elts : List Expr} {kk : Nat} {tpos : Pos} {a b z TI TO i1 i2 : Addr} {k1 k2 : Bool} (D : ZipSep2 z TI TO i1 i2 [i1, a] [i2, b]) :
    Turn P w K (.Tuple elts kk tpos) (ItzK K k1 a k2 b) [z, TI, TO, i1, i2] z (fun i h => IsZip h z TI TO .none ∧ IsTupOf2 h TI (.ref i1) (.ref i2) ∧ (∃ x y, IsTupOf2 h TO x y) ∧ IterK k1 h i1 a i ∧ IterK k2 h i2 b i) where
  mem := by simp
  obj := fun i h st c hc => by
    obtain ⟨hz, hTI, ⟨x, y, hTO⟩, h1, h2⟩ := st
    have e' : c = z ∨ c = TI ∨ c = TO ∨ c = i1 ∨ c = i2 := by simpa using hc
    rcases e' with q | q | q | q | q
    · rw [q]; exact ⟨_, hz, fun v q => nomatch q⟩
    · rw [q]; exact ⟨_, hTI, fun v q => nomatch q⟩
    · rw [q]; exact ⟨_, hTO, fun v q => nomatch q⟩
    · rw [q]; exact iterK_get h1
    · rw [q]; exact iterK_get h2
  keep := fun i h h' st k => by
    obtain ⟨hz, hTI, ⟨x, y, hTO⟩, h1, h2⟩ := st
    exact ⟨k z (by simp) _ hz, k TI (by simp) _ hTI, ⟨x, y, k TO (by simp) _ hTO⟩, iterK_at h1 fun o q => k i1 (by simp) o q, iterK_at h2 fun o q => k i2 (by simp) o q⟩
  item := by
    intro X hP hw hK hc i pins s σ H E I hf st hg
    subst hP hw hK
    obtain ⟨hz, hTI, ⟨x0, y0, hTO⟩, h1, h2⟩ := st
    obtain ⟨xs, ys, x, y, hqx, hqy, hx, hy⟩ := hg
    obtain ⟨its, rv, p, _, la⟩ := inv_seqK I hqx
    obtain ⟨its2, rv2, p2, _, lb⟩ := inv_seqK I hqy
    obtain ⟨u, hu, ru⟩ := rv.get hx
    obtain ⟨u2, hu2, ru2⟩ := rv2.get hy
    have hzl : z < s.heap.objs.size := Heap.lt_size hz
    have hh : X.A.in1.handled = none := I.ok.hd hc
    have n1 : a ≠ i1 := hasK_ne p h1
    have n2 : b ≠ i2 := hasK_ne p2 h2
    have hlt1 : i < its.toArray.size := by
      have := (List.getElem?_eq_some_iff.mp hu).1
      simpa using this
    have hlt2 : i < its2.toArray.size := by
      have := (List.getElem?_eq_some_iff.mp hu2).1
      simpa using this
    refine wpAny_pyNext_zipD2_item (prog := X.prog) (w := X.w) D (drawsK hh i1 a n1 its.toArray) (drawsK hh i2 b n2 its2.toArray) hz hTI hTO ⟨h1, p⟩ ⟨h2, p2⟩ hlt1 hlt2 fun x1 x2 h' tk q1 q2 z' TO' s1 s2 hT hsz hk => ?_
    have e1 : x1 = u := by
      have : its.toArray[i]? = some u := by simpa using hu
      rw [this] at q1; exact (Option.some.inj q1).symm
    have e2 : x2 = u2 := by
      have : its2.toArray[i]? = some u2 := by simpa using hu2
      rw [this] at q2; exact (Option.some.inj q2).symm
    subst e1 e2
    refine ⟨_, rfl, wpAny_letOwnedTupleGo_zip (s := { s with heap := h', toks := tk }) z' fun h'' z'' sb => ?_⟩
    have hT2 : h''.get? s.heap.objs.size = some { cls := .type "tuple", data := .seq #[x1, x2] } := (sb.2 _ (Nat.ne_of_gt hzl)).trans hT
    have new : ObjOk X.prog X.w (upd H s.heap.objs.size (.tup [x, y])) h'' s.heap.objs.size (.tup [x, y]) :=
      ⟨by show 2 ≤ sizeLine; decide, [x1, x2], .cons ru (.cons ru2 .nil), ⟨_, hT2, rfl, _, rfl⟩⟩
    have I1 : Inv X pins σ (upd H s.heap.objs.size (.tup [x, y])) { s with heap := h'', toks := tk } :=
      I.turnedNew (t' := tk) (ch := [z, TI, TO, i1, i2]) (fun c o hb q => (sb.2 c (fun q' => hb (by simp [q']))).trans (hk c o (fun q' => hb (by simp [q'])) (fun q' => hb (by simp [q'])) (fun q' => hb (by simp [q'])) (fun q' => hb (by simp [q'])) q)) hf (Nat.le_refl _) new
    refine ⟨.ref s.heap.objs.size, _, I1, rfl, ⟨_, x, y, rfl, I.hok.fresh (Nat.le_refl _), rfl, fun l hl => by rw [inv_seqK_inj I hl hqx]; exact hx, fun l hl => by rw [inv_seqK_inj I hl hqy]; exact hy⟩, ⟨z'', ?_, ⟨x1, x2, ?_⟩, ?_, ?_⟩, fun c hcm => ?_⟩
    · exact (sb.2 _ D.TIz).trans (hk _ _ D.TIz D.TITO D.TIi1 D.TIi2 hTI)
    · exact (sb.2 _ D.TOz).trans TO'
    · exact iterK_at s1.1 fun o q => (sb.2 _ D.zi1.symm).trans q
    · exact iterK_at s2.1 fun o q => (sb.2 _ D.zi2.symm).trans q
    · have hlt : c < s.heap.objs.size := by
        have e' : c = z ∨ c = TI ∨ c = TO ∨ c = i1 ∨ c = i2 := by simpa using hcm
        rcases e' with q | q | q | q | q
        · rw [q]; exact hzl
        · rw [q]; exact Heap.lt_size hTI
        · rw [q]; exact Heap.lt_size hTO
        · rw [q]; obtain ⟨_, e1, _⟩ := iterK_get h1; exact Heap.lt_size e1
        · rw [q]; obtain ⟨_, e2, _⟩ := iterK_get h2; exact Heap.lt_size e2
      rw [upd_ne (Nat.ne_of_lt hlt)]
      exact (hf c hcm).1
  done := by
    intro X hP hw hK hc i pins s σ H E I hf st hg
    subst hP hw hK
    obtain ⟨hz, hTI, ⟨x0, y0, hTO⟩, h1, h2⟩ := st
    obtain ⟨xs, ys, hqx, hqy, hi1, hi2, hend⟩ := hg
    obtain ⟨its, rv, p, _, la⟩ := inv_seqK I hqx
    obtain ⟨its2, rv2, p2, _, lb⟩ := inv_seqK I hqy
    have l1 := rv.length
    have l2 := rv2.length
    have hh : X.A.in1.handled = none := I.ok.hd hc
    have n1 : a ≠ i1 := hasK_ne p h1
    have n2 : b ≠ i2 := hasK_ne p2 h2
    refine wpAny_pyNext_zipD2_end (prog := X.prog) (w := X.w) D (drawsK hh i1 a n1 its.toArray) (drawsK hh i2 b n2 its2.toArray) hz hTI hTO ⟨h1, p⟩ ⟨h2, p2⟩ (by simp; omega) (by simp; omega) (by simp; omega) fun h' tk hk => ⟨rfl, I.turnedL (t' := tk) (ch := [z, TI, TO, i1, i2]) (fun c o hb q =>
      hk c o (fun q' => hb (by simp [q'])) (fun q' => hb (by simp [q'])) (fun q' => hb (by simp [q'])) (fun q' => hb (by simp [q'])) q) hf⟩
  self := fun A i s Q E st h => wpAny_pyIter_zip st.1 h
def iZipK (K : PySem.W.Frag) (ta : TA) : TI := fun σ H R => ta σ H fun vs H1 => ∃ k1 a k2 b xs ys, vs = [.ref a, .ref b] ∧ SqK k1 K H1 a xs ∧ SqK k2 K H1 b ys ∧ (xs.length ≤ sizeLine → R (ItzK K k1 a k2 b) H1)
theorem pi_zipK {X : Cx} {e e2 : Expr} {ta : TA} {p pos tpos : Pos} {elts : List Expr} {kk : Nat} (hg : Gl X "zip") (hm : X.mg "zip" = none) (ha : PA X [e, e2] ta)
    (hs : starEach [e, e2] X.env = (false, eval e X.env) :: starEach [e2] X.env := by rfl) (hpl : (backTo pos (starEach [e2] X.env)).any (·.1) = false := by rfl) :
    PI X (.Tuple elts kk tpos) (.Call (.Name "zip" p) [e, e2] [] pos) (iZipK X.K ta) := by
  refine ⟨fun pins s σ H R I h => ?_⟩
  refine Call_ (ld_blt I hg hm PyProof.Rows.boot_zip (PyProof.Rows.callWith_type1 (thn (ha.run pos pins s σ H _ I h) fun us s1 ⟨vs, H1, I1, r1, q1⟩ => ?_) hs hpl))
  obtain ⟨k1, a, k2, b, xs, ys, ex, hqx, hqy, q⟩ := q1
  subst ex
  cases r1 with
  | cons r rr =>
    cases rr with
    | cons r' rr =>
      cases rr
      cases r
      cases r'
      obtain ⟨its, rv, p1, z1, la⟩ := inv_seqK I1 hqx
      obtain ⟨its2, rv2, p2, _, lb⟩ := inv_seqK I1 hqy
      refine zip_begins2 (beginsK a its.toArray) (beginsK b its2.toArray) p1 p2 fun h' hz hTI hTO h1 h2 hsz hk => wpAny_pyIter_zip hz ?_
      have I2 : Inv X pins σ H1 { s1 with heap := h' } := I1.kept (t' := s1.toks) hk
      refine ⟨s1.heap.objs.size + 4, [s1.heap.objs.size + 4, s1.heap.objs.size + 2, s1.heap.objs.size + 3, s1.heap.objs.size, s1.heap.objs.size + 1], _, _, H1, rfl, I2, turn_zipK (zip_sep2 (N := s1.heap.objs.size) (fp1 := [a]) (fp2 := [b]) (by simpa using la) (by simpa using lb)), ⟨hz, hTI, ⟨_, _, hTO⟩, iterK_new h1, iterK_new h2⟩, fun c hcm => ?_, q z1⟩
      have e' : c = s1.heap.objs.size + 4 ∨ c = s1.heap.objs.size + 2 ∨ c = s1.heap.objs.size + 3 ∨ c = s1.heap.objs.size ∨ c = s1.heap.objs.size + 1 := by simpa using hcm
      have hle : s1.heap.objs.size ≤ c := by
        rcases e' with z | z | z | z | z
        · rw [z]; exact Nat.le_add_right _ _
        · rw [z]; exact Nat.le_add_right _ _
        · rw [z]; exact Nat.le_add_right _ _
        · rw [z]; exact Nat.le_refl _
        · rw [z]; exact Nat.le_add_right _ _
      exact I1.fpOk hle (I1.hok.fresh hle)

/-! ### enumerate of a tuple -/
theorem meets_enumerate_new1 {v : Value} {o : Obj} {H : Heap → Prop} (B : Begins v o H) :
    Meets (Builtin.«enumerate.__new__» ⟨[.type "enumerate", v], []⟩) (fun _ R s => H s.heap ∧
      R (.ok (.ret (.ref (s.heap.push o).objs.size))) { s with heap := (s.heap.push o).push { cls := .type "enumerate", data := .fields #[.none, .bool false, .ref s.heap.objs.size, rawInt 0, .none, .none] } }) :=
  .of_wp fun prog w A R s h => by
    obtain ⟨hp, g, d, tk, os⟩ := s; obtain ⟨h1, h⟩ := h
    have hsub := sub_enumerate
    have q1 : ∀ {A' : Around} {E : Value → Shared → Prop} {Q : Value → Shared → Prop}, Q (.ref hp.objs.size) ⟨hp.push o, g, d, tk, os⟩ → wpAny (model prog w) A' (pyIter v) Q E ⟨hp, g, d, tk, os⟩ :=
      fun q => B.iter prog w _ _ ⟨hp, g, d, tk, os⟩ _ h1 q
    wp_walk using q1
    refine wpAny_stack_any fun st => wpAny_pure ?_
    split
    · rename_i c _ _ _ _ _
      cases (c == Value.type "enumerate")
      · wp_walk using q1
        exact ⟨_, rfl, h⟩
      · wp_walk using q1
        exact ⟨_, rfl, h⟩
    · wp_walk using q1
      exact ⟨_, rfl, h⟩
theorem enum_begins1 {prog : Program} {w : World} {A : Around} {E : Value → Shared → Prop} {s : Shared} {v : Value} {o : Obj} {H : Heap → Prop} {Q : Value → Shared → Prop} (B : Begins v o H) (h1 : H s.heap)
    (h : ∀ h', IsEnum h' (s.heap.objs.size + 1) s.heap.objs.size 0 .none → h'.get? s.heap.objs.size = some o → h'.objs.size = s.heap.objs.size + 2 →
      (∀ b o, s.heap.get? b = some o → h'.get? b = some o) → Q (.ref (s.heap.objs.size + 1)) { s with heap := h' }) :
    wpAny (model prog w) A (call (.type "enumerate") [v]) Q E s := by
  refine callType_new F.called_enumerate (by decide) (F.typeCall_enumerate_1 _) (F.newCall_enumerate_1 _) (fun obj => F.args_object_init_2 obj _) F.entry_enumerate_new
    (meets_enumerate_new1 B) ⟨h1, ?_⟩
  have hz : (s.heap.push o).objs.size = s.heap.objs.size + 1 := Heap.size_push ..
  show _ ∧ _
  rw [hz]
  have he : IsEnum ((s.heap.push o).push { cls := .type "enumerate", data := .fields #[.none, .bool false, .ref s.heap.objs.size, rawInt 0, .none, .none] }) (s.heap.objs.size + 1) s.heap.objs.size 0 .none := by
    have := Heap.get?_push_size (s.heap.push o) (o := { cls := .type "enumerate", data := .fields #[.none, .bool false, .ref s.heap.objs.size, rawInt 0, .none, .none] }) rfl
    rw [hz] at this; exact this
  refine ⟨⟨_, he, rfl⟩, h _ he (Heap.get?_push_of_some _ (Heap.get?_push_size _ B.free)) (by rw [Heap.size_push, hz]) fun b o x => Heap.get?_push_of_some _ (Heap.get?_push_of_some _ x)⟩
def IteK (K : PySem.W.Frag) (k : Bool) (a : Addr) : It :=
  ⟨fun i H => ∃ (xs : List V) (x : V), SqK k K H a xs ∧ xs[i]? = some x, fun i H v H' => ∃ T x, v = .ref T ∧ H T = none ∧ H' = upd H T (.tup [.int (i : Nat), x]) ∧ ∀ xs, SqK k K H a xs → xs[i]? = some x, fun i H => ∃ xs : List V, SqK k K H a xs ∧ xs.length = i⟩
theorem turn_enumK {P : Program} {w : World} {K : PySem.W.Frag} {elts : List Expr} {kk : Nat} {tpos : Pos} {k : Bool} (a e it : Addr) (hei : e ≠ it) (hea : e ≠ a) :
    Turn P w K (.Tuple elts kk tpos) (IteK K k a) [e, it] e (fun i h => (∃ old, IsEnum h e it ((i : Nat) : Int) old) ∧ IterK k h it a i) where
  mem := by simp
  obj := fun i h st b hb => by
    obtain ⟨⟨old, he⟩, hi⟩ := st
    have e' : b = e ∨ b = it := by simpa using hb
    rcases e' with z | z
    · rw [z]; exact ⟨_, he, fun v q => nomatch q⟩
    · rw [z]; exact iterK_get hi
  keep := fun i h h' st k => let ⟨⟨old, he⟩, hi⟩ := st; ⟨⟨old, k e (by simp) _ he⟩, iterK_at hi fun o q => k it (by simp) o q⟩
  item := by
    intro X hP hw hK hc i pins s σ H E I hf st hg
    subst hP hw hK
    obtain ⟨⟨old, he⟩, hit⟩ := st
    obtain ⟨xs, x, hq, hx⟩ := hg
    obtain ⟨its, rv, p, hz, la⟩ := inv_seqK I hq
    obtain ⟨u, hu, ru⟩ := rv.get hx
    have hel : e < s.heap.objs.size := Heap.lt_size he
    have hil : it < s.heap.objs.size := by obtain ⟨_, q, _⟩ := iterK_get hit; exact Heap.lt_size q
    have hh : X.A.in1.handled = none := I.ok.hd hc
    have n1 : a ≠ it := hasK_ne p hit
    have hlt1 : i < its.toArray.size := by
      have := (List.getElem?_eq_some_iff.mp hu).1
      simpa using this
    refine wpAny_pyNext_enum_itemC (prog := X.prog) (w := X.w) (drawsK hh it a n1 its.toArray) he ⟨hit, p⟩ hlt1 hei (by simp [hei, hea]) fun x1 h' tk q1 ho hs' hT hsz hk => ?_
    have e1 : x1 = u := by
      have : its.toArray[i]? = some u := by simpa using hu
      rw [this] at q1; exact (Option.some.inj q1).symm
    subst e1
    refine ⟨_, rfl, wpAny_letOwnedTupleGo_enum (s := { s with heap := h', toks := tk + 1 }) ho fun h'' he' sb => ?_⟩
    have hT2 : h''.get? s.heap.objs.size = some { cls := .type "tuple", data := .seq #[.int i tk, x1] } := (sb.2 _ (Nat.ne_of_gt hel)).trans hT
    have new : ObjOk X.prog X.w (upd H s.heap.objs.size (.tup [.int (i : Nat), x])) h'' s.heap.objs.size (.tup [.int (i : Nat), x]) :=
      ⟨by show 2 ≤ sizeLine; decide, [.int i tk, x1], .cons ⟨_, rfl⟩ (.cons ru .nil), ⟨_, hT2, rfl, _, rfl⟩⟩
    have I1 : Inv X pins σ (upd H s.heap.objs.size (.tup [.int (i : Nat), x])) { s with heap := h'', toks := tk + 1 } :=
      I.turnedNew (ch := [e, it]) (fun b ob hb q => (sb.2 b (fun z => hb (by simp [z]))).trans (hk b ob (fun z => hb (by simp [z])) (fun z => hb (by simp [z])) q)) hf (Nat.le_refl _) new
    refine ⟨.ref s.heap.objs.size, _, I1, rfl, ⟨_, x, rfl, I.hok.fresh (Nat.le_refl _), rfl, fun ys hy => by rw [inv_seqK_inj I hy hq]; exact hx⟩, ⟨⟨x1, ?_⟩, iterK_at hs'.1 fun o q => (sb.2 it (Ne.symm hei)).trans q⟩, fun b hb => ?_⟩
    · have e1 : ((i + 1 : Nat) : Int) = (i : Int) + 1 := by omega
      rw [e1]; exact he'
    · have hb' : b < s.heap.objs.size := by
        have e' : b = e ∨ b = it := by simpa using hb
        rcases e' with z | z
        · rw [z]; exact hel
        · rw [z]; exact hil
      rw [upd_ne (Nat.ne_of_lt hb')]
      exact (hf b hb).1
  done := by
    intro X hP hw hK hc i pins s σ H E I hf st hg
    subst hP hw hK
    obtain ⟨⟨old, he⟩, hit⟩ := st
    obtain ⟨xs, hq, hx⟩ := hg
    obtain ⟨its, rv, p, hz, la⟩ := inv_seqK I hq
    have hl := rv.length
    have hh : X.A.in1.handled = none := I.ok.hd hc
    have n1 : a ≠ it := hasK_ne p hit
    have hn : its.toArray.size = i := by simp; omega
    have st0 : IterK k s.heap it a its.toArray.size ∧ HasK k s.heap a its.toArray := by
      rw [hn]
      exact ⟨hit, p⟩
    refine wpAny_pyNext_enum_endD (prog := X.prog) (w := X.w) (drawsK hh it a n1 its.toArray) he st0 fun h' eb => ⟨rfl, I.turnedL (t' := s.toks) (ch := [e, it]) (fun b o hb q => eb b o (fun z => hb (by simp [z])) q) hf⟩
  self := fun A i s Q E st h => let ⟨⟨_, he⟩, _⟩ := st; wpAny_pyIter_enum he h
def iEnumK (K : PySem.W.Frag) (ta : TA) : TI := fun σ H R => ta σ H fun vs H1 => ∃ k a xs, vs = [.ref a] ∧ SqK k K H1 a xs ∧ (xs.length ≤ sizeLine → R (IteK K k a) H1)
theorem pi_enumK {X : Cx} {e : Expr} {ta : TA} {p pos tpos : Pos} {elts : List Expr} {kk : Nat} (hg : Gl X "enumerate") (hm : X.mg "enumerate" = none) (ha : PA X [e] ta) (hs : starEach [e] X.env = [(false, eval e X.env)] := by rfl) :
    PI X (.Tuple elts kk tpos) (.Call (.Name "enumerate" p) [e] [] pos) (iEnumK X.K ta) := by
  refine ⟨fun pins s σ H R I h => ?_⟩
  refine Call_ (ld_blt I hg hm boot_enumerate (PyProof.Rows.callWith_type1 (thn (ha.run pos pins s σ H _ I h) fun us s1 ⟨vs, H1, I1, r1, q1⟩ => ?_) hs rfl))
  obtain ⟨k, a, xs, ex, hq, q⟩ := q1
  subst ex
  cases r1 with
  | cons r rr =>
    cases rr
    cases r
    obtain ⟨its, rv, p', hz, la⟩ := inv_seqK I1 hq
    refine enum_begins1 (beginsK a its.toArray) p' fun h' he hit hsz hk => wpAny_pyIter_enum he ?_
    have I2 : Inv X pins σ H1 { s1 with heap := h' } := I1.kept (t' := s1.toks) hk
    have la' : a < s1.heap.objs.size := la
    refine ⟨s1.heap.objs.size + 1, [s1.heap.objs.size + 1, s1.heap.objs.size], _, _, H1, rfl, I2, turn_enumK a (s1.heap.objs.size + 1) s1.heap.objs.size (Nat.succ_ne_self _) (Nat.ne_of_gt (Nat.lt_succ_of_lt la')), ⟨⟨.none, he⟩, iterK_new hit⟩, fun b hb => ?_, q hz⟩
    have e' : b = s1.heap.objs.size + 1 ∨ b = s1.heap.objs.size := by simpa using hb
    have hle : s1.heap.objs.size ≤ b := by
      rcases e' with z | z
      · rw [z]; exact Nat.le_add_right _ _
      · rw [z]; exact Nat.le_refl _
    exact I1.fpOk hle (I1.hok.fresh hle)

/-! ### xs.extend(t), t a tuple -/
open AutoSeq1 (wpAny_loadPart') in
theorem extend_tupleW (l : Addr) (items : Array Value) (n : Nat) (b : Addr) (items2 : Array Value) (n2 : Nat) (dd : Option Addr) (sl : Array (Option Value)) (hs0 : ¬(!items.isEmpty && Builtin.List.listTooLong (items.size + items2.size)) = true) (hs1 : items.size ≤ sizeLine) (hs2 : items.size + items2.size ≤ sizeLine + 1) :
    Meets (Builtin.«list.extend» ⟨[.ref l, .ref b], []⟩) (fun _ R s => s.heap.get? l = some { cls := .type "list", dict := none, data := .seq items n, slots := #[] } ∧ s.heap.get? b = some { cls := .type "tuple", dict := dd, data := .seq items2 n2, slots := sl } ∧ R (.ok (.ret Value.none)) { s with heap := s.heap.update l (Obj.mapSeq fun x => x ++ items2), toks := s.toks }) :=
  .of_wp fun prog w A R s h => by
    obtain ⟨hp, g, d, tk, os⟩ := s
    obtain ⟨hl, hb, h⟩ := h
    have f3 := sub_list_list
    have f4 := sub_tuple_list
    have f2 := sub_tuple_tuple
    have f5 := sub_list_tuple
    have hz' : (items ++ items2).size ≤ sizeLine + 1 := by rw [Array.size_append]; exact hs2
    wp_walk using (wpAny_updateSeq hl rfl (hz := hs1) (_hz' := hz')), wpAny_loadPart' hl, wpAny_loadPart' hb
    exact ⟨_, rfl, h⟩
def rExtendT (K : PySem.W.Frag) : V → List V → Hp → VK → Prop := fun x vs H Q => ∃ l b xs zs, x = .ref l ∧ vs = [.ref b] ∧ H l = some (.lst xs) ∧ SqT K H b zs ∧ xs.length + zs.length ≤ sizeLine ∧ Q .non (upd H l (.lst (xs ++ zs)))
theorem mt_extendT {X : Cx} : MtM X "list.extend" (rExtendT X.K) := by
  intro pins s σ H x vs v us Q I rx rv h
  obtain ⟨l, b, xs, zs, rfl, rfl, hH, hB, hz, q⟩ := h
  cases rx
  obtain ⟨u, rfl, ru⟩ := rv.one
  cases ru
  obtain ⟨z, its, n, r, hl, e⟩ := I.lstM hH
  obtain ⟨its2, r2, p2, z2⟩ := I.tuple hB
  obtain ⟨⟨oc, od, dt, sl⟩, e2, hc, n2, hd⟩ := p2
  simp only at hc hd
  subst hc hd
  have hl2 := r2.length
  have hsz : its.toArray.size + its2.toArray.size ≤ sizeLine := by rw [List.size_toArray, List.size_toArray]; omega
  have hlong : ¬ (!its.toArray.isEmpty && Builtin.List.listTooLong (its.toArray.size + its2.toArray.size)) = true := by
    rw [notLongL hsz, Bool.and_false]
    exact Bool.false_ne_true
  refine call_meets F.slot_list_extend ⟨_, e, rfl⟩ F.entry_list_extend (F.args_list_extend_2 _ _)
    (extend_tupleW l its.toArray n b its2.toArray n2 od sl hlong (by rw [List.size_toArray]; omega) (by omega)) ⟨e, e2, ?_⟩
  refine ⟨.non, _, I.lset (its' := its ++ its2) hH e (by simp) (r.append r2) ?_, rfl, q⟩
  rw [List.length_append]
  omega
/-- a list or a tuple -/
def rExtendA (K : PySem.W.Frag) : V → List V → Hp → VK → Prop := fun x vs H Q => rExtend x vs H Q ∨ rExtendT K x vs H Q
theorem mt_extendA {X : Cx} : MtR X "list.extend" (rExtendA X.K) := MtR.or mt_extend mt_extendT
end J

set_option Elab.async false
set_option linter.all false
set_option maxRecDepth 100000
set_option maxHeartbeats 4000000
namespace J
open PySem PySem.Spec PyProof.Rows L2

/-! ### sequences -/
theorem seq_at {G : Gx} {F : Hp} {d : D} {l : List D} {v : V} (a : At G F d v) (h : items d = some l) : ∃ k r vs, v = .ref r ∧ AtL G F l vs ∧ ∀ F2 H2 : Hp, Same F F2 → Same F2 H2 → SqK k G.K H2 r vs := by
  cases d with
  | tup ds =>
    cases h
    cases a with
    | tup hs ha => exact ⟨true, _, _, rfl, ha, fun F2 H2 s1 s2 => same_t s2 (same_t s1 hs)⟩
  | lst ds =>
    cases h
    cases a with
    | lst hs ha => exact ⟨false, _, _, rfl, ha, fun F2 H2 s1 s2 => .inl (.inl (s2 _ _ (s1 _ _ hs)))⟩
  | scr ns =>
    cases h
    cases a with
    | scr hs => exact ⟨false, _, _, rfl, AtL.ints _, fun F2 H2 s1 s2 => same_l s2 (same_l s1 hs)⟩
  | _ => cases h
theorem atI_at {G : Gx} {F : Hp} {l : List D} {vs : List V} {i : Int} {d : D} (a : AtL G F l vs) (h : atI l i = some d) : ∃ v, atI vs i = some v ∧ At G F d v := by
  unfold atI at h ⊢
  rw [← a.length]
  cases e : ixN l.length i with
  | none => rw [e] at h; cases h
  | some j =>
    rw [e] at h
    exact a.get h
def wIx : R2D := fun x y post => match items x, y with
  | some l, .int i => (match atI l i with
    | some d => post d
    | none => False)
  | _, _ => False
section
variable {G : G0} {X : Cx} {a b e : Expr} {wa wb w : WE} {pos p2 : Pos} {lo hi : Option Expr}
theorem d_ix (ha : DE G X a wa) (hb : DE G X b wb) (hs : PlainIx b := by exact fun _ _ => rfl) : DE G X (.Subscript a b pos) (wOp wIx wa wb) := by
  obtain ⟨ta, a1, a2⟩ := ha.ex
  obtain ⟨tb, b1, b2⟩ := hb.ex
  refine .of ⟨_, pe_ix ix_seq a1 b1 hs, snd_op (fun F H x y d1 d2 post s at1 at2 h Q q => ?_) a2 b2⟩
  unfold wIx at h
  split at h
  · rename_i l i el
    split at h
    · rename_i d ed
      cases at2
      obtain ⟨r, vs, rfl, sq, al⟩ := items_at s at1 el
      obtain ⟨v, ev, av⟩ := atI_at al ed
      rcases sq with sq | sq
      · exact .inl ⟨r, vs, i, v, rfl, rfl, sq, ev, q v H F d (Grow.refl s) av h⟩
      · exact .inr (.inl ⟨r, vs, i, v, rfl, rfl, sq, ev, q v H F d (Grow.refl s) av h⟩)
    · exact h.elim
  · exact h.elim
/-- a part of a slice -/
abbrev WOp := Env → (Env → Option Int → Prop) → Prop
def canO (G : Gx) (w : WOp) : TO := fun σ H Q => ∃ (b : Bs) (F : Hp) (ρ : Env) (post : Env → Option Int → Prop), StOk G b σ H F ρ ∧ w ρ post ∧ ∀ o H' F' ρ', Same F F' → StOk G b σ H' F' ρ' → post ρ' o → Q o H'
structure DO (G : G0) (X : Cx) (e : Option Expr) (w : WOp) : Prop where
  run : PO X e (canO (gx X G) w)
def wNo : WOp := fun ρ post => post ρ none
def wSome (w : WE) : WOp := fun ρ post => w ρ fun ρ1 d => match d with
  | .int i => post ρ1 (some i)
  | _ => False
theorem do_none : DO G X none wNo := ⟨⟨fun pins s σ H Q I ⟨b, F, ρ, post, i, hw, q⟩ => po_none.run pins s σ H Q I (q none H F ρ (Same.refl _) i hw)⟩⟩
theorem do_some (h : DE G X e w) : DO G X (some e) (wSome w) := by
  obtain ⟨t, h1, h2⟩ := h.ex
  refine ⟨⟨fun pins s σ H Q I ⟨b, F, ρ, post, i, hw, q⟩ => (po_some h1).run pins s σ H Q I (h2 b σ H F ρ _ i hw _ fun v H1 F1 ρ1 d s1 I1 a1 h1 => ?_)⟩⟩
  split at h1
  · cases a1
    exact ⟨_, rfl, q _ H1 F1 ρ1 s1 I1 h1⟩
  · exact h1.elim
/-- the items of xs[lo:hi] -/
def cutD (xs : List D) (lo hi : Option Int) : List D := (xs.drop (HT.sIx xs.length 0 lo)).take (HT.sIx xs.length xs.length hi - HT.sIx xs.length 0 lo)
theorem cut_at {G : Gx} {F : Hp} {l : List D} {vs : List V} (a : AtL G F l vs) (lo hi : Option Int) : AtL G F (cutD l lo hi) (cutV vs lo hi) := by
  unfold cutD cutV
  rw [a.length]
  exact (a.drop _).take _
theorem cut_whole {l : List V} {lo hi : Option Int} (h : HT.sIx l.length 0 lo = 0 ∧ HT.sIx l.length l.length hi = l.length) : cutV l lo hi = l := by
  unfold cutV
  rw [h.1, h.2, List.drop_zero, Nat.sub_zero, List.take_length]
def wSlT (w : WE) (wl wh : WOp) : WE := fun ρ post => w ρ fun ρ1 d => wl ρ1 fun ρ2 l => wh ρ2 fun ρ3 u => match d with
  | .tup xs => post ρ3 (.tup (cutD xs l u))
  | _ => False
def wSlL (w : WE) (wl wh : WOp) : WN := fun ρ post => w ρ fun ρ1 d => wl ρ1 fun ρ2 l => wh ρ2 fun ρ3 u => match d with
  | .lst xs => post ρ3 (cutD xs l u)
  | .scr ns => post ρ3 (cutD (ns.map .int) l u)
  | _ => False
theorem d_sliceT {wl wh : WOp} (he : DE G X e w) (hl : DO G X lo wl) (hu : DO G X hi wh) : DE G X (.Subscript e (.Slice lo hi none p2) pos) (wSlT w wl wh) := by
  obtain ⟨t, h1, h2⟩ := he.ex
  refine .of ⟨_, pe_slice sl_tupA h1 hl.run hu.run, fun b σ H F ρ post I hw Q q => h2 b σ H F ρ _ I hw _ fun v H1 F1 ρ1 d s1 I1 a1 h1 =>
    ⟨b, F1, ρ1, _, I1, h1, fun o1 H2 F2 ρ2 s2 I2 h2 => ⟨b, F2, ρ2, _, I2, h2, fun o2 H3 F3 ρ3 s3 I3 h3 => ?_⟩⟩⟩
  split at h3
  · cases a1 with
    | @tup r vs _ hs ha =>
      have sq : SqT X.K H3 r vs := same_t I3.fb.sub (same_t s3 (same_t s2 hs))
      have hc := cut_at ((ha.up s2).up s3) o1 o2
      refine ⟨r, vs, rfl, sq, fun hh => ?_, fun _ p hp => ?_⟩
      · rw [cut_whole hh] at hc
        exact q _ H3 F3 ρ3 _ ((s1.trans s2).trans s3) I3 (.tup (same_t s3 (same_t s2 hs)) hc) h3
      · have g := Grow.add (o := .tup (cutV vs o1 o2)) I3.fb.sub hp
        exact q _ _ _ ρ3 _ (((s1.trans s2).trans s3).trans g.f) (I3.grow g) (.tup (.inl (.inl upd_same)) (hc.up g.f)) h3
  · exact h3.elim
theorem dn_sliceL {wl wh : WOp} (he : DE G X e w) (hl : DO G X lo wl) (hu : DO G X hi wh) : DN G X (.Subscript e (.Slice lo hi none p2) pos) (wSlL w wl wh) := by
  obtain ⟨t, h1, h2⟩ := he.ex
  refine .of ⟨_, pe_slice sl_list h1 hl.run hu.run, fun b σ H F ρ post I hw Q q => h2 b σ H F ρ _ I hw _ fun v H1 F1 ρ1 d s1 I1 a1 h1 =>
    ⟨b, F1, ρ1, _, I1, h1, fun o1 H2 F2 ρ2 s2 I2 h2 => ⟨b, F2, ρ2, _, I2, h2, fun o2 H3 F3 ρ3 s3 I3 h3 => ?_⟩⟩⟩
  split at h3
  · cases a1 with
    | @lst r vs _ hs ha =>
      have sq : SqL X.K H3 r vs := .inl (.inl (I3.fb.sub _ _ (s3 _ _ (s2 _ _ hs))))
      have hc := cut_at ((ha.up s2).up s3) o1 o2
      refine ⟨r, vs, rfl, sq, fun p hp => ?_⟩
      exact q_new I3 hp hc ((s1.trans s2).trans s3) q h3
  · rename_i ns
    cases a1 with
    | @scr r _ hs =>
      have sq : SqL X.K H3 r (ns.map V.int) := same_l I3.fb.sub (same_l s3 (same_l s2 hs))
      have hc := cut_at (AtL.ints (G := gx X G) (F := F3) ns) o1 o2
      refine ⟨r, _, rfl, sq, fun p hp => ?_⟩
      exact q_new I3 hp hc ((s1.trans s2).trans s3) q h3
  · exact h3.elim
/-- where a field stands in an object of a class -/
def firstAt (ns : List Str) (f : Str) (j : Nat) : Bool := decide (ns[j]? = some f) && (ns.take j).all fun x => decide (x ≠ f)
theorem lookup_first {f : Str} : ∀ {fs : List (Str × V)} {j : Nat} {v : V}, firstAt (fs.map (·.1)) f j = true → (fs.map (·.2))[j]? = some v → fs.lookup f = some v
  | [], j, v, _, e => by simp at e
  | (g, x) :: r, 0, v, h, e => by
    have h1 : g = f := by
      have := (Bool.and_eq_true_iff.mp h).1
      simpa using this
    have e1 : x = v := by simpa using e
    subst h1 e1
    simp [List.lookup]
  | (g, x) :: r, j + 1, v, h, e => by
    have h0 := Bool.and_eq_true_iff.mp h
    have h1 : g ≠ f := by
      have := h0.2
      simp at this
      exact this.1
    have h2 : firstAt (r.map (·.1)) f j = true := by
      unfold firstAt
      have p1 := h0.1
      have p2 := h0.2
      rw [List.map_cons, List.take_succ_cons, List.all_cons] at p2
      have p2' := (Bool.and_eq_true_iff.mp p2).2
      rw [List.map_cons, List.getElem?_cons_succ] at p1
      rw [p1, p2']
      rfl
    have e1 : (r.map (·.2))[j]? = some v := by simpa using e
    have ih := lookup_first h2 e1
    have hb : (f == g) = false := beq_eq_false_iff_ne.mpr (Ne.symm h1)
    simp only [List.lookup, hb]
    exact ih
theorem firstAt_take {ns : List Str} {f : Str} {j n : Nat} (h : firstAt ns f j = true) (hj : j < n) : firstAt (ns.take n) f j = true := by
  unfold firstAt at h ⊢
  rw [List.getElem?_take, if_pos hj, List.take_take, Nat.min_eq_left (by omega)]
  exact h
/-- o.f of a frozen object: at j in the objects of the class c -/
def wFld (at' : Nat → Option Nat) (w : WE) : WE := fun ρ post => w ρ fun ρ1 d => match d with
  | .obj c l => (match at' c with
    | some j => (match l[j]? with
      | some x => post ρ1 x
      | none => False)
    | none => False)
  | _ => False
theorem d_fld {f : Str} {at' : Nat → Option Nat} (c : ∀ c j, at' c = some j → Cls X.K (G.ca c) ∧ NoAttr X.K (G.ca c) f ∧ firstAt (G.cf c) f j = true) (he : DE G X e w) (hb : attributeBase e f X.env (eval e X.env) = eval e X.env := by rfl) : DE G X (.Attribute e f pos) (wFld at' w) := by
  obtain ⟨t, h1, h2⟩ := he.ex
  refine .of ⟨_, pe_fld h1 hb, fun b σ H F ρ post I hw Q q => h2 b σ H F ρ _ I hw _ fun v H1 F1 ρ1 d s1 I1 a1 h1 => ?_⟩
  split at h1
  · rename_i c0 l
    split at h1
    · rename_i j ej
      obtain ⟨k1, k2, k3⟩ := c _ _ ej
      split at h1
      · rename_i x ex
        cases a1 with
        | @obj r dx _ _ fs _ hs hC hn ha =>
          subst hC
          obtain ⟨u, eu, au⟩ := ha.get ex
          have hj : j < l.length := (List.getElem?_eq_some_iff.mp ex).1
          exact ⟨r, _, dx, fs, u, rfl, I1.fb.sub _ _ hs, k1, k2, lookup_first (by rw [hn]; exact firstAt_take k3 hj) eu, q u H1 F1 ρ1 x s1 I1 au h1⟩
      · exact h1.elim
    · exact h1.elim
  · exact h1.elim
/-- a + b, a * k of lists -/
def wCat (wa wb : WE) : WN := fun ρ post => wa ρ fun ρ1 x => wb ρ1 fun ρ2 y => match x, y with
  | .lst l, .lst m => l.length + m.length ≤ 1000000 ∧ post ρ2 (l ++ m)
  | _, _ => False
def wRep (wa wb : WE) : WN := fun ρ post => wa ρ fun ρ1 x => wb ρ1 fun ρ2 y => match x, y with
  | .lst l, .int k => (k ≤ 1000000 ∧ -1000000 ≤ k ∧ l.length * k.toNat ≤ 1000000) ∧ post ρ2 (List.replicate k.toNat l).flatten
  | _, _ => False
theorem dn_cat (ha : DE G X a wa) (hb : DE G X b wb) : DN G X (.BinOp a .Add b pos) (wCat wa wb) := by
  obtain ⟨ta, a1, a2⟩ := ha.ex
  obtain ⟨tb, b1, b2⟩ := hb.ex
  refine .of ⟨_, pe_op op_cat a1 b1, fun bs σ H F ρ post I h Q q => a2 bs σ H F ρ _ I h _ fun x H1 F1 ρ1 d1 s1 I1 at1 h1 => b2 bs σ H1 F1 ρ1 _ I1 h1 _ fun y H2 F2 ρ2 d2 s2 I2 at2 h2 => ?_⟩
  split at h2
  · cases at1 with
    | @lst r1 vs1 _ hs1 ha1 =>
      cases at2 with
      | @lst r2 vs2 _ hs2 ha2 =>
        refine ⟨r1, r2, vs1, vs2, rfl, rfl, I2.fb.sub _ _ (s2 _ _ hs1), I2.fb.sub _ _ hs2, ?_, fun p hp => ?_⟩
        · rw [← ha1.length, ← ha2.length]; exact sz h2.1
        · exact q_new I2 hp ((ha1.up s2).append ha2) (s1.trans s2) q h2.2
  · exact h2.elim
theorem dn_rep (ha : DE G X a wa) (hb : DE G X b wb) : DN G X (.BinOp a .Mult b pos) (wRep wa wb) := by
  obtain ⟨ta, a1, a2⟩ := ha.ex
  obtain ⟨tb, b1, b2⟩ := hb.ex
  refine .of ⟨_, pe_op op_rep a1 b1, fun bs σ H F ρ post I h Q q => a2 bs σ H F ρ _ I h _ fun x H1 F1 ρ1 d1 s1 I1 at1 h1 => b2 bs σ H1 F1 ρ1 _ I1 h1 _ fun y H2 F2 ρ2 d2 s2 I2 at2 h2 => ?_⟩
  split at h2
  · cases at1 with
    | @lst r1 vs1 _ hs1 ha1 =>
      cases at2
      obtain ⟨⟨g1, g2, g3⟩, h2⟩ := h2
      refine ⟨r1, _, vs1, rfl, rfl, I2.fb.sub _ _ (s2 _ _ hs1), by omega, by omega, ?_, fun p hp => ?_⟩
      · rw [← ha1.length]; exact sz g3
      · exact q_new I2 hp ((ha1.up s2).rep _) (s1.trans s2) q h2
  · exact h2.elim
/-- list(range(..)) -/
def intsD (lo hi : Int) : List D := (List.range (hi - lo).toNat).map fun i => .int (lo + (i : Nat))
theorem intsD_at {G : Gx} {F : Hp} (lo : Int) : ∀ n : Nat, AtL G F ((List.range n).map fun i => .int (lo + (i : Nat))) ((List.range n).map fun i => V.int (lo + (i : Nat)))
  | 0 => .nil
  | n + 1 => by
    rw [List.range_succ, List.map_append, List.map_append]
    exact (intsD_at lo n).append (.cons (.int _) .nil)
end
end J

set_option Elab.async false
set_option linter.all false
set_option maxRecDepth 100000
set_option maxHeartbeats 4000000
namespace J
open PySem PySem.Spec PyProof.Rows L2

/-! ### targets -/
abbrev WG := D → Env → (Env → Prop) → Prop
abbrev WGs := List D → Env → (Env → Prop) → Prop
/-- slots that are set, forgotten again -/
def Only (ts : List Nat) (σ σ' : L2.St) : Prop := σ'.length = σ.length ∧ ∀ i, i ∉ ts → σ'[i]? = σ[i]?
theorem Only.refl {ts : List Nat} {σ : L2.St} : Only ts σ σ := ⟨rfl, fun _ _ => rfl⟩
theorem Only.trans {ts us : List Nat} {σ σ1 σ2 : L2.St} (a : Only ts σ σ1) (b : Only us σ1 σ2) : Only (ts ++ us) σ σ2 :=
  ⟨b.1.trans a.1, fun i h => (b.2 i fun z => h (List.mem_append_right _ z)).trans (a.2 i fun z => h (List.mem_append_left _ z))⟩
theorem wipe_get (σ : L2.St) : ∀ (vs : List Nat) (i : Nat), (wipe σ vs)[i]? = if i ∈ vs then (if i < σ.length then some none else none) else σ[i]?
  | [], i => by simp [wipe]
  | v :: vs, i => by
    have ih := wipe_get σ vs i
    unfold wipe
    by_cases h : v = i
    · subst h
      have hm : v ∈ v :: vs := List.mem_cons_self
      rw [if_pos hm]
      by_cases hl : v < σ.length
      · rw [if_pos hl, List.getElem?_set_self (by rw [wipe_length]; exact hl)]
      · rw [if_neg hl, List.getElem?_eq_none (by rw [List.length_set, wipe_length]; omega)]
    · rw [List.getElem?_set_ne h, ih]
      by_cases hm : i ∈ vs
      · rw [if_pos hm, if_pos (List.mem_cons_of_mem _ hm)]
      · rw [if_neg hm, if_neg (fun z => by rcases List.mem_cons.mp z with z | z; exact h z.symm; exact hm z)]
theorem Only.wipe {ts vs : List Nat} {σ σ' : L2.St} (o : Only ts σ σ') (h : ∀ i ∈ ts, i ∈ vs) : L2.wipe σ' vs = L2.wipe σ vs := by
  apply List.ext_getElem?
  intro i
  rw [wipe_get, wipe_get, o.1]
  by_cases hm : i ∈ vs
  · rw [if_pos hm, if_pos hm]
  · rw [if_neg hm, if_neg hm, o.2 i fun z => hm (h i z)]
def canG (G : Gx) (ts : List Nat) (w : WG) : TG := fun v σ H Q => ∃ (b : Bs) (F : Hp) (ρ : Env) (d : D) (k : Env → Prop), StOk G b σ H F ρ ∧ At G F d v ∧ w d ρ k ∧ ∀ σ' H' F' ρ', Same F F' → StOk G b σ' H' F' ρ' → Only ts σ σ' → k ρ' → Q σ' H'
def canGs (G : Gx) (ts : List Nat) (w : WGs) : TGs := fun vs σ H Q => ∃ (b : Bs) (F : Hp) (ρ : Env) (ds : List D) (k : Env → Prop), StOk G b σ H F ρ ∧ AtL G F ds vs ∧ w ds ρ k ∧ ∀ σ' H' F' ρ', Same F F' → StOk G b σ' H' F' ρ' → Only ts σ σ' → k ρ' → Q σ' H'
structure DG (G : G0) (X : Cx) (e : Expr) (ts : List Nat) (w : WG) : Prop where
  run : PG X e (canG (gx X G) ts w)
structure DGs (G : G0) (X : Cx) (es : List Expr) (ts : List Nat) (w : WGs) : Prop where
  run : PGs X es (canGs (gx X G) ts w)
def gN (i : Nat) : WG := fun d ρ k => k (ρ.set i (some (.v d)))
def gsN : WGs := fun ds ρ k => match ds with
  | [] => k ρ
  | _ => False
def gsC (g : WG) (r : WGs) : WGs := fun ds ρ k => match ds with
  | d :: ds => g d ρ fun ρ1 => r ds ρ1 k
  | [] => False
def gT (n : Nat) (r : WGs) : WG := fun d ρ k => match d with
  | .tup l => l.length = n ∧ r l ρ k
  | _ => False
theorem only_set {i : Nat} {σ : L2.St} {x : Option V} : Only [i] σ (σ.set i x) := ⟨List.length_set, fun j h => List.getElem?_set_ne fun z => h (by rw [z]; exact List.mem_cons_self)⟩
section
variable {G : G0} {X : Cx} {pos : Pos} {e : Expr} {es : List Expr} {ts us : List Nat}
theorem dg_name (i : Nat) {x : Str} (hpr : i ∉ G.pr) (hN : X.N.Nodup) (hi : X.N[i]? = some x := by rfl) (hx : Loc X.env.scope x := by first | exact .inl rfl | exact .inr rfl) (hf : X.fn x = true ∨ X.env.scope.names.lookup x = some .local := by first | exact .inl rfl | exact .inr rfl) : DG G X (.Name x pos) [i] (gN i) :=
  ⟨⟨fun pins s σ H v u Q I r ⟨b, F, ρ, d, k, hI, ha, hw, q⟩ => (pg_name hN hi hx hf).run pins s σ H v u Q I r (q _ H F _ (Same.refl _) (hI.setVal hpr ha) only_set hw)⟩⟩
theorem dgs_nil : DGs G X [] [] gsN := ⟨⟨fun pins s σ H vs us Q I r ⟨b, F, ρ, ds, k, hI, ha, hw, q⟩ => by
  cases ha with
  | nil => exact pgs_nil.run pins s σ H [] us Q I r ⟨rfl, q σ H F ρ (Same.refl _) hI .refl hw⟩
  | cons _ _ => exact hw.elim⟩⟩
theorem dgs_cons {g : WG} {r : WGs} (h1 : DG G X e ts g) (h2 : DGs G X es us r) (hs : (assignEach (e :: es) X.env).map (·.2) = assign e X.env :: (assignEach es X.env).map (·.2) := by rfl) : DGs G X (e :: es) (ts ++ us) (gsC g r) :=
  ⟨⟨fun pins s σ H vs us Q I rv ⟨b, F, ρ, ds, k, hI, ha, hw, q⟩ => by
    cases ha with
    | nil => exact hw.elim
    | cons a al =>
      refine (pgs_cons h1.run h2.run hs).run pins s σ H _ us Q I rv ⟨_, _, rfl, b, F, ρ, _, _, hI, a, hw, fun σ1 H1 F1 ρ1 s1 I1 o1 h => ?_⟩
      exact ⟨b, F1, ρ1, _, k, I1, al.up s1, h, fun σ2 H2 F2 ρ2 s2 I2 o2 h2 => q σ2 H2 F2 ρ2 (s1.trans s2) I2 (o1.trans o2) h2⟩⟩⟩
theorem dg_tup {k n : Nat} {r : WGs} (hc : X.calm = true) (h : DGs G X es ts r) (hn : (assignEach es X.env).length = n := by rfl) (hst : (assignEach es X.env).findIdx? (·.1) = none := by rfl) : DG G X (.Tuple es k pos) ts (gT n r) :=
  ⟨⟨fun pins s σ H v u Q I rv ⟨b, F, ρ, d, kk, hI, ha, hw, q⟩ => by
    unfold gT at hw
    split at hw
    · cases ha with
      | @tup a vs _ hs al =>
        exact (pg_tup hc h.run hn hst).run pins s σ H _ u Q I rv ⟨a, vs, rfl, same_t hI.fb.sub hs, by rw [← al.length]; exact hw.1, b, F, ρ, _, kk, hI, al, hw.2, q⟩
    · exact hw.elim⟩⟩
end

/-! ### what is walked -/
def canI (G : Gx) (w : WN) : TI := fun σ H R => ∃ (b : Bs) (F : Hp) (ρ : Env) (post : Env → List D → Prop), StOk G b σ H F ρ ∧ w ρ post ∧
  ∀ J H' F' ρ' ds Gw Y, Same F F' → StOk G b σ H' F' ρ' → post ρ' ds → ds.length ≤ sizeLine → Walk J ds.length Gw Y → (∀ F2 H2 : Hp, Same F' F2 → Same F2 H2 → Gw H2) →
    (∀ i d F2 H2 x H3, ds[i]? = some d → Same F' F2 → Same F2 H2 → Y i H2 x H3 → ∃ F3, Grow F2 H2 F3 H3 ∧ At G F3 d x) → R J H'
structure DI (G : G0) (X : Cx) (tg e : Expr) (w : WN) : Prop where
  run : PI X tg e (canI (gx X G) w)
/-- the items of a list or a tuple -/
def wSeqI (w : WE) : WN := fun ρ post => w ρ fun ρ1 d => match items d with
  | some l => post ρ1 l
  | none => False
def itS (k : Bool) (K : PySem.W.Frag) (a : Addr) : It := match k with
  | true => Itt K a
  | false => Itl K a
section
variable {G : G0} {X : Cx} {tg e e2 a : Expr} {es : List Expr} {w : WE} {p pos tpos : Pos} {elts : List Expr} {kk : Nat}
theorem pi_seq {tl : TE} (hl : PE X e tl) : PI X tg e (fun σ H R => tl σ H fun x H1 => ∃ k a xs, x = .ref a ∧ SqK k X.K H1 a xs ∧ (xs.length ≤ sizeLine → R (itS k X.K a) H1)) := by
  refine ⟨fun pins s σ H R I h => ?_⟩
  refine thn (hl.run pins s σ H _ I h) fun v s1 ⟨x, H1, I1, r1, k, a, xs, ex, hq, q⟩ => ?_
  subst ex
  cases r1
  cases k with
  | true =>
    obtain ⟨its, rv, pp, hz⟩ := I1.tuple hq
    refine wpAny_pyIter_tuple (show s1.heap.IsTuple a its.toArray from pp) ?_
    refine ⟨s1.heap.objs.size, [s1.heap.objs.size], _, _, H1, rfl, I1.kept (t' := s1.toks) fun b o e => Heap.get?_push_of_some _ e, turn_tuple a _, ⟨_, Heap.get?_push_size _ rfl, rfl, rfl⟩, fun b hb => ?_, q hz⟩
    have eb : b = s1.heap.objs.size := by simpa using hb
    subst eb
    exact I1.fpOk (Nat.le_refl _) (I1.hok.fresh (Nat.le_refl _))
  | false =>
    obtain ⟨its, rv, pp, hz⟩ := I1.list hq
    refine wpAny_pyIter_list pp.isList ?_
    refine ⟨s1.heap.objs.size, [s1.heap.objs.size], _, _, H1, rfl, I1.kept (t' := s1.toks) fun b o e => Heap.get?_push_of_some _ e, turn_list a _, ⟨_, Heap.get?_push_size _ rfl, rfl, rfl⟩, fun b hb => ?_, q hz⟩
    have eb : b = s1.heap.objs.size := by simpa using hb
    subst eb
    exact I1.fpOk (Nat.le_refl _) (I1.hok.fresh (Nat.le_refl _))
theorem walk_S {k : Bool} {K : PySem.W.Frag} {a : Addr} {xs : List V} : Walk (itS k K a) xs.length (fun H => SqK k K H a xs) (YAt xs) := by
  cases k with
  | true => exact walk_tup
  | false => exact walk_list
theorem di_seq (h : DE G X e w) : DI G X tg e (wSeqI w) := ⟨⟨fun pins s σ H R I ⟨b, F, ρ, post, hI, hw, q⟩ => by
  obtain ⟨t, h1, h2⟩ := h.ex
  refine (pi_seq h1).run pins s σ H R I (h2 b σ H F ρ _ hI hw _ fun v H1 F1 ρ1 d s1 I1 a1 h1 => ?_)
  split at h1
  · rename_i l el
    obtain ⟨k, r, vs, rfl, al, sq⟩ := seq_at a1 el
    refine ⟨k, r, vs, rfl, sq F1 H1 (Same.refl _) I1.fb.sub, fun hz => ?_⟩
    have hl := al.length
    refine q _ H1 F1 ρ1 l _ (YAt vs) s1 I1 h1 (by omega) (hl ▸ walk_S) (fun F2 H2 => sq F2 H2) fun i d F2 H2 x H3 ed s2 s3 y => ?_
    obtain ⟨rfl, ex⟩ := y
    obtain ⟨u, eu, au⟩ := al.get ed
    rw [eu] at ex
    cases ex
    exact ⟨F2, Grow.refl s3, au.up s2⟩
  · exact h1.elim⟩⟩
def zipD : List D → List D → List D
  | x :: r, y :: s => .tup [x, y] :: zipD r s
  | _, _ => []
theorem zipD_length : ∀ l m : List D, (zipD l m).length = min l.length m.length
  | [], _ => by simp [zipD]
  | _ :: _, [] => by simp [zipD]
  | x :: r, y :: s => by
    simp only [zipD, List.length_cons, zipD_length r s]
    omega
theorem zipD_get : ∀ (l m : List D) (i : Nat) (d : D), (zipD l m)[i]? = some d → ∃ x y, l[i]? = some x ∧ m[i]? = some y ∧ d = .tup [x, y]
  | [], _, i, d, h => by simp [zipD] at h
  | _ :: _, [], i, d, h => by simp [zipD] at h
  | x :: r, y :: s, 0, d, h => by
    simp [zipD] at h
    exact ⟨x, y, rfl, rfl, h.symm⟩
  | x :: r, y :: s, i + 1, d, h => by
    simp [zipD] at h
    obtain ⟨u, v, h1, h2, h3⟩ := zipD_get r s i d h
    exact ⟨u, v, by simpa using h1, by simpa using h2, h3⟩
theorem walk_zipK {K : PySem.W.Frag} {k1 k2 : Bool} {a b : Addr} {xs ys : List V} {n : Nat} (hn : n = min xs.length ys.length) : Walk (ItzK K k1 a k2 b) n (fun H => SqK k1 K H a xs ∧ SqK k2 K H b ys) (YPair (fun i => xs[i]?) (fun i => ys[i]?)) := by
  refine ⟨fun i H hi h => ?_, fun H h => ?_, fun i H x H' hi h y => ?_⟩
  · have h1 : i < xs.length := by omega
    have h2 : i < ys.length := by omega
    exact ⟨xs, ys, xs[i], ys[i], h.1, h.2, List.getElem?_eq_getElem h1, List.getElem?_eq_getElem h2⟩
  · exact ⟨xs, ys, h.1, h.2, by omega, by omega, by omega⟩
  · obtain ⟨T, u, v, e1, e2, e3, e4, e5⟩ := y
    exact ⟨T, u, v, e1, e2, e3, e4 xs h.1, e5 ys h.2⟩
def wZipI (wa : WN) : WN := fun ρ post => wa ρ fun ρ1 ds => match ds with
  | [d, e] => (match items d, items e with
    | some l, some m => post ρ1 (zipD l m)
    | _, _ => False)
  | _ => False
theorem di_zip {wa : WN} (hg : Gl X "zip") (hm : X.mg "zip" = none) (h : DA G X [e, e2] wa)
    (hs : starEach [e, e2] X.env = (false, eval e X.env) :: starEach [e2] X.env := by rfl) (hpl : (backTo pos (starEach [e2] X.env)).any (·.1) = false := by rfl) :
    DI G X (.Tuple elts kk tpos) (.Call (.Name "zip" p) [e, e2] [] pos) (wZipI wa) := ⟨⟨fun pins s σ H R I ⟨b, F, ρ, post, hI, hw, q⟩ => by
  obtain ⟨t, h1, h2⟩ := h.ex
  refine (pi_zipK hg hm h1 hs hpl).run pins s σ H R I (h2 b σ H F ρ _ hI hw _ fun vs H1 F1 ρ1 ds s1 I1 a1 h1 => ?_)
  unfold wZipI at hw
  split at h1
  · obtain ⟨v, u, rfl, b1, b2⟩ := a1.two
    split at h1
    · rename_i l m el em
      obtain ⟨k, r, vs, rfl, al, sq⟩ := seq_at b1 el
      obtain ⟨k', r', us, rfl, am, sq'⟩ := seq_at b2 em
      refine ⟨k, r, k', r', vs, us, rfl, sq F1 H1 (Same.refl _) I1.fb.sub, sq' F1 H1 (Same.refl _) I1.fb.sub, fun hz => ?_⟩
      have hl := al.length
      have hl' := am.length
      have hn := zipD_length l m
      refine q _ H1 F1 ρ1 (zipD l m) _ _ s1 I1 h1 (by omega) (walk_zipK (by omega)) (fun F2 H2 z1 z2 => ⟨sq F2 H2 z1 z2, sq' F2 H2 z1 z2⟩) fun i d F2 H2 x H3 ed s2 s3 y => ?_
      obtain ⟨T, u, w, rfl, nT, rfl, eu, ew⟩ := y
      obtain ⟨x1, y1, f1, f2, rfl⟩ := zipD_get l m i d ed
      obtain ⟨u', eu', au⟩ := al.get f1
      obtain ⟨w', ew', aw⟩ := am.get f2
      have eu2 : vs[i]? = some u := eu
      have ew2 : us[i]? = some w := ew
      rw [eu'] at eu2
      rw [ew'] at ew2
      cases eu2
      cases ew2
      have g := Grow.add (o := .tup [u, w]) s3 nT
      exact ⟨_, g, .tup (.inl (.inl upd_same)) (.cons ((au.up s2).up g.f) (.cons ((aw.up s2).up g.f) .nil))⟩
    · exact h1.elim
  · exact h1.elim⟩⟩
def enumD (l : List D) : List D := l.zipIdx.map fun p => .tup [.int (p.2 : Nat), p.1]
theorem enumD_length (l : List D) : (enumD l).length = l.length := by simp [enumD]
theorem enumD_get {l : List D} {i : Nat} {d : D} (h : (enumD l)[i]? = some d) : ∃ x, l[i]? = some x ∧ d = .tup [.int (i : Nat), x] := by
  unfold enumD at h
  rw [List.getElem?_map, List.getElem?_zipIdx] at h
  cases e : l[i]? with
  | none => rw [e] at h; simp at h
  | some x =>
    rw [e] at h
    simp at h
    exact ⟨x, rfl, h.symm⟩
theorem walk_enumK {K : PySem.W.Frag} {k : Bool} {a : Addr} {xs : List V} : Walk (IteK K k a) xs.length (fun H => SqK k K H a xs) (YPair (fun i => some (.int (i : Nat))) (fun i => xs[i]?)) := by
  refine ⟨fun i H hi h => ⟨xs, xs[i], h, List.getElem?_eq_getElem hi⟩, fun H h => ⟨xs, h, rfl⟩, fun i H x H' hi h y => ?_⟩
  obtain ⟨T, u, e1, e2, e3, e4⟩ := y
  exact ⟨T, _, u, e1, e2, e3, rfl, e4 xs h⟩
def wEnumI (wa : WN) : WN := fun ρ post => wa ρ fun ρ1 ds => match ds with
  | [d] => (match items d with
    | some l => post ρ1 (enumD l)
    | none => False)
  | _ => False
theorem di_enum {wa : WN} (hg : Gl X "enumerate") (hm : X.mg "enumerate" = none) (h : DA G X [e] wa) (hs : starEach [e] X.env = [(false, eval e X.env)] := by rfl) :
    DI G X (.Tuple elts kk tpos) (.Call (.Name "enumerate" p) [e] [] pos) (wEnumI wa) := ⟨⟨fun pins s σ H R I ⟨b, F, ρ, post, hI, hw, q⟩ => by
  obtain ⟨t, h1, h2⟩ := h.ex
  refine (pi_enumK hg hm h1 hs).run pins s σ H R I (h2 b σ H F ρ _ hI hw _ fun vs H1 F1 ρ1 ds s1 I1 a1 h1 => ?_)
  split at h1
  · obtain ⟨v, rfl, b1⟩ := a1.one
    split at h1
    · rename_i l el
      obtain ⟨k, r, vs, rfl, al, sq⟩ := seq_at b1 el
      refine ⟨k, r, vs, rfl, sq F1 H1 (Same.refl _) I1.fb.sub, fun hz => ?_⟩
      have hl := al.length
      have hn := enumD_length l
      refine q _ H1 F1 ρ1 (enumD l) _ _ s1 I1 h1 (by omega) (by rw [hn, hl]; exact walk_enumK) (fun F2 H2 z1 z2 => sq F2 H2 z1 z2) fun i d F2 H2 x H3 ed s2 s3 y => ?_
      obtain ⟨T, u, w, rfl, nT, rfl, eu, ew⟩ := y
      obtain ⟨y1, f2, rfl⟩ := enumD_get ed
      obtain ⟨w', ew', aw⟩ := al.get f2
      have ew2 : vs[i]? = some w := ew
      rw [ew'] at ew2
      cases eu
      cases ew2
      have g := Grow.add (o := .tup [.int (i : Nat), w]) s3 nT
      exact ⟨_, g, .tup (.inl (.inl upd_same)) (.cons (.int _) (.cons ((aw.up s2).up g.f) .nil))⟩
    · exact h1.elim
  · exact h1.elim⟩⟩
def wRng1 (wa : WN) : WN := fun ρ post => wa ρ fun ρ1 ds => match ds with
  | [.int j] => j ≤ 1000000 ∧ -1000000 ≤ j ∧ post ρ1 (intsD 0 j)
  | _ => False
def wRng2 (wa : WN) : WN := fun ρ post => wa ρ fun ρ1 ds => match ds with
  | [.int i, .int j] => (j ≤ 1000000 ∧ -1000000 ≤ j ∧ i ≤ 1000000 ∧ -1000000 ≤ i) ∧ post ρ1 (intsD i j)
  | _ => False
theorem intsD_length (i j : Int) : (intsD i j).length = (j - i).toNat := by simp [intsD]
theorem intsD_get {i j : Int} {n : Nat} {d : D} (h : (intsD i j)[n]? = some d) : d = .int (i + (n : Nat)) := by
  unfold intsD at h
  rw [List.getElem?_map] at h
  cases e : (List.range (j - i).toNat)[n]? with
  | none => rw [e] at h; simp at h
  | some x =>
    rw [e] at h
    have hx : x = n := by
      have := List.getElem?_range (n := (j - i).toNat) (i := n)
      have hl := (List.getElem?_eq_some_iff.mp e).1
      rw [List.getElem?_eq_getElem hl] at e
      simpa using (Option.some.inj e).symm
    subst hx
    simpa using h.symm
theorem one_int {G : Gx} {F : Hp} {i : Int} {vs : List V} (h : AtL G F [.int i] vs) : vs = [.int i] := by
  obtain ⟨v, rfl, a⟩ := h.one
  cases a
  rfl
theorem two_int {G : Gx} {F : Hp} {i j : Int} {vs : List V} (h : AtL G F [.int i, .int j] vs) : vs = [.int i, .int j] := by
  obtain ⟨v, u, rfl, a, b⟩ := h.two
  cases a
  cases b
  rfl
theorem mil {n : Nat} (h : n ≤ 2000000) : n ≤ sizeLine := Nat.le_trans h (by decide)
theorem di_range1 {wa : WN} (hg : Gl X "range") (hm : X.mg "range" = none) (h : DA G X [e] wa) (hs : starEach [e] X.env = [(false, eval e X.env)] := by rfl) : DI G X tg (.Call (.Name "range" p) [e] [] pos) (wRng1 wa) := ⟨⟨fun pins s σ H R I ⟨b, F, ρ, post, hI, hw, q⟩ => by
  obtain ⟨t, h1, h2⟩ := h.ex
  refine (pi_range1 hg hm h1 hs).run pins s σ H R I (h2 b σ H F ρ _ hI hw _ fun vs H1 F1 ρ1 ds s1 I1 a1 h1 => ?_)
  split at h1
  · rename_i j
    rw [one_int a1]
    have hn := intsD_length 0 j
    refine ⟨j, rfl, by omega, by omega, q _ H1 F1 ρ1 (intsD 0 j) (fun _ => True) _ s1 I1 h1.2.2 (mil (by omega)) (by rw [hn, Int.sub_zero]; exact walk_range) (fun _ _ _ _ => trivial) fun i d F2 H2 x H3 ed s2 s3 y => ?_⟩
    obtain ⟨rfl, rfl⟩ := y
    rw [intsD_get ed]
    exact ⟨F2, Grow.refl s3, .int _⟩
  · exact h1.elim⟩⟩
theorem di_range2 {wa : WN} (hg : Gl X "range") (hm : X.mg "range" = none) (h : DA G X [e, e2] wa) (hs : starEach [e, e2] X.env = [(false, eval e X.env), (false, eval e2 X.env)] := by rfl) (hs2 : starEach [e2] X.env = [(false, eval e2 X.env)] := by rfl) : DI G X tg (.Call (.Name "range" p) [e, e2] [] pos) (wRng2 wa) := ⟨⟨fun pins s σ H R I ⟨b, F, ρ, post, hI, hw, q⟩ => by
  obtain ⟨t, h1, h2⟩ := h.ex
  refine (pi_range2 hg hm h1 hs hs2).run pins s σ H R I (h2 b σ H F ρ _ hI hw _ fun vs H1 F1 ρ1 ds s1 I1 a1 h1 => ?_)
  split at h1
  · rename_i i j
    rw [two_int a1]
    have hn := intsD_length i j
    refine ⟨i, j, rfl, ⟨by omega, by omega, by omega, by omega⟩, q _ H1 F1 ρ1 (intsD i j) (fun _ => True) _ s1 I1 h1.2 (mil (by omega)) (by rw [hn]; exact walk_range) (fun _ _ _ _ => trivial) fun i d F2 H2 x H3 ed s2 s3 y => ?_⟩
    obtain ⟨rfl, rfl⟩ := y
    rw [intsD_get ed]
    exact ⟨F2, Grow.refl s3, .int _⟩
  · exact h1.elim⟩⟩
/-- list(range(..)) -/
def wLstR (wr : WN) : WN := wr
theorem dn_listR1 {wa : WE} {p2 pos2 : Pos} (hc : X.calm = true) (hg : Gl X "list") (hm : X.mg "list" = none) (hg2 : Gl X "range") (hm2 : X.mg "range" = none) (h : DE G X e wa)
    (na : starEach [.Call (.Name "range" p2) [e] [] pos2] X.env = (false, eval (.Call (.Name "range" p2) [e] [] pos2) X.env) :: starEach [] X.env := by rfl) (nb : starEach [e] X.env = (false, eval e X.env) :: starEach [] X.env := by rfl) :
    DN G X (.Call (.Name "list" p) [.Call (.Name "range" p2) [e] [] pos2] [] pos) (wRng1 (wCons wa wNil)) := by
  obtain ⟨t, h1, h2⟩ := h.ex
  refine .of ⟨_, pe_listRg hc hg hm (prg_1 hg2 hm2 h1 nb) na, fun b σ H F ρ post I hw Q q => h2 b σ H F ρ _ I hw _ fun v H1 F1 ρ1 d s1 I1 a1 h1 => ?_⟩
  have h1' : (match [d] with
    | [.int j] => j ≤ 1000000 ∧ -1000000 ≤ j ∧ post ρ1 (.lst ((intsD 0 j).map .v))
    | _ => False) := h1
  cases d with
  | int j =>
    cases a1
    have h1'' : j ≤ 1000000 ∧ -1000000 ≤ j ∧ post ρ1 (.lst ((intsD 0 j).map .v)) := h1'
    refine ⟨j, rfl, ⟨by omega, by omega, by omega, by omega, by omega⟩, fun r hr => ?_⟩
    exact q_new I1 hr (intsD_at 0 _) s1 q h1''.2.2
  | _ => exact h1'.elim
end
end J

set_option Elab.async false
set_option linter.all false
set_option maxRecDepth 100000
set_option maxHeartbeats 4000000
namespace J
open PySem PySem.Spec PyProof.Rows L2

/-! ### a block's names -/
def memN : Nat → List Nat → Bool
  | _, [] => false
  | k, v :: r => Nat.beq k v || memN k r
theorem memN_iff {k : Nat} : ∀ {vs : List Nat}, memN k vs = true ↔ k ∈ vs
  | [] => by simp [memN]
  | v :: r => by
    unfold memN
    rw [Bool.or_eq_true, memN_iff (vs := r), List.mem_cons, Nat.beq_eq]
def wipeB (ρ : Env) : List Nat → Env
  | [] => ρ
  | v :: vs => (wipeB ρ vs).set v none
def wipeF (fps : List (List Addr)) : List Nat → List (List Addr)
  | [] => fps
  | v :: vs => (wipeF fps vs).set v []
/-- a slot that does not change stands again; another one is forgotten -/
def keepB : Option T → Option T
  | some (.v d) => some (.v d)
  | _ => none
/-- what stood in the block's names stands again -/
def mrg : Nat → List Nat → Env → Env → Env
  | k, vs, x :: r, y :: s => (match memN k vs with
    | true => keepB x
    | false => y) :: mrg (k + 1) vs r s
  | _, _, _, _ => []
def mrgF : Nat → List Nat → List (List Addr) → List (List Addr)
  | k, vs, y :: s => (match memN k vs with
    | true => []
    | false => y) :: mrgF (k + 1) vs s
  | _, _, [] => []
theorem mrg_length : ∀ (k : Nat) (vs : List Nat) (r s : Env), r.length = s.length → (mrg k vs r s).length = r.length
  | _, _, [], [], _ => rfl
  | k, vs, x :: r, y :: s, h => by
    simp only [mrg, List.length_cons]
    rw [mrg_length (k + 1) vs r s (by simpa using h)]
theorem mrgF_length : ∀ (k : Nat) (vs : List Nat) (s : List (List Addr)), (mrgF k vs s).length = s.length
  | _, _, [] => rfl
  | k, vs, y :: s => by
    simp only [mrgF, List.length_cons]
    rw [mrgF_length (k + 1) vs s]
theorem mrgF_sub : ∀ (k : Nat) (vs : List Nat) (s : List (List Addr)), (mrgF k vs s).flatten.Sublist s.flatten
  | _, _, [] => List.Sublist.refl _
  | k, vs, y :: s => by
    simp only [mrgF, List.flatten_cons]
    refine List.Sublist.append ?_ (mrgF_sub (k + 1) vs s)
    split
    · exact List.nil_sublist _
    · exact List.Sublist.refl _
theorem mrg_get : ∀ (k : Nat) (vs : List Nat) (r s : Env) (i : Nat) (z : Option T), (mrg k vs r s)[i]? = some z →
    (k + i ∈ vs ∧ ∃ x, r[i]? = some x ∧ z = keepB x) ∨ (k + i ∉ vs ∧ s[i]? = some z)
  | _, _, [], _, i, z, h => by simp [mrg] at h
  | _, _, _ :: _, [], i, z, h => by simp [mrg] at h
  | k, vs, x :: r, y :: s, 0, z, h => by
    simp only [mrg, List.getElem?_cons_zero, Option.some.injEq] at h
    by_cases m : memN k vs = true
    · rw [m] at h
      exact .inl ⟨memN_iff.mp m, x, rfl, h.symm⟩
    · rw [Bool.not_eq_true] at m
      rw [m] at h
      exact .inr ⟨fun q => (by rw [memN_iff.mpr (by simpa using q)] at m; cases m), by simpa using h⟩
  | k, vs, x :: r, y :: s, i + 1, z, h => by
    simp only [mrg, List.getElem?_cons_succ] at h
    rcases mrg_get (k + 1) vs r s i z h with ⟨h1, x', h2, h3⟩ | ⟨h1, h2⟩
    · exact .inl ⟨by rw [show k + (i + 1) = k + 1 + i by omega]; exact h1, x', by simpa using h2, h3⟩
    · exact .inr ⟨by rw [show k + (i + 1) = k + 1 + i by omega]; exact h1, by simpa using h2⟩
theorem mrgF_get : ∀ (k : Nat) (vs : List Nat) (s : List (List Addr)) (i : Nat), k + i ∉ vs → (mrgF k vs s)[i]? = s[i]?
  | _, _, [], i, _ => by simp [mrgF]
  | k, vs, y :: s, 0, h => by
    simp only [mrgF, List.getElem?_cons_zero]
    have : memN k vs = false := by
      rw [← Bool.not_eq_true, memN_iff]
      simpa using h
    rw [this]
  | k, vs, y :: s, i + 1, h => by
    simp only [mrgF, List.getElem?_cons_succ]
    exact mrgF_get (k + 1) vs s i (by rw [show k + 1 + i = k + (i + 1) by omega]; exact h)
theorem mrgF_get' : ∀ (k : Nat) (vs : List Nat) (s : List (List Addr)) (i : Nat), k + i ∈ vs → i < s.length → (mrgF k vs s)[i]? = some []
  | _, _, [], i, _, h => by simp at h
  | k, vs, y :: s, 0, h, _ => by
    simp only [mrgF, List.getElem?_cons_zero]
    rw [memN_iff.mpr (by simpa using h)]
  | k, vs, y :: s, i + 1, h, hl => by
    simp only [mrgF, List.getElem?_cons_succ]
    exact mrgF_get' (k + 1) vs s i (by rw [show k + 1 + i = k + (i + 1) by omega]; exact h) (by simpa using hl)
section
variable {G : Gx} {b : Bs} {σ : L2.St} {H F H' F' : Hp} {ρ ρ' : Env} {fps fps' : List (List Addr)}
theorem StF.wipe (h : StF G b σ H F ρ fps) : ∀ vs : List Nat, (∀ v ∈ vs, v ∉ G.pr) → StF G b (L2.wipe σ vs) H F (wipeB ρ vs) (wipeF fps vs)
  | [], _ => h
  | v :: vs, n => (StF.wipe h vs fun x m => n x (List.mem_cons_of_mem _ m)).setUn (n v List.mem_cons_self)
theorem wipeF_mem : ∀ {vs : List Nat} {a : Addr}, a ∈ (wipeF fps vs).flatten → a ∈ fps.flatten
  | [], _, h => h
  | v :: vs, a, h => by
    rcases set_flat_mem h with h | h
    · simp at h
    · exact wipeF_mem (vs := vs) h
theorem wipeB_len : ∀ (ρ : Env) (vs : List Nat), (wipeB ρ vs).length = ρ.length
  | _, [] => rfl
  | ρ, v :: vs => by unfold wipeB; rw [List.length_set, wipeB_len ρ vs]
theorem StF.merge {vs : List Nat} (h : StF G b σ H F ρ fps) (s : Same F F') (h' : StF G b (L2.wipe σ vs) H' F' ρ' fps') : StF G b σ H' F' (mrg 0 vs ρ ρ') (mrgF 0 vs fps') := by
  have hl : ρ.length = ρ'.length := by rw [h.len, h'.len, wipe_length]
  have sg : ∀ {i : Nat}, i ∉ vs → (L2.wipe σ vs)[i]? = σ[i]? := fun {i} hi => by rw [wipe_get, if_neg hi]
  have sub := mrgF_sub 0 vs fps'
  refine ⟨h'.fb, by rw [mrg_length 0 vs ρ ρ' hl]; exact h.len, by rw [mrgF_length, mrg_length 0 vs ρ ρ' hl, hl]; exact h'.lenF, fun i t e => ?_, h'.nodup.sublist sub, fun a m => h'.mine a (sub.subset m), fun a m => h'.live a (sub.subset m), h.pro⟩
  rcases mrg_get 0 vs ρ ρ' i _ e with ⟨hi, x', ex, z⟩ | ⟨hi, ex⟩
  · rw [Nat.zero_add] at hi
    cases x' with
    | none => cases z
    | some t' =>
      cases t' with
      | v d =>
        cases z
        obtain ⟨v, fp, e1, e2, a⟩ := h.slot i _ ex
        cases a with
        | v a =>
          refine ⟨v, [], e1, ?_, .v (a.up s)⟩
          have l1 : i < fps'.length := by rw [h'.lenF, ← hl]; exact (List.getElem?_eq_some_iff.mp ex).1
          exact mrgF_get' 0 vs fps' i (by rw [Nat.zero_add]; exact hi) l1
      | _ => cases z
  · rw [Nat.zero_add] at hi
    obtain ⟨v, fp, e1, e2, a⟩ := h'.slot i _ ex
    exact ⟨v, fp, by rw [← sg hi]; exact e1, by rw [mrgF_get 0 vs fps' i (by rw [Nat.zero_add]; exact hi)]; exact e2, a⟩
end

/-! ### a block's tests -/
structure DTs (G : G0) (X : Cx) (ifs : List Expr) (w : WT) : Prop where
  run : PTs X ifs (canT (gx X G) w)
def wYes : WT := fun ρ post => post ρ true
theorem dts_nil {G : G0} {X : Cx} : DTs G X [] wYes := ⟨⟨fun pins s σ H Q I ⟨b, F, ρ, post, i, hw, q⟩ => pts_nil.run pins s σ H Q I (q true H F ρ (Same.refl _) i hw)⟩⟩
theorem dts_one {G : G0} {X : Cx} {c : Expr} {w : WT} (h : DT G X c w) : DTs G X [c] w := ⟨pts_one h.run⟩

/-! ### list comprehensions -/
/-- a new tree at D, of no slot -/
structure LcAt (G : Gx) (b : Bs) (σ : L2.St) (D : Addr) (F1 : Hp) (H F : Hp) (ρ : Env) (acc : List T) : Prop where
  ex : ∃ fps fp, StF G b σ H F ρ fps ∧ Same F1 F ∧ AtT G F H (.lst acc) (.ref D) fp ∧ fp.Nodup ∧ ∀ x ∈ fp, b.H0 x = none ∧ x ∉ fps.flatten
section
variable {G : Gx} {b : Bs} {σ σ' : L2.St} {D : Addr} {F1 H F H' F' : Hp} {ρ ρ' : Env} {acc : List T}
theorem LcAt.same (L : LcAt G b σ D F1 H F ρ acc) : Same F1 F := by obtain ⟨fps, fp, _, s, _⟩ := L; exact s
theorem LcAt.sub (L : LcAt G b σ D F1 H F ρ acc) : Same F H := by obtain ⟨fps, fp, I, _⟩ := L; exact I.fb.sub
theorem LcAt.at_ (L : LcAt G b σ D F1 H F ρ acc) : ∃ accV, H D = some (.lst accV) ∧ accV.length = acc.length := by
  obtain ⟨fps, fp, I, _, a, _⟩ := L
  cases a with
  | lst h1 h2 h3 => exact ⟨_, h1, h3.length.symm⟩
/-- what is evaluated from here on keeps the block's list; a tree that is evaluated may be put behind it -/
theorem LcAt.now (L : LcAt G b σ D F1 H F ρ acc) : ∃ b', StOk G b' σ H F ρ ∧ (∀ {σ' : L2.St} {H' F' : Hp} {ρ' : Env}, StOk G b' σ' H' F' ρ' → LcAt G b σ' D F1 H' F' ρ' acc) ∧
    ∀ {σ' : L2.St} {H' F' : Hp} {ρ' : Env} {fps' : List (List Addr)} {t : T} {y : V} {fp : List Addr}, StF G b' σ' H' F' ρ' fps' → AtT G F' H' t y fp → fp.Nodup → (∀ x ∈ fp, b'.H0 x = none ∧ x ∉ fps'.flatten) →
      ∃ accV, H' D = some (.lst accV) ∧ accV.length = acc.length ∧ LcAt G b σ' D F1 (upd H' D (.lst (accV ++ [y]))) F' ρ' (acc ++ [t]) := by
  obtain ⟨fps, fpD, I, s, a0, nd0, hf0⟩ := L
  refine ⟨_, I.now.ok, fun {σ' H' F' ρ'} h => ?_, fun {σ' H' F' ρ' fps' t y fp} h a nd hf => ?_⟩
  · obtain ⟨⟨fps', h⟩⟩ := h
    obtain ⟨g1, g2, g3⟩ := held_of I h
    obtain ⟨k1, k2⟩ := g3.tree g2 a0 fun x m => (hf0 x m).2
    exact ⟨fps', fpD, g1, s.trans g2, k1, nd0, fun x m => ⟨(hf0 x m).1, k2 x m⟩⟩
  · obtain ⟨g1, g2, g3⟩ := held_of I h
    obtain ⟨k1, k2⟩ := g3.tree g2 a0 fun x m => (hf0 x m).2
    have q2 : ∀ x ∈ fp, x ∉ fpD := fun x m z => by
      obtain ⟨_, o, eo, _⟩ := a0.free _ _ _ x z
      have := (hf x m).1
      have e : H x = none := this
      rw [e] at eo; cases eo
    cases k1 with
    | @lst _ accV _ fq h1 h2 h3 =>
      have hD := hf0 D List.mem_cons_self
      have nD : D ∉ fq := (List.nodup_cons.mp nd0).1
      have nDp : D ∉ fp := fun z => q2 D z List.mem_cons_self
      have ne : ∀ {l : List Addr}, D ∉ l → ∀ x ∈ l, x ≠ D := fun {l} n x m z => n (by rw [← z]; exact m)
      refine ⟨accV, h1, h3.length.symm, fps', D :: (fq ++ (fp ++ [])), g1.writeApart h2 hD.1 (k2 D List.mem_cons_self), s.trans g2, .lst upd_same h2 ((AtTL.frame (Same.refl _) _ _ _ h3 (fun x m o e => by rw [upd_ne (ne nD x m)]; exact e) fun x m => (AtTL.free _ _ _ h3 x m).1).append
        (.cons (AtT.frame (Same.refl _) _ _ _ a (fun x m o e => by rw [upd_ne (ne nDp x m)]; exact e) fun x m => (a.free _ _ _ x m).1) .nil)), ?_, fun x m => ?_⟩
      · rw [List.append_nil, List.nodup_cons, List.nodup_append]
        refine ⟨fun z => ?_, (List.nodup_cons.mp nd0).2, nd, fun x m y m' e => ?_⟩
        · rcases List.mem_append.mp z with z | z
          · exact nD z
          · exact nDp z
        · subst e
          exact q2 x m' (List.mem_cons_of_mem _ m)
      · rw [List.append_nil] at m
        rcases List.mem_cons.mp m with rfl | m
        · exact ⟨hD.1, k2 _ List.mem_cons_self⟩
        · rcases List.mem_append.mp m with m | m
          · exact ⟨(hf0 x (List.mem_cons_of_mem _ m)).1, k2 x (List.mem_cons_of_mem _ m)⟩
          · exact ⟨I.fb.there x (hf x m).1, (hf x m).2⟩
theorem LcAt.grow (L : LcAt G b σ D F1 H F ρ acc) (g : Grow F H F' H') : LcAt G b σ D F1 H' F' ρ acc := by
  obtain ⟨fps, fp, I, s, a, nd, hf⟩ := L
  refine ⟨fps, fp, I.grow g, s.trans g.f, AtT.frame g.f _ _ _ a (fun x _ o e => g.h _ _ e) fun x m => ?_, nd, hf⟩
  obtain ⟨n, o, eo, _⟩ := a.free _ _ _ x m
  exact g.none eo n
theorem LcAt.wipe (L : LcAt G b σ D F1 H F ρ acc) (vs : List Nat) (n : ∀ v ∈ vs, v ∉ G.pr) : LcAt G b (L2.wipe σ vs) D F1 H F (wipeB ρ vs) acc := by
  obtain ⟨fps, fp, I, s, a, nd, hf⟩ := L
  exact ⟨wipeF fps vs, fp, I.wipe vs n, s, a, nd, fun x m => ⟨(hf x m).1, fun z => (hf x m).2 (wipeF_mem z)⟩⟩
end
def wLc (wi : WN) (vs : List Nat) (g : WG) (tt : WT) (te : WQ) : WQ := fun ρ post => wi ρ fun ρ1 ds => ∃ Iv : Nat → List T → Env → Prop, Iv 0 [] (wipeB ρ1 vs) ∧
  (∀ i d acc ρ, ds[i]? = some d → Iv i acc ρ → g d ρ fun ρ2 => tt ρ2 fun ρ3 k => match k with
    | true => te ρ3 fun ρ4 x => Iv (i + 1) (acc ++ [x]) (wipeB ρ4 vs)
    | false => Iv (i + 1) acc (wipeB ρ3 vs)) ∧
  ∀ acc ρ, Iv ds.length acc ρ → post (mrg 0 vs ρ1 ρ) (.lst acc)
theorem wipe_wipe {σ : L2.St} {vs1 vs : List Nat} (h : ∀ i ∈ vs1, i ∈ vs) : L2.wipe (L2.wipe σ vs1) vs = L2.wipe σ vs := by
  apply List.ext_getElem?
  intro j
  by_cases hm : j ∈ vs
  · simp [wipe_get, wipe_length, hm]
  · have h1 : j ∉ vs1 := fun z => hm (h j z)
    simp [wipe_get, wipe_length, hm, h1]
theorem LcAt.new {G : Gx} {b : Bs} {σ : L2.St} {D : Addr} {H F : Hp} {ρ : Env} {fps : List (List Addr)} (I : StF G b σ H F ρ fps) (hD : H D = none) : LcAt G b σ D F (upd H D (.lst [])) F ρ [] := by
  obtain ⟨I2, f1, f2, f3⟩ := I.fresh (o := .lst []) hD
  exact ⟨fps, [D], I2, Same.refl _, .lst upd_same f1 .nil, by simp, fun x m => by simp at m; subst m; exact ⟨f2, f3⟩⟩
/-- behind the block -/
theorem LcAt.done {G : Gx} {b : Bs} {σ : L2.St} {D : Addr} {F0 F1 H1 H F : Hp} {ρ1 ρ : Env} {fps1 : List (List Addr)} {vs : List Nat} {acc : List T} {post : Env → T → Prop} {Q : VK} (L : LcAt G b (L2.wipe σ vs) D F1 H F ρ acc) (I1 : StF G b σ H1 F1 ρ1 fps1) (s1 : Same F0 F1)
    (q : ∀ v H' F' ρ' fps' t fp, Same F0 F' → StF G b σ H' F' ρ' fps' → AtT G F' H' t v fp → fp.Nodup → (∀ x ∈ fp, b.H0 x = none ∧ x ∉ fps'.flatten) → post ρ' t → Q v H') (h : post (mrg 0 vs ρ1 ρ) (.lst acc)) : Q (.ref D) H := by
  obtain ⟨fps, fp, I, s, a, nd, hf⟩ := L
  exact q _ H F _ _ _ fp (s1.trans s) (I1.merge s I) a nd (fun x m => ⟨(hf x m).1, fun z => (hf x m).2 ((mrgF_sub 0 vs fps).subset z)⟩) h
theorem snd_lc {G : Gx} {wi : WN} {ts vs : List Nat} {g : WG} {tt : WT} {te : WQ} (hpr : ∀ v ∈ vs, v ∉ G.pr) (hts : ∀ i ∈ ts, i ∈ vs) : SndQ G (tLc (canI G wi) (canG G ts g) (canT G tt) (canQ G te) vs) (wLc wi vs g tt te) := fun b σ H F ρ post I hw Q q =>
  ⟨b, F, ρ, _, I, hw, fun J H1 F1 ρ1 ds Gw Y s1 I1 ⟨Iv, h0, hstep, hend⟩ hz wk hG hY D hD => by
    obtain ⟨⟨fps1, I1⟩⟩ := I1
    have L0 := LcAt.new I1 hD
    refine lc_it wk (fun i H2 => ∃ F2 ρ2 acc, LcAt G b (L2.wipe σ vs) D F1 H2 F2 ρ2 acc ∧ acc.length ≤ i ∧ Iv i acc ρ2) ⟨F1, _, [], L0.wipe vs hpr, Nat.le_refl _, h0⟩
      (fun i H2 _ ⟨F2, ρ2, acc, L, _, _⟩ => hG F2 H2 L.same L.sub) (fun i x H2 H3 hi ⟨F2, ρ2, acc, L, hl, iv⟩ y => ?_) (fun H2 ⟨F2, ρ2, acc, L, hl, iv⟩ => ?_)
    · have ed : ds[i]? = some ds[i] := List.getElem?_eq_getElem hi
      obtain ⟨F3, g3, a3⟩ := hY i _ F2 H2 x H3 ed L.same L.sub y
      have L3 := L.grow g3
      obtain ⟨b3, I3, mv3, _⟩ := L3.now
      refine ⟨b3, F3, ρ2, _, _, I3, a3, hstep i _ acc ρ2 ed iv, fun σ4 H4 F4 ρ4 s4 I4 o4 h4 => ?_⟩
      have L4 := mv3 I4
      have ew : L2.wipe σ4 vs = L2.wipe σ vs := by
        rw [o4.wipe hts]
        exact wipe_wipe fun _ h => h
      obtain ⟨b4, I4', mv4, _⟩ := L4.now
      refine ⟨ew, b4, F4, ρ4, _, I4', h4, fun k H5 F5 ρ5 s5 I5 h5 => ?_⟩
      have L5 := mv4 I5
      cases k with
      | false =>
        refine iteF ?_
        have L6 := L5.wipe vs hpr
        rw [ew] at L6
        exact ⟨F5, _, acc, L6, by omega, h5⟩
      | true =>
        refine iteT ?_
        obtain ⟨b5, I5', mv5, put5⟩ := L5.now
        refine ⟨b5, F5, ρ5, _, I5', h5, fun v H6 F6 ρ6 fps6 t fp6 s6 I6 a6 nd6 hf6 h6 => ?_⟩
        obtain ⟨accV, e, el, L7⟩ := put5 I6 a6 nd6 hf6
        have L8 := L7.wipe vs hpr
        rw [ew] at L8
        exact ⟨accV, e, by rw [el]; omega, F6, _, _, L8, by rw [List.length_append, List.length_singleton]; omega, h6⟩
    · obtain ⟨accV, e, _⟩ := L.at_
      exact L.done I1 s1 q (hend acc ρ2 iv)⟩
section
variable {G : G0} {X : Cx} {elt tg iter tg1 iter1 : Expr} {ifs ifs1 : List Expr} {scope : Scope} {own : List (Str × Nat)} {pos : Pos} {wi wi1 : WN} {ts ts1 vs1 : List Nat} {g g1 : WG} {tt tt1 : WT} {te : WQ}
theorem dq_lc (own : List (Str × Nat)) (hpr : ∀ v ∈ own.map (·.2), v ∉ G.pr) (hc : X.calm = true) (hN : X.N.Nodup) (hi : DI G X tg iter wi) (ok : BlkOk X.N X.env.scope scope own) (hts : ∀ i ∈ ts, i ∈ own.map (·.2))
    (hg : ∀ (s : Shared) (H : Hp) (C : Addr) (cl : List (Str × Addr)) (fp : List Addr), DG G (X.blk s H scope (compEnvC scope cl C X.env) fp) tg ts g) (ht : ∀ (s : Shared) (H : Hp) (C : Addr) (cl : List (Str × Addr)) (fp : List Addr), DTs G (X.blk s H scope (compEnvC scope cl C X.env) fp) ifs tt)
    (he : ∀ (s : Shared) (H : Hp) (C : Addr) (cl : List (Str × Addr)) (fp : List Addr), DQ G (X.blk s H scope (compEnvC scope cl C X.env) fp) elt te) (hs : ∀ x, foldedSetIterable iter X.env x = pure x := by intro _; rfl) :
    DQ G X (.ListComp elt [⟨tg, iter, ifs, 0⟩] scope pos) (wLc wi (own.map (·.2)) g tt te) :=
  .of ⟨_, pe_lc hc hN hi.run ok (fun s H C cl fp => (hg s H C cl fp).run) (fun s H C cl fp => (ht s H C cl fp).run) (fun s H C cl fp => (he s H C cl fp).run) hs, snd_lc hpr hts⟩
end
/-! ### two clauses -/
def wLc2 (wi : WN) (vs : List Nat) (g : WG) (tt : WT) (wi1 : WN) (vs1 : List Nat) (g1 : WG) (tt1 : WT) (te : WQ) : WQ := fun ρ post => wi ρ fun ρ1 ds => ∃ Iv : Nat → List T → Env → Prop, Iv 0 [] (wipeB ρ1 vs) ∧
  (∀ i d acc ρ, ds[i]? = some d → Iv i acc ρ → g d ρ fun ρ2 => tt ρ2 fun ρ3 k => match k with
    | true => wi1 ρ3 fun ρ4 es => ∃ Iw : Nat → List T → Env → Prop, Iw 0 acc (wipeB ρ4 vs1) ∧
      (∀ j e acc ρ, es[j]? = some e → Iw j acc ρ → g1 e ρ fun ρ5 => tt1 ρ5 fun ρ6 k => match k with
        | true => te ρ6 fun ρ7 x => acc.length < 1000000 ∧ Iw (j + 1) (acc ++ [x]) (wipeB ρ7 vs1)
        | false => Iw (j + 1) acc (wipeB ρ6 vs1)) ∧
      ∀ acc ρ, Iw es.length acc ρ → Iv (i + 1) acc (wipeB ρ vs)
    | false => Iv (i + 1) acc (wipeB ρ3 vs)) ∧
  ∀ acc ρ, Iv ds.length acc ρ → post (mrg 0 vs ρ1 ρ) (.lst acc)
theorem LcAt.reb {G : Gx} {b : Bs} {σ : L2.St} {D : Addr} {F1 F2 H F : Hp} {ρ : Env} {acc : List T} (L : LcAt G b σ D F1 H F ρ acc) (s : Same F2 F) : LcAt G b σ D F2 H F ρ acc := by
  obtain ⟨fps, fp, I, _, a, nd, hf⟩ := L
  exact ⟨fps, fp, I, s, a, nd, hf⟩
theorem snd_lc2 {G : Gx} {wi wi1 : WN} {ts vs ts1 vs1 : List Nat} {g g1 : WG} {tt tt1 : WT} {te : WQ} (hpr : ∀ v ∈ vs, v ∉ G.pr) (hts : ∀ i ∈ ts, i ∈ vs) (hts1 : ∀ i ∈ ts1, i ∈ vs1) (hv : ∀ i ∈ vs1, i ∈ vs) :
    SndQ G (tLc2 (canI G wi) (canG G ts g) (canT G tt) (canI G wi1) (canG G ts1 g1) (canT G tt1) (canQ G te) vs vs1) (wLc2 wi vs g tt wi1 vs1 g1 tt1 te) := fun b σ H F ρ post I hw Q q =>
  ⟨b, F, ρ, _, I, hw, fun J H1 F1 ρ1 ds Gw Y s1 I1 ⟨Iv, h0, hstep, hend⟩ hz wk hG hY D hD => by
    obtain ⟨⟨fps1, I1⟩⟩ := I1
    have L0 := LcAt.new I1 hD
    refine ⟨fun i m H2 => m = ds.length - i ∧ i ≤ ds.length ∧ ∃ F2 ρ2 acc, LcAt G b (L2.wipe σ vs) D F1 H2 F2 ρ2 acc ∧ Iv i acc ρ2, ⟨ds.length, by simp, Nat.zero_le _, F1, _, [], L0.wipe vs hpr, h0⟩, ?_⟩
    rintro i m H2 ⟨rfl, hi, F2, ρ2, acc, L, iv⟩
    by_cases hlt : i < ds.length
    · refine .inr ⟨wk.goes i H2 hlt (hG F2 H2 L.same L.sub), fun H' => ∃ F2 ρ2 acc, LcAt G b (L2.wipe σ vs) D F1 H' F2 ρ2 acc ∧ Iv (i + 1) acc ρ2, fun H' p' => ⟨ds.length - (i + 1), by omega, rfl, hlt, p'⟩, fun x H3 y0 => ?_⟩
      have y := wk.yields i H2 x H3 hlt (hG F2 H2 L.same L.sub) y0
      have ed : ds[i]? = some ds[i] := List.getElem?_eq_getElem hlt
      obtain ⟨F3, g3, a3⟩ := hY i _ F2 H2 x H3 ed L.same L.sub y
      have L3 := L.grow g3
      obtain ⟨b3, I3, mv3, _⟩ := L3.now
      refine ⟨b3, F3, ρ2, _, _, I3, a3, hstep i _ acc ρ2 ed iv, fun σ4 H4 F4 ρ4 s4 I4 o4 h4 => ?_⟩
      have L4 := mv3 I4
      have ew : L2.wipe σ4 vs = L2.wipe σ vs := by
        rw [o4.wipe hts]
        exact wipe_wipe fun _ h => h
      obtain ⟨b4, I4', mv4, _⟩ := L4.now
      refine ⟨ew, b4, F4, ρ4, _, I4', h4, fun k H5 F5 ρ5 s5 I5 h5 => ?_⟩
      have L5 := mv4 I5
      cases k with
      | false =>
        refine iteF ?_
        have L6 := L5.wipe vs hpr
        rw [ew] at L6
        exact ⟨F5, _, acc, L6, h5⟩
      | true =>
        refine iteT ?_
        obtain ⟨b5, I5', mv5, _⟩ := L5.now
        refine ⟨b5, F5, ρ5, _, I5', h5, fun J1 H6 F6 ρ6 es G1 Y1 s6 I6 ⟨Iw, w0, wstep, wend⟩ hz1 wk1 hG1 hY1 => ?_⟩
        have L6 := mv5 I6
        have L6' : LcAt G b σ4 D F6 H6 F6 ρ6 acc := L6.reb (Same.refl _)
        refine ⟨fun j m H7 => m = es.length - j ∧ j ≤ es.length ∧ ∃ F7 ρ7 acc, LcAt G b (L2.wipe σ4 vs1) D F6 H7 F7 ρ7 acc ∧ Iw j acc ρ7, ⟨es.length, by simp, Nat.zero_le _, F6, _, acc, L6'.wipe vs1 (fun v m => hpr v (hv v m)), w0⟩, ?_⟩
        rintro j m H7 ⟨rfl, hj, F7, ρ7, acc7, L7, iw⟩
        by_cases hlt1 : j < es.length
        · refine .inr ⟨wk1.goes j H7 hlt1 (hG1 F7 H7 L7.same L7.sub), fun H' => ∃ F7 ρ7 acc, LcAt G b (L2.wipe σ4 vs1) D F6 H' F7 ρ7 acc ∧ Iw (j + 1) acc ρ7, fun H' p' => ⟨es.length - (j + 1), by omega, rfl, hlt1, p'⟩, fun x1 H8 y1 => ?_⟩
          have yy := wk1.yields j H7 x1 H8 hlt1 (hG1 F7 H7 L7.same L7.sub) y1
          have ed1 : es[j]? = some es[j] := List.getElem?_eq_getElem hlt1
          obtain ⟨F8, g8, a8⟩ := hY1 j _ F7 H7 x1 H8 ed1 L7.same L7.sub yy
          have L8 := L7.grow g8
          obtain ⟨b8, I8, mv8, _⟩ := L8.now
          refine ⟨b8, F8, ρ7, _, _, I8, a8, wstep j _ acc7 ρ7 ed1 iw, fun σ9 H9 F9 ρ9 s9 I9 o9 h9 => ?_⟩
          have L9 := mv8 I9
          have ew1 : L2.wipe σ9 vs1 = L2.wipe σ4 vs1 := by
            rw [o9.wipe hts1]
            exact wipe_wipe fun _ h => h
          obtain ⟨b9, I9', mv9, _⟩ := L9.now
          refine ⟨ew1, b9, F9, ρ9, _, I9', h9, fun k Ha Fa ρa sa Ia ha => ?_⟩
          have La := mv9 Ia
          cases k with
          | false =>
            refine iteF ?_
            have Lb := La.wipe vs1 (fun v m => hpr v (hv v m))
            rw [ew1] at Lb
            exact ⟨Fa, _, acc7, Lb, ha⟩
          | true =>
            refine iteT ?_
            obtain ⟨ba, Ia', mva, puta⟩ := La.now
            refine ⟨ba, Fa, ρa, _, Ia', ha, fun v Hb Fb ρb fpsb t fpb sb Ib ab ndb hfb hb => ?_⟩
            obtain ⟨accV, e, el, Lc⟩ := puta Ib ab ndb hfb
            have Ld := Lc.wipe vs1 (fun v m => hpr v (hv v m))
            rw [ew1] at Ld
            exact ⟨accV, e, by rw [el]; exact Nat.lt_of_lt_of_le hb.1 (by decide), Fb, _, _, Ld, hb.2⟩
        · have ej : j = es.length := by omega
          subst ej
          refine .inl ⟨wk1.stops H7 (hG1 F7 H7 L7.same L7.sub), F7, _, acc7, ?_, wend acc7 ρ7 iw⟩
          have Lz := L7.wipe vs hpr
          rw [wipe_wipe hv, ew] at Lz
          exact Lz.reb (L6.same.trans L7.same)
    · have ei : i = ds.length := by omega
      subst ei
      obtain ⟨accV, e, _⟩ := L.at_
      exact .inl ⟨wk.stops H2 (hG F2 H2 L.same L.sub), L.done I1 s1 q (hend acc ρ2 iv)⟩⟩
section
variable {G : G0} {X : Cx} {elt tg iter tg1 iter1 : Expr} {ifs ifs1 : List Expr} {scope : Scope} {own : List (Str × Nat)} {pos : Pos} {wi wi1 : WN} {ts ts1 vs1 : List Nat} {g g1 : WG} {tt tt1 : WT} {te : WQ}
theorem dq_lc2 (own : List (Str × Nat)) (vs1 : List Nat) (hpr : ∀ v ∈ own.map (·.2), v ∉ G.pr) (hc : X.calm = true) (hN : X.N.Nodup) (hi : DI G X tg iter wi) (ok : BlkOk X.N X.env.scope scope own) (hv : ∀ i ∈ vs1, i ∈ own.map (·.2)) (hts : ∀ i ∈ ts, i ∈ own.map (·.2)) (hts1 : ∀ i ∈ ts1, i ∈ vs1)
    (hg : ∀ (s : Shared) (H : Hp) (C : Addr) (cl : List (Str × Addr)) (fp : List Addr), DG G (X.blk s H scope (compEnvC scope cl C X.env) fp) tg ts g) (ht : ∀ (s : Shared) (H : Hp) (C : Addr) (cl : List (Str × Addr)) (fp : List Addr), DTs G (X.blk s H scope (compEnvC scope cl C X.env) fp) ifs tt)
    (hi1 : ∀ (s : Shared) (H : Hp) (C : Addr) (cl : List (Str × Addr)) (fp : List Addr), DI G (X.blk s H scope (compEnvC scope cl C X.env) fp) tg1 iter1 wi1)
    (hg1 : ∀ (s : Shared) (H : Hp) (C : Addr) (cl : List (Str × Addr)) (fp : List Addr), DG G (X.blk s H scope (compEnvC scope cl C X.env) fp) tg1 ts1 g1) (ht1 : ∀ (s : Shared) (H : Hp) (C : Addr) (cl : List (Str × Addr)) (fp : List Addr), DTs G (X.blk s H scope (compEnvC scope cl C X.env) fp) ifs1 tt1)
    (he : ∀ (s : Shared) (H : Hp) (C : Addr) (cl : List (Str × Addr)) (fp : List Addr), DQ G (X.blk s H scope (compEnvC scope cl C X.env) fp) elt te) (hs : ∀ x, foldedSetIterable iter X.env x = pure x := by intro _; rfl) (hs1 : ∀ env x, foldedSetIterable iter1 env x = pure x := by intro _ _; rfl) :
    DQ G X (.ListComp elt [⟨tg, iter, ifs, 0⟩, ⟨tg1, iter1, ifs1, 0⟩] scope pos) (wLc2 wi (own.map (·.2)) g tt wi1 vs1 g1 tt1 te) :=
  .of ⟨_, pe_lc2 hc hN hi.run ok hv (fun s H C cl fp => (hg s H C cl fp).run) (fun s H C cl fp => (ht s H C cl fp).run) (fun s H C cl fp => (hi1 s H C cl fp).run) (fun s H C cl fp => (hg1 s H C cl fp).run) (fun s H C cl fp => (ht1 s H C cl fp).run) (fun s H C cl fp => (he s H C cl fp).run) hs hs1, snd_lc2 hpr hts hts1 hv⟩
end
end J

set_option Elab.async false
set_option linter.all false
set_option maxRecDepth 100000
set_option maxHeartbeats 4000000
namespace J
open PySem PySem.Spec PyProof.Rows L2

/-! ### places in a tree -/
def kids : T → Option (List T)
  | .v _ => none
  | .lst l => some l
  | .dic _ l => some l
  | .ins _ l => some l
def withKids : T → List T → T
  | .v d, _ => .v d
  | .lst _, l => .lst l
  | .dic ks _, l => .dic ks l
  | .ins c _, l => .ins c l
def getP : T → List Nat → Option T
  | t, [] => some t
  | t, j :: js => match kids t with
    | some l => (match l[j]? with
      | some s => getP s js
      | none => none)
    | none => none
def setP : T → List Nat → T → T
  | _, [], s => s
  | t, j :: js, s => match kids t with
    | some l => (match l[j]? with
      | some u => withKids t (l.set j (setP u js s))
      | none => t)
    | none => t
/-- what a place holds -/
inductive Reach (H : Hp) : T → V → List Nat → T → V → Prop
  | nil {t : T} {v : V} : Reach H t v [] t v
  | lst {a : Addr} {vs : List V} {ts : List T} {j : Nat} {js : List Nat} {s s' : T} {w u : V} : H a = some (.lst vs) → ts[j]? = some s → vs[j]? = some w → Reach H s w js s' u → Reach H (.lst ts) (.ref a) (j :: js) s' u
  | dic {a : Addr} {o : HO} {ks : List D} {vs : List V} {ts : List T} {j : Nat} {js : List Nat} {s s' : T} {w u : V} : H a = some o → DicH o ks vs → ts[j]? = some s → vs[j]? = some w → Reach H s w js s' u → Reach H (.dic ks ts) (.ref a) (j :: js) s' u
  | ins {a dx C : Addr} {c : Nat} {fs : List (Str × V)} {ts : List T} {j : Nat} {js : List Nat} {s s' : T} {w u : V} : H a = some (.ins C dx fs) → ts[j]? = some s → (fs.map (·.2))[j]? = some w → Reach H s w js s' u → Reach H (.ins c ts) (.ref a) (j :: js) s' u
section
variable {G : Gx} {b : Bs} {σ σ' : L2.St} {H F H' F' : Hp} {ρ ρ' : Env} {fps : List (List Addr)}
theorem Reach.up {t s : T} {v u : V} {js : List Nat} (h : Reach H t v js s u) (e : Same H H') : Reach H' t v js s u := by
  induction h with
  | nil => exact .nil
  | lst h1 h2 h3 _ ih => exact .lst (e _ _ h1) h2 h3 ih
  | dic h1 hd h2 h3 _ ih => exact .dic (e _ _ h1) hd h2 h3 ih
  | ins h1 h2 h3 _ ih => exact .ins (e _ _ h1) h2 h3 ih
theorem Reach.get {t s : T} {v u : V} {js : List Nat} (h : Reach H t v js s u) : getP t js = some s := by
  induction h with
  | nil => rfl
  | lst h1 h2 h3 _ ih => simp only [getP, kids, h2]; exact ih
  | dic h1 hd h2 h3 _ ih => simp only [getP, kids, h2]; exact ih
  | ins h1 h2 h3 _ ih => simp only [getP, kids, h2]; exact ih
theorem Reach.snoc_lst {t : T} {v w : V} {js : List Nat} {ts : List T} {vs : List V} {a : Addr} {j : Nat} {s : T} (h : Reach H t v js (.lst ts) (.ref a)) (h1 : H a = some (.lst vs)) (h2 : ts[j]? = some s) (h3 : vs[j]? = some w) : Reach H t v (js ++ [j]) s w := by
  generalize e1 : T.lst ts = n at h
  generalize e2 : V.ref a = m at h
  induction h with
  | nil => subst e1; subst e2; exact .lst h1 h2 h3 .nil
  | lst g1 g2 g3 _ ih => exact .lst g1 g2 g3 (ih e1 e2)
  | dic g1 gd g2 g3 _ ih => exact .dic g1 gd g2 g3 (ih e1 e2)
  | ins g1 g2 g3 _ ih => exact .ins g1 g2 g3 (ih e1 e2)
theorem Reach.snoc_dic {t : T} {v w : V} {js : List Nat} {ks : List D} {ts : List T} {o : HO} {vs : List V} {a : Addr} {j : Nat} {s : T} (h : Reach H t v js (.dic ks ts) (.ref a)) (h1 : H a = some o) (hd : DicH o ks vs) (h2 : ts[j]? = some s) (h3 : vs[j]? = some w) : Reach H t v (js ++ [j]) s w := by
  generalize e1 : T.dic ks ts = n at h
  generalize e2 : V.ref a = m at h
  induction h with
  | nil => subst e1; subst e2; exact .dic h1 hd h2 h3 .nil
  | lst g1 g2 g3 _ ih => exact .lst g1 g2 g3 (ih e1 e2)
  | dic g1 gd g2 g3 _ ih => exact .dic g1 gd g2 g3 (ih e1 e2)
  | ins g1 g2 g3 _ ih => exact .ins g1 g2 g3 (ih e1 e2)
theorem Reach.snoc_ins {t : T} {v w : V} {js : List Nat} {c : Nat} {ts : List T} {C dx : Addr} {fs : List (Str × V)} {a : Addr} {j : Nat} {s : T} (h : Reach H t v js (.ins c ts) (.ref a)) (h1 : H a = some (.ins C dx fs)) (h2 : ts[j]? = some s) (h3 : (fs.map (·.2))[j]? = some w) : Reach H t v (js ++ [j]) s w := by
  generalize e1 : T.ins c ts = n at h
  generalize e2 : V.ref a = m at h
  induction h with
  | nil => subst e1; subst e2; exact .ins h1 h2 h3 .nil
  | lst g1 g2 g3 _ ih => exact .lst g1 g2 g3 (ih e1 e2)
  | dic g1 gd g2 g3 _ ih => exact .dic g1 gd g2 g3 (ih e1 e2)
  | ins g1 g2 g3 _ ih => exact .ins g1 g2 g3 (ih e1 e2)
theorem set_id {α : Type} {l : List α} {j : Nat} {x : α} (h : l[j]? = some x) : l.set j x = l := by
  apply List.ext_getElem?
  intro i
  by_cases hi : j = i
  · subst hi
    rw [List.getElem?_set_self (List.getElem?_eq_some_iff.mp h).1, h]
  · rw [List.getElem?_set_ne hi]
/-- a place of a tree: its part, and another part in its place -/
theorem AtT.reach : ∀ {js : List Nat} {t s : T} {w0 : V} {fp : List Addr}, AtT G F H t w0 fp → getP t js = some s →
    ∃ u fs L R, Reach H t w0 js s u ∧ AtT G F H s u fs ∧ fp = L ++ fs ++ R ∧
      ∀ (F' H' : Hp) (s' : T) (fs' : List Addr), Same F F' → (∀ a ∈ L ++ R, ∀ o, H a = some o → H' a = some o) → (∀ a ∈ L ++ R, F' a = none) → AtT G F' H' s' u fs' → AtT G F' H' (setP t js s') w0 (L ++ fs' ++ R)
  | [], t, s, w0, fp, a, e => by
    cases e
    exact ⟨w0, fp, [], [], .nil, a, by simp, fun F' H' s' fs' _ _ _ a' => by simpa [setP] using a'⟩
  | j :: js, t, s, w0, fp, a, e => by
    cases a with
    | v a => simp [getP, kids] at e
    | @lst q vs ts fq h1 h2 h3 =>
      simp only [getP, kids] at e
      split at e
      · rename_i c ec
        obtain ⟨w, fw, L, R, e1, e2, e3, put⟩ := h3.at_ ec
        obtain ⟨u, fs, L', R', r1, r2, r3, put'⟩ := AtT.reach e2 e
        subst r3
        refine ⟨u, fs, q :: (L ++ L'), R' ++ R, .lst h1 ec e1 r1, r2, by rw [e3]; simp, fun F' H' s' fs' sf kh kf a' => ?_⟩
        have hc := put' F' H' s' fs' sf (fun x m => kh x (by rcases List.mem_append.mp m with m | m <;> simp [m])) (fun x m => kf x (by rcases List.mem_append.mp m with m | m <;> simp [m])) a'
        have hp := put F' H' _ w _ sf (fun x m => kh x (by rcases List.mem_append.mp m with m | m <;> simp [m])) (fun x m => kf x (by rcases List.mem_append.mp m with m | m <;> simp [m])) hc
        rw [set_id e1] at hp
        simp only [setP, kids, ec, withKids]
        have := AtT.lst (kh q (by simp) _ h1) (kf q (by simp)) hp
        simpa using this
      · cases e
    | @dic q o ks vs ts fq h1 hd h2 h3 =>
      simp only [getP, kids] at e
      split at e
      · rename_i c ec
        obtain ⟨w, fw, L, R, e1, e2, e3, put⟩ := h3.at_ ec
        obtain ⟨u, fs, L', R', r1, r2, r3, put'⟩ := AtT.reach e2 e
        subst r3
        refine ⟨u, fs, q :: (L ++ L'), R' ++ R, .dic h1 hd ec e1 r1, r2, by rw [e3]; simp, fun F' H' s' fs' sf kh kf a' => ?_⟩
        have hc := put' F' H' s' fs' sf (fun x m => kh x (by rcases List.mem_append.mp m with m | m <;> simp [m])) (fun x m => kf x (by rcases List.mem_append.mp m with m | m <;> simp [m])) a'
        have hp := put F' H' _ w _ sf (fun x m => kh x (by rcases List.mem_append.mp m with m | m <;> simp [m])) (fun x m => kf x (by rcases List.mem_append.mp m with m | m <;> simp [m])) hc
        rw [set_id e1] at hp
        simp only [setP, kids, ec, withKids]
        have := AtT.dic (kh q (by simp) _ h1) hd (kf q (by simp)) hp
        simpa using this
      · cases e
    | @ins q dx C c fs ts fq h1 hC hn h2 h3 =>
      simp only [getP, kids] at e
      split at e
      · rename_i c' ec
        obtain ⟨w, fw, L, R, e1, e2, e3, put⟩ := h3.at_ ec
        obtain ⟨u, fs', L', R', r1, r2, r3, put'⟩ := AtT.reach e2 e
        subst r3
        refine ⟨u, fs', q :: (L ++ L'), R' ++ R, .ins h1 ec e1 r1, r2, by rw [e3]; simp, fun F' H' s' fs' sf kh kf a' => ?_⟩
        have hc := put' F' H' s' fs' sf (fun x m => kh x (by rcases List.mem_append.mp m with m | m <;> simp [m])) (fun x m => kf x (by rcases List.mem_append.mp m with m | m <;> simp [m])) a'
        have hp := put F' H' _ w _ sf (fun x m => kh x (by rcases List.mem_append.mp m with m | m <;> simp [m])) (fun x m => kf x (by rcases List.mem_append.mp m with m | m <;> simp [m])) hc
        rw [set_id e1] at hp
        simp only [setP, kids, ec, withKids]
        have := AtT.ins (kh q (by simp) _ h1) hC (by rw [List.length_set]; exact hn) (kf q (by simp)) hp
        simpa using this
      · cases e
theorem DicH.inj {o : HO} {ks ks' : List D} {vs vs' : List V} (h : DicH o ks vs) (h' : DicH o ks' vs') : vs = vs' := by
  cases h
  cases h'
  rfl
theorem Reach.inj {t : T} {v : V} {js : List Nat} {s s' : T} {u u' : V} (h : Reach H t v js s u) (h' : Reach H t v js s' u') : s = s' ∧ u = u' := by
  induction h with
  | nil => cases h'; exact ⟨rfl, rfl⟩
  | lst h1 h2 h3 _ ih =>
    cases h' with
    | lst g1 g2 g3 g =>
      rw [h1] at g1; cases g1
      rw [h2] at g2; cases g2
      rw [h3] at g3; cases g3
      exact ih g
  | dic h1 hd h2 h3 _ ih =>
    cases h' with
    | dic g1 gd g2 g3 g =>
      rw [h1] at g1; cases g1
      rw [h2] at g2; cases g2
      have := hd.inj gd
      subst this
      rw [h3] at g3; cases g3
      exact ih g
  | ins h1 h2 h3 _ ih =>
    cases h' with
    | ins g1 g2 g3 g =>
      rw [h1] at g1; cases g1
      rw [h2] at g2; cases g2
      rw [h3] at g3; cases g3
      exact ih g
/-- THE CHANGE of a part -/
theorem StF.modify (I : StF G b σ H F ρ fps) {i : Nat} {t : T} {v : V} (e : nth ρ i = some t) (ev : σ[i]? = some (some v)) {js : List Nat} {s s' : T} {u : V} (r : Reach H t v js s u) :
    ∃ fs, AtT G F H s u fs ∧ fs.Nodup ∧ (∀ a ∈ fs, a ∈ fps.flatten) ∧ ∀ (H' F' : Hp) (fs' : List Addr), Fb b H' F' → Same F F' → (∀ a, a ∉ fs → (∀ o, H a = some o → H' a = some o) ∧ (F a = none → F' a = none)) → AtT G F' H' s' u fs' → fs'.Nodup → (∀ a ∈ fs', a ∈ fs ∨ (b.H0 a = none ∧ a ∉ fps.flatten)) →
      ∃ fps', StF G b σ H' F' (ρ.set i (some (setP t js s'))) fps' := by
  obtain ⟨w, ew, a⟩ := I.at_ (nth_some e)
  rw [ev] at ew
  cases ew
  obtain ⟨u', fs, L, R, r', as, efp, put⟩ := a.reach r.get
  obtain ⟨_, rfl⟩ := r.inj r'
  have nd := fpAt_nodup (i := i) I.nodup
  rw [efp] at nd
  have nd' := nd
  rw [List.append_assoc, List.nodup_append, List.nodup_append] at nd'
  obtain ⟨ndL, ⟨ndS, ndR, dSR⟩, dL⟩ := nd'
  have sub : ∀ x ∈ fs, x ∈ fps.flatten := fun x m => fpAt_sub (i := i) x (by rw [efp]; simp [m])
  have subLR : ∀ x ∈ L ++ R, x ∈ fps.flatten := fun x m => fpAt_sub (i := i) x (by rw [efp]; rcases List.mem_append.mp m with m | m <;> simp [m])
  have nLR : ∀ x ∈ L ++ R, x ∉ fs := fun x m z => by
    rcases List.mem_append.mp m with m | m
    · exact dL x m x (by simp [z]) rfl
    · exact dSR x z x m rfl
  refine ⟨fs, as, ndS, sub, fun H' F' fs' fb sf k a' nd' hf => ⟨_, I.change' ev fb sf (fun x m n => ?_) (put F' H' s' fs' sf (fun x m o eo => (k x (nLR x m)).1 o eo) (fun x m => (k x (nLR x m)).2 (I.live x (subLR x m)).1) a') ?_ fun x m => ?_⟩⟩
  · have : x ∉ fs := fun z => n (by rw [efp]; simp [z])
    exact ⟨(k x this).1, (k x this).2 (I.live x m).1⟩
  · rw [List.append_assoc, List.nodup_append, List.nodup_append]
    refine ⟨ndL, ⟨nd', ndR, fun x m y m' e => ?_⟩, fun x m y m' e => ?_⟩
    · subst e
      rcases hf x m with z | ⟨_, z⟩
      · exact dSR x z x m' rfl
      · exact z (subLR x (by simp [m']))
    · subst e
      rcases List.mem_append.mp m' with m' | m'
      · rcases hf x m' with z | ⟨_, z⟩
        · exact dL x m x (by simp [z]) rfl
        · exact z (subLR x (by simp [m]))
      · exact dL x m x (by simp [m']) rfl
  · rcases List.mem_append.mp m with m | m
    · rcases List.mem_append.mp m with m | m
      · have h1 : x ∈ fpAt fps i := by rw [efp]; simp [m]
        exact ⟨.inl h1, I.mine x (fpAt_sub x h1)⟩
      · rcases hf x m with z | ⟨z, z'⟩
        · have h1 : x ∈ fpAt fps i := by rw [efp]; simp [z]
          exact ⟨.inl h1, I.mine x (fpAt_sub x h1)⟩
        · exact ⟨.inr z', .inl z⟩
    · have h1 : x ∈ fpAt fps i := by rw [efp]; simp [m]
      exact ⟨.inl h1, I.mine x (fpAt_sub x h1)⟩
theorem StF.reach (I : StF G b σ H F ρ fps) {i : Nat} {t : T} {js : List Nat} {s : T} (e : nth ρ i = some t) (g : getP t js = some s) : ∃ v u fs, σ[i]? = some (some v) ∧ Reach H t v js s u ∧ AtT G F H s u fs := by
  obtain ⟨w, ew, a⟩ := I.at_ (nth_some e)
  obtain ⟨u', fs, L, R, r', as, efp, put⟩ := a.reach g
  exact ⟨w, u', fs, ew, r', as⟩
end

/-! ### expressions that change nothing -/
abbrev PuF := Env → Option D
structure DPu (G : G0) (X : Cx) (e : Expr) (g : PuF) : Prop where
  run : PE X e (fun σ H Q => ∃ (b : Bs) (F : Hp) (ρ : Env) (d : D), StOk (gx X G) b σ H F ρ ∧ g ρ = some d ∧ ∀ v F' H', Grow F H F' H' → At (gx X G) F' d v → Q v H')
section
variable {G : G0} {X : Cx} {a b : Expr} {g g' : PuF} {pos : Pos}
theorem du_var (i : Nat) {x : Str} {pos : Pos} (hN : X.N[i]? = some x := by rfl) (hv : Vis X.env.scope x := by first | exact Or.inl rfl | exact Or.inr (Or.inl rfl) | exact Or.inr (Or.inr rfl)) (hd : (x == ("__debug__" : Str)) = false := by decide)
    (hcd : (x == ("__classdict__" : Str)) = false := by decide) : DPu G X (.Name x pos) (fun ρ => match nth ρ i with
      | some (.v d) => some d
      | _ => none) := ⟨⟨fun pins s σ H Q Iv ⟨b, F, ρ, d, I, h, q⟩ => (pe_var hN hv hd hcd).run pins s σ H Q Iv (by
    split at h
    · rename_i d' e
      cases h
      obtain ⟨⟨fps, I⟩⟩ := I
      obtain ⟨v, ev, a⟩ := I.at_ (nth_some e)
      generalize fpAt fps i = fp at a
      cases a with
      | v a => exact ⟨v, ev, q v F H (Grow.refl I.fb.sub) a⟩
    · cases h)⟩⟩
theorem du_int {i j pos} : DPu G X (.Constant (.int i) j pos) (fun _ => some (.int i)) := ⟨⟨fun pins s σ H Q Iv ⟨b, F, ρ, d, I, h, q⟩ => (pe_int (i := i)).run pins s σ H Q Iv (by cases h; exact q _ F H (Grow.refl I.fb.sub) (.int i))⟩⟩
theorem du_str {i j pos} : DPu G X (.Constant (.str i) j pos) (fun _ => some (.str i)) := ⟨⟨fun pins s σ H Q Iv ⟨b, F, ρ, d, I, h, q⟩ => (pe_str (x := i)).run pins s σ H Q Iv (by cases h; exact q _ F H (Grow.refl I.fb.sub) (.str i))⟩⟩
theorem du_nil {pos} : DPu G X (.List [] pos) (fun _ => some (.lst [])) := ⟨⟨fun pins s σ H Q Iv ⟨b, F, ρ, d, I, h, q⟩ => (pe_lst pa_nil).run pins s σ H Q Iv (by
  cases h
  exact ⟨Nat.zero_le _, fun r hr => q _ _ _ (Grow.add I.fb.sub hr) (.lst upd_same .nil)⟩)⟩⟩
def puNeg (g : PuF) : PuF := fun ρ => match g ρ with
  | some (.int i) => some (.int (-i))
  | _ => none
theorem du_neg (h : DPu G X a g) : DPu G X (.UnaryOp .USub a pos) (puNeg g) := ⟨⟨fun pins s σ H Q Iv ⟨b, F, ρ, d, I, hg, q⟩ => (pe_un un_neg h.run).run pins s σ H Q Iv (by
  unfold puNeg at hg
  split at hg
  · rename_i i e
    cases hg
    exact ⟨b, F, ρ, _, I, e, fun v F' H' gr a1 => by
      cases a1
      exact ⟨i, rfl, q _ F' H' gr (.int _)⟩⟩
  · cases hg)⟩⟩
def puOp (f : Int → Int → Int) (g g' : PuF) : PuF := fun ρ => match g ρ, g' ρ with
  | some (.int i), some (.int j) => some (.int (f i j))
  | _, _ => none
theorem du_op {op : Operator} {f : Int → Int → Int} (ho : OpR X (binaryOp op) (rI0 fun i j => .int (f i j))) (h : DPu G X a g) (h' : DPu G X b g') : DPu G X (.BinOp a op b pos) (puOp f g g') := ⟨⟨fun pins s σ H Q Iv ⟨b, F, ρ, d, I, hg, q⟩ => (pe_op ho h.run h'.run).run pins s σ H Q Iv (by
  unfold puOp at hg
  split at hg
  · rename_i i j e e'
    cases hg
    exact ⟨b, F, ρ, _, I, e, fun v F1 H1 g1 a1 => ⟨b, F1, ρ, _, I.grow g1, e', fun w F2 H2 g2 a2 => by
      cases a1; cases a2
      exact ⟨i, j, rfl, rfl, q _ F2 H2 (g1.trans g2) (.int _)⟩⟩⟩
  · cases hg)⟩⟩
end

/-! ### places as expressions -/
abbrev PthF := T → Env → Option (List Nat)
structure DPth (G : G0) (X : Cx) (e : Expr) (i : Nat) (f : PthF) : Prop where
  run : PE X e (fun σ H Q => ∃ (b : Bs) (F : Hp) (ρ : Env) (t : T) (js : List Nat), StOk (gx X G) b σ H F ρ ∧ nth ρ i = some t ∧ f t ρ = some js ∧ ∀ v s u F' H', σ[i]? = some (some v) → Grow F H F' H' → Reach H' t v js s u → Q u H')
  ok : ∀ t ρ js, f t ρ = some js → ∃ s, getP t js = some s
theorem getP_snoc : ∀ {js : List Nat} {t s u : T} {l : List T} {j : Nat}, getP t js = some s → kids s = some l → l[j]? = some u → getP t (js ++ [j]) = some u
  | [], t, s, u, l, j, h, hk, hj => by
    cases h
    simp [getP, hk, hj]
  | k :: js, t, s, u, l, j, h, hk, hj => by
    simp only [getP, List.cons_append] at h ⊢
    split at h
    · split at h
      · exact getP_snoc h hk hj
      · cases h
    · cases h
theorem ixN_lt {n j : Nat} {i : Int} (h : ixN n i = some j) : j < n := (ixN_seq h).2.1
def pfNil : PthF := fun _ _ => some []
def pfIx (f : PthF) (g : PuF) : PthF := fun t ρ => match f t ρ, g ρ with
  | some js, some (.int k) => (match getP t js with
    | some (.lst ts) => (match ixN ts.length k with
      | some j => some (js ++ [j])
      | none => none)
    | _ => none)
  | _, _ => none
def pfFld (at' : Nat → Option Nat) (f : PthF) : PthF := fun t ρ => match f t ρ with
  | some js => (match getP t js with
    | some (.ins c ts) => (match at' c with
      | some j => if j < ts.length then some (js ++ [j]) else none
      | none => none)
    | _ => none)
  | none => none
section
variable {G : G0} {X : Cx} {a e : Expr} {i : Nat} {f : PthF} {g : PuF} {pos : Pos}
theorem dp_var (i : Nat) {x : Str} {pos : Pos} (hN : X.N[i]? = some x := by rfl) (hv : Vis X.env.scope x := by first | exact Or.inl rfl | exact Or.inr (Or.inl rfl) | exact Or.inr (Or.inr rfl)) (hd : (x == ("__debug__" : Str)) = false := by decide)
    (hcd : (x == ("__classdict__" : Str)) = false := by decide) : DPth G X (.Name x pos) i pfNil :=
  ⟨⟨fun pins s σ H Q Iv ⟨b, F, ρ, t, js, I, e, h, q⟩ => (pe_var hN hv hd hcd).run pins s σ H Q Iv (by
    cases h
    obtain ⟨⟨fps, I⟩⟩ := I
    obtain ⟨v, ev, a⟩ := I.at_ (nth_some e)
    exact ⟨v, ev, q v t v F H ev (Grow.refl I.fb.sub) .nil⟩)⟩, fun t ρ js h => by cases h; exact ⟨t, rfl⟩⟩
theorem dp_ix (h : DPth G X a i f) (hb : DPu G X e g) (hs : PlainIx e := by exact fun _ _ => rfl) : DPth G X (.Subscript a e pos) i (pfIx f g) := by
  refine ⟨⟨fun pins s σ H Q Iv ⟨b, F, ρ, t, js, I, et, hf, q⟩ => (pe_ix ix_list h.run hb.run hs).run pins s σ H Q Iv ?_⟩, fun t ρ js hf => ?_⟩
  · unfold pfIx at hf
    split at hf
    · rename_i js0 k e1 e2
      split at hf
      · rename_i ts e3
        split at hf
        · rename_i j e4
          cases hf
          refine ⟨b, F, ρ, t, js0, I, et, e1, fun v s0 u F1 H1 ev g1 r1 => ⟨b, F1, ρ, _, I.grow g1, e2, fun w F2 H2 g2 a2 => ?_⟩⟩
          cases a2
          have I2 := (I.grow g1).grow g2
          obtain ⟨⟨fps, I2⟩⟩ := I2
          have r2 := r1.up g2.h
          obtain ⟨v', u', fs, ev', r', as⟩ := I2.reach et e3
          rw [ev] at ev'
          cases ev'
          obtain ⟨rfl, rfl⟩ := r2.inj r'
          cases as with
          | @lst p vs _ _ h1 h2 h3 =>
            have hj : j < ts.length := ixN_lt e4
            obtain ⟨x, fx, _, _, ex, _⟩ := h3.at_ (List.getElem?_eq_getElem hj)
            refine ⟨p, vs, k, x, rfl, rfl, .inl (.inl h1), ?_, q v _ x F2 H2 ev (g1.trans g2) (r'.snoc_lst h1 (List.getElem?_eq_getElem hj) ex)⟩
            unfold atI
            rw [← h3.length, e4]
            exact ex
        · cases hf
      · cases hf
    · cases hf
  · unfold pfIx at hf
    split at hf
    · rename_i js0 k e1 e2
      split at hf
      · rename_i ts e3
        split at hf
        · rename_i j e4
          cases hf
          exact ⟨_, getP_snoc e3 rfl (List.getElem?_eq_getElem (ixN_lt e4))⟩
        · cases hf
      · cases hf
    · cases hf
theorem dp_fld {fn : Str} {at' : Nat → Option Nat} (c : ∀ c j, at' c = some j → Cls X.K (G.ca c) ∧ NoAttr X.K (G.ca c) fn ∧ firstAt (G.cf c) fn j = true) (h : DPth G X a i f) (hb : attributeBase a fn X.env (eval a X.env) = eval a X.env := by rfl) : DPth G X (.Attribute a fn pos) i (pfFld at' f) := by
  refine ⟨⟨fun pins s σ H Q Iv ⟨b, F, ρ, t, js, I, et, hf, q⟩ => (pe_fld h.run hb).run pins s σ H Q Iv ?_⟩, fun t ρ js hf => ?_⟩
  · unfold pfFld at hf
    split at hf
    · rename_i js0 e1
      split at hf
      · rename_i c0 ts e3
        split at hf
        · rename_i j ej
          split at hf
          · rename_i hj
            cases hf
            refine ⟨b, F, ρ, t, js0, I, et, e1, fun v s0 u F1 H1 ev g1 r1 => ?_⟩
            have I1 := I.grow g1
            obtain ⟨⟨fps, I1⟩⟩ := I1
            obtain ⟨v', u', fs, ev', r', as⟩ := I1.reach et e3
            rw [ev] at ev'
            cases ev'
            obtain ⟨rfl, rfl⟩ := r1.inj r'
            obtain ⟨k1, k2, k3⟩ := c _ _ ej
            cases as with
            | @ins p dx C _ fs0 _ _ h1 hC hn h2 h3 =>
              subst hC
              obtain ⟨x, fx, _, _, ex, _⟩ := h3.at_ (List.getElem?_eq_getElem hj)
              exact ⟨p, _, dx, fs0, x, rfl, h1, k1, k2, lookup_first (by rw [hn]; exact firstAt_take k3 hj) ex, q v _ x F1 H1 ev g1 (r'.snoc_ins h1 (List.getElem?_eq_getElem hj) ex)⟩
          · cases hf
        · cases hf
      · cases hf
    · cases hf
  · unfold pfFld at hf
    split at hf
    · rename_i js0 e1
      split at hf
      · rename_i c0 ts e3
        split at hf
        · rename_i j ej
          split at hf
          · rename_i hj
            cases hf
            exact ⟨_, getP_snoc e3 rfl (List.getElem?_eq_getElem hj)⟩
          · cases hf
        · cases hf
      · cases hf
    · cases hf
/-- a place is read: from now on it does not change -/
def wPth (i : Nat) (f : PthF) : WE := fun ρ post => match nth ρ i with
  | some t => (match f t ρ with
    | some js => (match getP t js with
      | some s => post (ρ.set i (some (setP t js (.v (toD s))))) (toD s)
      | none => False)
    | none => False)
  | none => False
theorem d_pth (h : DPth G X e i f) : DE G X e (wPth i f) := .of ⟨_, h.run, fun b σ H F ρ post I hw Q q => by
  unfold wPth at hw
  split at hw
  · rename_i t et
    split at hw
    · rename_i js ef
      split at hw
      · rename_i s eg
        refine ⟨b, F, ρ, t, js, I, et, ef, fun v s' u F1 H1 ev g1 r1 => ?_⟩
        have I1 := I.grow g1
        obtain ⟨⟨fps, I1⟩⟩ := I1
        have e' := r1.get
        rw [eg] at e'
        cases e'
        obtain ⟨fs, as, nds, sub, put⟩ := I1.modify (s' := .v (toD s)) et ev r1
        have hm : ∀ x ∈ fs, b.H0 x = none ∨ b.M x := fun x m => I1.mine x (sub x m)
        have at' : At (gx X G) (frz fs F1 H1) (toD s) u := as.freeze (frz_same I1.fb.sub) _ _ _ fun x m o eo => by rw [frz_in m]; exact eo
        obtain ⟨fps', I2⟩ := put H1 (frz fs F1 H1) [] (I1.fb.frz hm) (frz_same I1.fb.sub) (fun x n => ⟨fun o eo => eo, fun eo => by rw [frz_out n]; exact eo⟩) (.v at') List.nodup_nil (by simp)
        exact q u H1 _ _ _ (g1.f.trans (frz_same I1.fb.sub)) I2.ok at' hw
      · exact hw.elim
    · exact hw.elim
  · exact hw.elim⟩
end
end J

set_option Elab.async false
set_option linter.all false
set_option maxRecDepth 100000
set_option maxHeartbeats 4000000
namespace J
open PySem PySem.Spec PyProof.Rows L2

/-! ### values that are only looked at -/
def canV (G : Gx) (w : WE) : TE := fun σ H Q => ∃ (b : Bs) (F : Hp) (ρ : Env) (post : Env → D → Prop), StOk G b σ H F ρ ∧ w ρ post ∧ ∀ v H' F' ρ' d, Same F F' → StOk G b σ H' F' ρ' → At G H' d v → post ρ' d → Q v H'
structure DV (G : G0) (X : Cx) (e : Expr) (w : WE) : Prop where
  run : PE X e (canV (gx X G) w)
def wPk (i : Nat) (f : PthF) : WE := fun ρ post => match nth ρ i with
  | some t => (match f t ρ with
    | some js => (match getP t js with
      | some s => post ρ (toD s)
      | none => False)
    | none => False)
  | none => False
def flat : D → Bool
  | .non => true
  | .bl _ => true
  | .int _ => true
  | .str _ => true
  | _ => false
theorem flat_any {G : Gx} {F F' : Hp} {d : D} {v : V} (h : flat d = true) (a : At G F d v) : At G F' d v := by
  cases a with
  | non => exact .non
  | bl b => exact .bl b
  | int i => exact .int i
  | str x => exact .str x
  | tup _ _ => cases h
  | lst _ _ => cases h
  | dic _ _ _ => cases h
  | obj _ _ _ _ => cases h
  | scr _ => cases h
/-- the answers are flat -/
def FlC (wr : List D → (D → Prop) → Prop) : Prop := ∀ ds post, wr ds post → wr ds fun d => flat d = true ∧ post d
def FlO (wr : R2D) : Prop := ∀ x y post, wr x y post → wr x y fun d => flat d = true ∧ post d
theorem tmp_back {H F2 H2 : Hp} (F' : Hp) (s : Same F' H) (g : Grow H H F2 H2) : Grow F' H F' H2 := ⟨Same.refl _, g.h, s.trans g.h, fun _ _ e => .inl e⟩
section
variable {G : G0} {X : Cx} {e a c : Expr} {w wa wb : WE} {i : Nat} {f : PthF} {g : PuF} {x : Str} {p pos : Pos} {id : String}
theorem dv_e (h : DE G X e w) : DV G X e w := ⟨⟨fun pins s σ H Q Iv ⟨b, F, ρ, post, I, hw, q⟩ => h.run.run pins s σ H Q Iv ⟨b, F, ρ, post, I, hw, fun v H' F' ρ' d sf I' a' hp => q v H' F' ρ' d sf I' (a'.up I'.fb.sub) hp⟩⟩⟩
theorem dv_pth (h : DPth G X e i f) : DV G X e (wPk i f) := ⟨⟨fun pins s σ H Q Iv ⟨b, F, ρ, post, I, hw, q⟩ => h.run.run pins s σ H Q Iv (by
  unfold wPk at hw
  split at hw
  · rename_i t et
    split at hw
    · rename_i js ef
      split at hw
      · rename_i s eg
        refine ⟨b, F, ρ, t, js, I, et, ef, fun v s' u F1 H1 ev g1 r1 => ?_⟩
        have I1 := I.grow g1
        have e' := r1.get
        rw [eg] at e'
        cases e'
        obtain ⟨⟨fps, I2⟩⟩ := I1
        obtain ⟨v', u', fs, ev', r', as⟩ := I2.reach et eg
        rw [ev] at ev'
        cases ev'
        obtain ⟨_, rfl⟩ := r1.inj r'
        exact q u H1 F1 ρ _ g1.f I2.ok (as.seen I2.fb.sub) hw
      · exact hw.elim
    · exact hw.elim
  · exact hw.elim)⟩⟩
theorem snd_cV {r : List V → Hp → VK → Prop} {wr : List D → (D → Prop) → Prop} {G : Gx} (hc : SndC G r wr) (fl : FlC wr) {b : Bs} {σ : L2.St} {H F F0 : Hp} {ρ : Env} {vs : List V} {ds : List D} {post : Env → D → Prop} {Q : VK} (s0 : Same F0 F) (I : StOk G b σ H F ρ) (a : AtL G H ds vs) (hw : wr ds (post ρ))
    (q : ∀ v H' F' ρ' d, Same F0 F' → StOk G b σ H' F' ρ' → At G F' d v → post ρ' d → Q v H') : r vs H Q :=
  hc H H vs ds _ (Same.refl _) a (fl ds _ hw) Q fun v H2 F2 d g a2 h2 => by
    have g' := tmp_back F I.fb.sub g
    exact q v H2 F ρ d s0 (I.grow g') (flat_any h2.1 a2) h2.2
/-- f(e), e only looked at -/
theorem d_cbV {wr : List D → (D → Prop) → Prop} (hc : DC G X (.builtin id) wr) (fl : FlC wr) (hg : Gl X x) (hm : X.mg x = none) (hv : bootBuiltins x = some (.builtin id)) (ha : DV G X e w) (hn : x ≠ "__name__" := by decide) (hdb : (x == ("__debug__" : Str)) = false := by decide)
    (he : starEach [e] X.env = (false, eval e X.env) :: starEach [] X.env := by rfl) (hpl : (backTo pos (starEach [] X.env)).any (·.1) = false := by rfl) : DE G X (.Call (.Name x p) [e] [] pos) (wCB wr (wCons w wNil)) := by
  obtain ⟨r, c1, c2⟩ := hc.ex
  exact .of ⟨_, pe_callB c1 hg hm hv (pa_cons ha.run pa_nil he) hn hdb he hpl, fun b σ H F ρ post I hw Q q => ⟨b, F, ρ, _, I, hw, fun v H1 F1 ρ1 d s1 I1 a1 h1 => snd_cV c2 fl s1 I1 (.cons a1 .nil) h1 q⟩⟩
theorem snd_oV {r : R2} {wr : R2D} {G : Gx} (ho : SndO G r wr) (fl : FlO wr) {b : Bs} {σ : L2.St} {H F F0 : Hp} {ρ : Env} {x y : V} {d1 d2 : D} {post : Env → D → Prop} {Q : VK} (s0 : Same F0 F) (I : StOk G b σ H F ρ) (a1 : At G H d1 x) (a2 : At G H d2 y) (hw : wr d1 d2 (post ρ))
    (q : ∀ v H' F' ρ' d, Same F0 F' → StOk G b σ H' F' ρ' → At G F' d v → post ρ' d → Q v H') : r x y H Q :=
  ho H H x y d1 d2 _ (Same.refl _) a1 a2 (fl d1 d2 _ hw) Q fun v H2 F2 d g a2 h2 => by
    have g' := tmp_back F I.fb.sub g
    exact q v H2 F ρ d s0 (I.grow g') (flat_any h2.1 a2) h2.2
/-- a op b, b only looked at -/
theorem d_cmpV {op : CmpOp} {wr : R2D} (ho : DOp G X (compareOp op) wr) (fl : FlO wr) (ha : DE G X a wa) (hb : DV G X c wb) (hm : behindInMarks op c = false := by first | exact nomark _ | with_unfolding_all rfl) : DE G X (.Compare a [op] [c] pos) (wOp wr wa wb) := by
  obtain ⟨r, o1, o2⟩ := ho.ex
  obtain ⟨ta, a1, a2⟩ := ha.ex
  exact .of ⟨_, pe_cmpR o1 a1 hb.run hm, fun b σ H F ρ post I hw Q q => a2 b σ H F ρ _ I hw _ fun x H1 F1 ρ1 d1 s1 I1 b1 h1 => ⟨b, F1, ρ1, _, I1, h1, fun y H2 F2 ρ2 d2 s2 I2 b2 h2 => snd_oV o2 fl (s1.trans s2) I2 ((b1.up s2).up I2.fb.sub) b2 h2 q⟩⟩
/-- a op b, a only looked at, b changes nothing -/
def wOpL (wr : R2D) (wa : WE) (g : PuF) : WE := fun ρ post => wa ρ fun ρ1 d1 => match g ρ1 with
  | some d2 => wr d1 d2 (post ρ1)
  | none => False
theorem d_cmpL {op : CmpOp} {wr : R2D} (ho : DOp G X (compareOp op) wr) (fl : FlO wr) (ha : DV G X a wa) (hb : DPu G X c g) (hm : behindInMarks op c = false := by first | exact nomark _ | with_unfolding_all rfl) : DE G X (.Compare a [op] [c] pos) (wOpL wr wa g) := by
  obtain ⟨r, o1, o2⟩ := ho.ex
  refine .of ⟨_, pe_cmpR o1 ha.run hb.run hm, fun b σ H F ρ post I hw Q q => ⟨b, F, ρ, _, I, hw, fun x H1 F1 ρ1 d1 s1 I1 b1 h1 => ?_⟩⟩
  split at h1
  · rename_i d2 e2
    refine ⟨b, F1, ρ1, d2, I1, e2, fun v F2 H2 g2 a2 => ?_⟩
    exact snd_oV o2 fl (s1.trans g2.f) (I1.grow g2) (b1.up g2.h) (a2.up g2.sub) h1 q
  · exact h1.elim
end
section
theorem flc_len : FlC wLen := fun ds post h => by
  unfold wLen w1 wItems at h ⊢
  split at h
  · split at h
    · rename_i d l e
      simp only [e]
      exact ⟨rfl, h⟩
    · exact h.elim
  · exact h.elim
theorem flo_eq : FlO wEq := fun x y post h => ⟨h.1, rfl, h.2⟩
theorem flo_ne : FlO wNe := fun x y post h => ⟨h.1, rfl, h.2⟩
end

/-! ### arguments that may be new trees -/
abbrev WQs := Env → (Env → List T → Prop) → Prop
def canAT (G : Gx) (w : WQs) : TA := fun σ H Q => ∃ (b : Bs) (F : Hp) (ρ : Env) (post : Env → List T → Prop), StOk G b σ H F ρ ∧ w ρ post ∧
  ∀ vs H' F' ρ' fps' ts fp, Same F F' → StF G b σ H' F' ρ' fps' → AtTL G F' H' ts vs fp → fp.Nodup → (∀ x ∈ fp, b.H0 x = none ∧ x ∉ fps'.flatten) → post ρ' ts → Q vs H'
structure DAT (G : G0) (X : Cx) (es : List Expr) (w : WQs) : Prop where
  run : PA X es (canAT (gx X G) w)
def wqNil : WQs := fun ρ post => post ρ []
def wqCons (wa : WQ) (wr : WQs) : WQs := fun ρ post => wa ρ fun ρ1 t => wr ρ1 fun ρ2 l => post ρ2 (t :: l)
section
variable {G : G0} {X : Cx} {a : Expr} {es : List Expr} {wa : WQ} {wr : WQs} {pos : Pos}
theorem dat_nil : DAT G X [] wqNil := ⟨⟨fun pos pins s σ H Q Iv ⟨b, F, ρ, post, I, hw, q⟩ => pa_nil.run pos pins s σ H Q Iv (by
  obtain ⟨⟨fps, I⟩⟩ := I
  exact q [] H F ρ fps [] [] (Same.refl _) I .nil List.nodup_nil (by simp) hw)⟩⟩
theorem dat_cons (ha : DQ G X a wa) (hr : DAT G X es wr) (hs : starEach (a :: es) X.env = (false, eval a X.env) :: starEach es X.env := by rfl) : DAT G X (a :: es) (wqCons wa wr) :=
  ⟨⟨fun pos pins s σ H Q Iv ⟨b, F, ρ, post, I, hw, q⟩ => (pa_cons ha.run hr.run hs).run pos pins s σ H Q Iv ⟨b, F, ρ, _, I, hw, fun v H1 F1 ρ1 fps1 t fp s1 I1 a1 nd hf h1 =>
    ⟨_, F1, ρ1, _, I1.now.ok, h1, fun vs H2 F2 ρ2 fps2 ts fq s2 I2 a2 nd2 hf2 h2 => by
      obtain ⟨k1, k2, k3⟩ := held_of I1 I2
      obtain ⟨e1, e2⟩ := k3.tree k2 a1 fun x m => (hf x m).2
      have new : ∀ x ∈ fq, H1 x = none := fun x m => (hf2 x m).1
      refine q (v :: vs) H2 F2 ρ2 fps2 _ (fp ++ fq) (s1.trans s2) k1 (.cons e1 a2) ?_ (fun x m => ?_) h2
      · rw [List.nodup_append]
        refine ⟨nd, nd2, fun x m y m' e => ?_⟩
        subst e
        obtain ⟨_, o, eo, _⟩ := a1.free _ _ _ x m
        rw [new x m'] at eo; cases eo
      · rcases List.mem_append.mp m with m | m
        · exact ⟨(hf x m).1, e2 x m⟩
        · exact ⟨I1.fb.there x (new x m), (hf2 x m).2⟩⟩⟩⟩⟩
def wLstT (wa : WQs) : WQ := fun ρ post => wa ρ fun ρ1 l => l.length ≤ 1000000 ∧ post ρ1 (.lst l)
theorem dq_lst (h : DAT G X es wr) : DQ G X (.List es pos) (wLstT wr) := .of ⟨_, pe_lst h.run, fun b σ H F ρ post I hw Q q => ⟨b, F, ρ, _, I, hw, fun vs H1 F1 ρ1 fps1 ts fp s1 I1 a1 nd hf h1 => ⟨by rw [← a1.length]; exact sz h1.1, fun r hr => by
  obtain ⟨I2, f1, f2, f3⟩ := I1.fresh (o := .lst vs) hr
  have nr : r ∉ fp := fun m => by
    obtain ⟨_, o, eo, _⟩ := AtTL.free _ _ _ a1 r m
    rw [hr] at eo; cases eo
  refine q (.ref r) _ F1 ρ1 fps1 _ (r :: fp) s1 I2 (.lst upd_same f1 (AtTL.frame (Same.refl _) _ _ _ a1 (fun x m o eo => by rw [upd_ne (fun z => nr (by rw [← z]; exact m))]; exact eo) fun x m => (AtTL.free _ _ _ a1 x m).1)) (List.nodup_cons.mpr ⟨nr, nd⟩) (fun x m => ?_) h1.2
  rcases List.mem_cons.mp m with rfl | m
  · exact ⟨f2, f3⟩
  · exact hf x m⟩⟩⟩
end

/-! ### statements -/
structure DEnds where
  nx : Env → Prop
  rt : Env → T → Prop
  bk : Env → Prop := fun _ => False
  ct : Env → Prop := fun _ => False
abbrev WS := DEnds → Env → Prop
structure Meets (G : Gx) (b : Bs) (F : Hp) (De : DEnds) (D : Ends) : Prop where
  nx : ∀ σ' H' F' ρ', Same F F' → StOk G b σ' H' F' ρ' → De.nx ρ' → D.nx σ' H'
  rt : ∀ v σ' H' F' ρ' fps' t fp, Same F F' → StF G b σ' H' F' ρ' fps' → AtT G F' H' t v fp → fp.Nodup → (∀ x ∈ fp, b.H0 x = none ∧ x ∉ fps'.flatten) → De.rt ρ' t → D.rt v H'
  bk : ∀ σ' H' F' ρ', Same F F' → StOk G b σ' H' F' ρ' → De.bk ρ' → D.bk σ' H'
  ct : ∀ σ' H' F' ρ', Same F F' → StOk G b σ' H' F' ρ' → De.ct ρ' → D.ct σ' H'
theorem Meets.up {G : Gx} {b : Bs} {F F' : Hp} {De : DEnds} {D : Ends} (m : Meets G b F De D) (s : Same F F') : Meets G b F' De D :=
  ⟨fun σ' H' F2 ρ' s2 => m.nx σ' H' F2 ρ' (s.trans s2), fun v σ' H' F2 ρ' fps' t fp s2 => m.rt v σ' H' F2 ρ' fps' t fp (s.trans s2), fun σ' H' F2 ρ' s2 => m.bk σ' H' F2 ρ' (s.trans s2), fun σ' H' F2 ρ' s2 => m.ct σ' H' F2 ρ' (s.trans s2)⟩
theorem Meets.rtD {G : Gx} {b : Bs} {F : Hp} {De : DEnds} {D : Ends} (m : Meets G b F De D) {v : V} {σ' : L2.St} {H' F' : Hp} {ρ' : Env} {d : J.D} (s : Same F F') (I : StOk G b σ' H' F' ρ') (a : At G F' d v) (h : De.rt ρ' (.v d)) : D.rt v H' := by
  obtain ⟨⟨fps, I⟩⟩ := I
  exact m.rt v σ' H' F' ρ' fps _ [] s I (.v a) List.nodup_nil (by simp) h
def canS (G : Gx) (w : WS) : TS := fun D σ H => ∃ (b : Bs) (F : Hp) (ρ : Env) (De : DEnds), StOk G b σ H F ρ ∧ w De ρ ∧ Meets G b F De D
structure DS (G : G0) (X : Cx) (st : Stmt) (w : WS) : Prop where
  run : PS X st (canS (gx X G) w)
structure DSs (G : G0) (X : Cx) (st : List Stmt) (w : WS) : Prop where
  run : PSs X st (canS (gx X G) w)
def SndS (G : Gx) (t : TS) (w : WS) : Prop := ∀ (b : Bs) (σ : L2.St) (H F : Hp) (ρ : Env) (De : DEnds) (D : Ends), StOk G b σ H F ρ → w De ρ → Meets G b F De D → t D σ H
theorem DS.of {G : G0} {X : Cx} {st : Stmt} {w : WS} (h : ∃ t, PS X st t ∧ SndS (gx X G) t w) : DS G X st w := by
  obtain ⟨t, h1, h2⟩ := h
  exact ⟨⟨fun pins s σ H D I ⟨b, F, ρ, De, i, hw, m⟩ => h1.run pins s σ H D I (h2 b σ H F ρ De D i hw m)⟩⟩
theorem DSs.of {G : G0} {X : Cx} {st : List Stmt} {w : WS} (h : ∃ t, PSs X st t ∧ SndS (gx X G) t w) : DSs G X st w := by
  obtain ⟨t, h1, h2⟩ := h
  exact ⟨⟨fun pins s σ H D I ⟨b, F, ρ, De, i, hw, m⟩ => h1.run pins s σ H D I (h2 b σ H F ρ De D i hw m)⟩⟩
def wNext : WS := fun De ρ => De.nx ρ
def wBrk : WS := fun De ρ => De.bk ρ
def wCnt : WS := fun De ρ => De.ct ρ
def wSeq (w u : WS) : WS := fun De ρ => w { De with nx := u De } ρ
def wSet (i : Nat) (w : WE) : WS := fun De ρ => w ρ fun ρ1 d => De.nx (ρ1.set i (some (.v d)))
def wSetQ (i : Nat) (w : WQ) : WS := fun De ρ => w ρ fun ρ1 t => De.nx (ρ1.set i (some t))
def wAsg (w : WE) (g : WG) : WS := fun De ρ => w ρ fun ρ1 d => g d ρ1 De.nx
def wRet (w : WE) : WS := fun De ρ => w ρ fun ρ1 d => De.rt ρ1 (.v d)
def wRetQ (w : WQ) : WS := fun De ρ => w ρ De.rt
def wRetN : WS := fun De ρ => De.rt ρ (.v .non)
def wExp (w : WE) : WS := fun De ρ => w ρ fun ρ1 _ => De.nx ρ1
def wIfS (w : WT) (a b : WS) : WS := fun De ρ => w ρ fun ρ1 k => match k with
  | true => a De ρ1
  | false => b De ρ1
def wNever : WS := fun _ _ => False
def wFor (wi : WN) (g : WG) (tb : WS) : WS := fun De ρ => wi ρ fun ρ1 ds => ∃ Iv : Nat → Env → Prop, Iv 0 ρ1 ∧
  (∀ i d ρ, ds[i]? = some d → Iv i ρ → g d ρ fun ρ2 => tb { De with nx := Iv (i + 1), ct := Iv (i + 1), bk := De.nx } ρ2) ∧ ∀ ρ, Iv ds.length ρ → De.nx ρ
def wWhile (wt : WT) (tb : WS) : WS := fun De ρ => ∃ Iv : Nat → Env → Prop, (∃ m, Iv m ρ) ∧ ∀ m ρ, Iv m ρ → wt ρ fun ρ1 k => match k with
  | true => tb { De with nx := fun ρ2 => ∃ m', m' < m ∧ Iv m' ρ2, ct := fun ρ2 => ∃ m', m' < m ∧ Iv m' ρ2, bk := De.nx } ρ1
  | false => De.nx ρ1
section
variable {G : G0} {X : Cx} {st : Stmt} {rest body : List Stmt} {e iter tg c o : Expr} {a b : List Stmt} {w u : WS} {we : WE} {wq : WQ} {wi : WN} {g : WG} {ts : List Nat} {pos pos' apos : Pos} {x : Str}
theorem dss_nil : DSs G X [] wNext := .of ⟨_, pss_nil, fun b σ H F ρ De D I hw m => m.nx σ H F ρ (Same.refl _) I hw⟩
theorem dss_cons (h1 : DS G X st w) (h2 : DSs G X rest u) : DSs G X (st :: rest) (wSeq w u) := .of ⟨_, pss_cons h1.run h2.run, fun b σ H F ρ De D I hw m =>
  ⟨b, F, ρ, _, I, hw, fun σ' H' F' ρ' s I' h => ⟨b, F', ρ', De, I', h, m.up s⟩, m.rt, m.bk, m.ct⟩⟩
theorem dss_one (h : DS G X st w) : DSs G X [st] w := ⟨pss_one h.run⟩
theorem ds_never : DS G X st wNever := .of ⟨_, ps_never, fun _ _ _ _ _ _ _ _ h _ => h.elim⟩
theorem dss_never : DSs G X rest wNever := .of ⟨_, pss_never, fun _ _ _ _ _ _ _ _ h _ => h.elim⟩
theorem ds_pass : DS G X (.Pass pos) wNext := .of ⟨_, ps_pass, fun b σ H F ρ De D I hw m => m.nx σ H F ρ (Same.refl _) I hw⟩
theorem ds_break : DS G X (.Break pos) wBrk := .of ⟨_, ps_break, fun b σ H F ρ De D I hw m => m.bk σ H F ρ (Same.refl _) I hw⟩
theorem ds_continue : DS G X (.Continue pos) wCnt := .of ⟨_, ps_continue, fun b σ H F ρ De D I hw m => m.ct σ H F ρ (Same.refl _) I hw⟩
theorem ds_set (i : Nat) (hpr : i ∉ G.pr) (hN : X.N.Nodup) (he : DE G X e we) (hi : X.N[i]? = some x := by rfl) (hx : Loc X.env.scope x := by first | exact .inl rfl | exact .inr rfl) (hs : swapsWith e (some (.Name x pos')) pos.line X.env = pure false := by rfl) (hf : X.fn x = true ∨ X.env.scope.names.lookup x = some .local := by first | exact .inl rfl | exact .inr rfl) :
    DS G X (.Assign [.Name x pos'] e pos) (wSet i we) := .of ⟨_, ps_set hN hi hx he.run hs hf, fun b σ H F ρ De D I hw m => snd_canE b σ H F ρ _ I hw _ fun v H1 F1 ρ1 d s1 I1 a1 h1 => m.nx _ H1 F1 _ s1 (I1.setVal hpr a1) h1⟩
theorem ds_setQ (i : Nat) (hpr : i ∉ G.pr) (hN : X.N.Nodup) (he : DQ G X e wq) (hi : X.N[i]? = some x := by rfl) (hx : Loc X.env.scope x := by first | exact .inl rfl | exact .inr rfl) (hs : swapsWith e (some (.Name x pos')) pos.line X.env = pure false := by rfl) (hf : X.fn x = true ∨ X.env.scope.names.lookup x = some .local := by first | exact .inl rfl | exact .inr rfl) :
    DS G X (.Assign [.Name x pos'] e pos) (wSetQ i wq) := .of ⟨_, ps_set hN hi hx he.run hs hf, fun b σ H F ρ De D I hw m => snd_canQ b σ H F ρ _ I hw _ fun v H1 F1 ρ1 fps1 t fp s1 I1 a1 nd hf h => m.nx _ H1 F1 _ s1 (I1.setT hpr a1 nd hf).ok h⟩
theorem ds_asg (he : DE G X e we) (hg : DG G X tg ts g) (hs : swapsWithSole [tg] e pos.line X.env = pure false := by rfl) (hw : swappedStores [tg] e X.env = pure none := by rfl)
    (h1 : (assignEach [tg] X.env).map (·.2) = [assign tg X.env] := by rfl) : DS G X (.Assign [tg] e pos) (wAsg we g) :=
  .of ⟨_, ps_asg he.run hg.run hs hw h1, fun b σ H F ρ De D I hw m => snd_canE b σ H F ρ _ I hw _ fun v H1 F1 ρ1 d s1 I1 a1 h1 => ⟨b, F1, ρ1, d, _, I1, a1, h1, fun σ' H' F' ρ' s' I' _ h' => m.nx σ' H' F' ρ' (s1.trans s') I' h'⟩⟩
theorem ds_ret (he : DE G X e we) : DS G X (.Return (some e) pos) (wRet we) := .of ⟨_, ps_ret he.run, fun b σ H F ρ De D I hw m => snd_canE b σ H F ρ _ I hw _ fun v H1 F1 ρ1 d s1 I1 a1 h1 => m.rtD s1 I1 a1 h1⟩
theorem ds_retQ (he : DQ G X e wq) : DS G X (.Return (some e) pos) (wRetQ wq) := .of ⟨_, ps_ret he.run, fun b σ H F ρ De D I hw m => snd_canQ b σ H F ρ _ I hw _ fun v H1 F1 ρ1 fps1 t fp s1 I1 a1 nd hf h1 => m.rt v σ H1 F1 ρ1 fps1 t fp s1 I1 a1 nd hf h1⟩
theorem ds_retN : DS G X (.Return none pos) wRetN := .of ⟨_, ps_retN, fun b σ H F ρ De D I hw m => m.rtD (Same.refl _) I .non hw⟩
theorem ds_exp (he : DE G X e we) (hs : swapsWith e none pos.line X.env = pure false := by rfl) : DS G X (.Expr e pos) (wExp we) := .of ⟨_, ps_expr he.run hs, fun b σ H F ρ De D I hw m => snd_canE b σ H F ρ _ I hw _ fun v H1 F1 ρ1 d s1 I1 a1 h1 => m.nx σ H1 F1 ρ1 s1 I1 h1⟩
theorem ds_if {wt : WT} (hc : DT G X c wt) (ha : DSs G X a w) (hb : DSs G X b u) : DS G X (.If c a b pos) (wIfS wt w u) := .of ⟨_, ps_if hc.run ha.run hb.run, fun b σ H F ρ De D I hw m => snd_canT b σ H F ρ _ I hw _ fun k H1 F1 ρ1 s1 I1 h1 => by
  cases k with
  | true => exact ⟨b, F1, ρ1, De, I1, h1, m.up s1⟩
  | false => exact ⟨b, F1, ρ1, De, I1, h1, m.up s1⟩⟩
theorem snd_for {G : Gx} : SndS G (tFor (canI G wi) (canG G ts g) (canS G w)) (wFor wi g w) := fun b σ H F ρ De D I hw m =>
  ⟨b, F, ρ, _, I, hw, fun J H1 F1 ρ1 ds Gw Y s1 I1 ⟨Iv, h0, hstep, hend⟩ hz wk hG hY => by
    refine for_it wk (fun i σ H => ∃ F2 ρ2, Same F1 F2 ∧ StOk G b σ H F2 ρ2 ∧ Iv i ρ2) ⟨F1, ρ1, Same.refl _, I1, h0⟩ (fun i σ2 H2 _ ⟨F2, ρ2, s2, I2, _⟩ => hG F2 H2 s2 I2.fb.sub) (fun i x σ2 H2 H3 hi ⟨F2, ρ2, s2, I2, iv⟩ y => ?_) (fun σ2 H2 ⟨F2, ρ2, s2, I2, iv⟩ => m.nx σ2 H2 F2 ρ2 (s1.trans s2) I2 (hend ρ2 iv))
    have ed : ds[i]? = some ds[i] := List.getElem?_eq_getElem hi
    obtain ⟨F3, g3, a3⟩ := hY i _ F2 H2 x H3 ed s2 I2.fb.sub y
    refine ⟨b, F3, ρ2, _, _, I2.grow g3, a3, hstep i _ ρ2 ed iv, fun σ4 H4 F4 ρ4 s4 I4 _ h4 => ⟨b, F4, ρ4, _, I4, h4, ?_⟩⟩
    have s14 : Same F1 F4 := (s2.trans g3.f).trans s4
    exact ⟨fun σ5 H5 F5 ρ5 s5 I5 h5 => ⟨F5, ρ5, s14.trans s5, I5, h5⟩, fun v σ5 H5 F5 ρ5 fps5 t fp s5 I5 a5 nd5 hf5 h5 => m.rt v σ5 H5 F5 ρ5 fps5 t fp (s1.trans (s14.trans s5)) I5 a5 nd5 hf5 h5, fun σ5 H5 F5 ρ5 s5 I5 h5 => m.nx σ5 H5 F5 ρ5 (s1.trans (s14.trans s5)) I5 h5, fun σ5 H5 F5 ρ5 s5 I5 h5 => ⟨F5, ρ5, s14.trans s5, I5, h5⟩⟩⟩
theorem ds_for (hp : PassesOwn (model X.prog X.w) X.A X.env X.xe) (hc : X.calm = true) (hi : DI G X tg iter wi) (hg : DG G X tg ts g) (hb : DSs G X body w) (hs : ∀ x, foldedSetIterable iter X.env x = pure x := by intro _; rfl) : DS G X (.For tg iter body [] pos) (wFor wi g w) :=
  .of ⟨_, ps_for hp hc hi.run hg.run hb.run hs, snd_for⟩
theorem snd_while {G : Gx} {wt : WT} {w : WS} : SndS G (tWhile (canT G wt) (canS G w)) (wWhile wt w) := fun b σ H F ρ De En I ⟨Iv, ⟨m, h0⟩, hstep⟩ mt =>
  ⟨fun m σ H => ∃ F2 ρ2, Same F F2 ∧ StOk G b σ H F2 ρ2 ∧ Iv m ρ2, ⟨m, F, ρ, Same.refl _, I, h0⟩, fun m σ H ⟨F2, ρ2, s2, I2, iv⟩ => ⟨b, F2, ρ2, _, I2, hstep m ρ2 iv, fun c H3 F3 ρ3 s3 I3 h3 => by
    have s13 : Same F F3 := s2.trans s3
    cases c with
    | true =>
      refine iteT ⟨fun σ H => ∃ m', m' < m ∧ ∃ F2 ρ2, Same F F2 ∧ StOk G b σ H F2 ρ2 ∧ Iv m' ρ2, fun σ' H' ⟨m', l, r⟩ => ⟨m', l, r⟩, b, F3, ρ3, _, I3, h3, ?_⟩
      exact ⟨fun σ5 H5 F5 ρ5 s5 I5 ⟨m', l, iv'⟩ => ⟨m', l, F5, ρ5, s13.trans s5, I5, iv'⟩, fun v σ5 H5 F5 ρ5 fps5 t fp s5 I5 a5 nd5 hf5 h5 => mt.rt v σ5 H5 F5 ρ5 fps5 t fp (s13.trans s5) I5 a5 nd5 hf5 h5, fun σ5 H5 F5 ρ5 s5 I5 h5 => mt.nx σ5 H5 F5 ρ5 (s13.trans s5) I5 h5, fun σ5 H5 F5 ρ5 s5 I5 ⟨m', l, iv'⟩ => ⟨m', l, F5, ρ5, s13.trans s5, I5, iv'⟩⟩
    | false => exact iteF (mt.nx σ H3 F3 ρ3 s13 I3 h3)⟩⟩
theorem ds_while {wt : WT} (hp : PassesOwn (model X.prog X.w) X.A X.env X.xe) (hc : DT G X c wt) (hb : DSs G X body w) : DS G X (.While c body [] pos) (wWhile wt w) := .of ⟨_, ps_while hp hc.run hb.run, snd_while⟩
end
end J

set_option Elab.async false
set_option linter.all false
set_option maxRecDepth 100000
set_option maxHeartbeats 4000000
namespace J
open PySem PySem.Spec PyProof.Rows L2

/-! ### lists that change -/
section
variable {G : Gx} {b : Bs} {σ σ' : L2.St} {H F H' F' : Hp} {ρ ρ' : Env} {fps : List (List Addr)}
theorem AtTL.erase : ∀ {ts : List T} {vs : List V} {fq : List Addr} (j : Nat), AtTL G F H ts vs fq → ∃ fq', AtTL G F H (ts.eraseIdx j) (vs.eraseIdx j) fq' ∧ fq'.Sublist fq
  | _, _, _, _, .nil => ⟨[], .nil, List.Sublist.refl _⟩
  | _, _, _, 0, .cons a r => ⟨_, r, List.sublist_append_right _ _⟩
  | _, _, _, j + 1, .cons a r => by
    obtain ⟨fq', h1, h2⟩ := AtTL.erase j r
    exact ⟨_, .cons a h1, List.Sublist.append (List.Sublist.refl _) h2⟩
theorem AtTL.get {ts : List T} {vs : List V} {fps : List Addr} {i : Nat} {t : T} (h : AtTL G F H ts vs fps) (e : ts[i]? = some t) : ∃ v fp, vs[i]? = some v ∧ AtT G F H t v fp := by
  obtain ⟨v, fp, _, _, h1, h2, _⟩ := h.at_ e
  exact ⟨v, fp, h1, h2⟩
theorem AtTL.offUpd {ts : List T} {vs : List V} {fq : List Addr} {p : Addr} {o : HO} (h : AtTL G F H ts vs fq) (n : p ∉ fq) : AtTL G F (upd H p o) ts vs fq :=
  AtTL.frame (Same.refl _) _ _ _ h (fun x m q e => by rw [upd_ne (fun z => n (by rw [← z]; exact m))]; exact e) fun x m => (AtTL.free _ _ _ h x m).1
theorem AtT.offUpd {t : T} {v : V} {fq : List Addr} {p : Addr} {o : HO} (h : AtT G F H t v fq) (n : p ∉ fq) : AtT G F (upd H p o) t v fq :=
  AtT.frame (Same.refl _) _ _ _ h (fun x m q e => by rw [upd_ne (fun z => n (by rw [← z]; exact m))]; exact e) fun x m => (h.free _ _ _ x m).1
mutual
theorem AtT.uniq : ∀ (t : T) (v : V) (f1 f2 : List Addr), AtT G F H t v f1 → AtT G F H t v f2 → f1 = f2
  | .v d, _, _, _, h1, h2 => by cases h1; cases h2; rfl
  | .lst ts, _, _, _, h1, h2 => by
    cases h1 with
    | lst a1 a2 a3 =>
      cases h2 with
      | lst b1 b2 b3 =>
        rw [a1] at b1; cases b1
        rw [AtTL.uniq' ts _ _ _ a3 b3]
  | .dic ks ts, _, _, _, h1, h2 => by
    cases h1 with
    | dic a1 ad a2 a3 =>
      cases h2 with
      | dic b1 bd b2 b3 =>
        rw [a1] at b1; cases b1
        have := ad.inj bd
        subst this
        rw [AtTL.uniq' ts _ _ _ a3 b3]
  | .ins c ts, _, _, _, h1, h2 => by
    cases h1 with
    | ins a1 ac an a2 a3 =>
      cases h2 with
      | ins b1 bc bn b2 b3 =>
        rw [a1] at b1; cases b1
        rw [AtTL.uniq' ts _ _ _ a3 b3]
theorem AtTL.uniq' : ∀ (ts : List T) (vs : List V) (f1 f2 : List Addr), AtTL G F H ts vs f1 → AtTL G F H ts vs f2 → f1 = f2
  | [], _, _, _, h1, h2 => by cases h1; cases h2; rfl
  | t :: ts, _, _, _, h1, h2 => by
    cases h1 with
    | cons a1 a2 =>
      cases h2 with
      | cons b1 b2 => rw [AtT.uniq t _ _ _ a1 b1, AtTL.uniq' ts _ _ _ a2 b2]
end
theorem AtTL.uniq {ts : List T} {vs : List V} {f1 f2 : List Addr} (h1 : AtTL G F H ts vs f1) (h2 : AtTL G F H ts vs f2) : f1 = f2 := AtTL.uniq' ts vs f1 f2 h1 h2
theorem StF.lstMod (I : StF G b σ H F ρ fps) {i : Nat} {t : T} {v : V} (e : nth ρ i = some t) (ev : σ[i]? = some (some v)) {js : List Nat} {ts : List T} {p : Addr} (r : Reach H t v js (.lst ts) (.ref p)) :
    ∃ vs fq, H p = some (.lst vs) ∧ AtTL G F H ts vs fq ∧ p ∉ fq ∧ fq.Nodup ∧ (∀ x ∈ fq, x ∈ fps.flatten) ∧ p ∈ fps.flatten ∧ ∀ (ts' : List T) (vs' : List V) (fq' : List Addr), AtTL G F (upd H p (.lst vs')) ts' vs' fq' → fq'.Nodup → p ∉ fq' → (∀ a ∈ fq', a ∈ fq ∨ (b.H0 a = none ∧ a ∉ fps.flatten)) →
      ∃ fps', StF G b σ (upd H p (.lst vs')) F (ρ.set i (some (setP t js (.lst ts')))) fps' := by
  have mo := fun s' => I.modify (s' := s') e ev r
  obtain ⟨fs, as, nd, sub, _⟩ := mo (.lst ts)
  cases as with
  | @lst _ vs _ fq h1 h2 h3 =>
    have nd' := List.nodup_cons.mp nd
    refine ⟨vs, fq, h1, h3, nd'.1, nd'.2, fun x m => sub x (List.mem_cons_of_mem _ m), sub p List.mem_cons_self, fun ts' vs' fq' a' ndq np hf => ?_⟩
    obtain ⟨fs2, as2, nd2, sub2, put⟩ := mo (.lst ts')
    cases as2 with
    | @lst _ vs2 _ fq2 g1 g2 g3 =>
      rw [h1] at g1
      cases g1
      have hm := I.mine p (sub p List.mem_cons_self)
      have key : ∀ x, x ∈ fq → x ∈ fq2 := fun x m => by
        have hu := fun {l1 l2 : List Addr} (a1 : AtTL G F H ts vs l1) (a2 : AtTL G F H ts vs l2) => AtTL.uniq a1 a2
        rw [← hu h3 g3]; exact m
      exact put (upd H p (.lst vs')) F (p :: fq') (I.fb.write h2 hm) (Same.refl _) (fun x n => ⟨fun o eo => by rw [upd_ne (fun z => n (by rw [z]; exact List.mem_cons_self))]; exact eo, fun eo => eo⟩) (.lst upd_same h2 a') (List.nodup_cons.mpr ⟨np, ndq⟩) fun x m => by
        rcases List.mem_cons.mp m with rfl | m
        · exact .inl List.mem_cons_self
        · rcases hf x m with z | z
          · exact .inl (List.mem_cons_of_mem _ (key x z))
          · exact .inr z
end

/-! ### x.append(e), x.extend(e), x.pop(k), x.remove(k) -/
def wApp (i : Nat) (w : WQ) : WS := fun De ρ => match nth ρ i with
  | some (.lst _) => w ρ fun ρ1 t => (match nth ρ1 i with
    | some (.lst l) => l.length < 1000000 ∧ De.nx (ρ1.set i (some (.lst (l ++ [t]))))
    | _ => False)
  | _ => False
def wAppP (i : Nat) (f : PthF) (g : PuF) : WS := fun De ρ => match nth ρ i with
  | some t => (match f t ρ with
    | some js => (match getP t js, g ρ with
      | some (.lst l), some d => l.length < 1000000 ∧ De.nx (ρ.set i (some (setP t js (.lst (l ++ [.v d])))))
      | _, _ => False)
    | none => False)
  | none => False
def itx : D → Option (List D)
  | .tup l => some l
  | .lst l => some l
  | _ => none
def wExt (i : Nat) (w : WE) : WS := fun De ρ => match nth ρ i with
  | some (.lst _) => w ρ fun ρ1 d => (match nth ρ1 i, itx d with
    | some (.lst l), some m => l.length + m.length ≤ 1000000 ∧ De.nx (ρ1.set i (some (.lst (l ++ m.map .v))))
    | _, _ => False)
  | _ => False
def wPopAt (i : Nat) (w : WE) : WE := fun ρ post => match nth ρ i with
  | some (.lst _) => w ρ fun ρ1 d => (match nth ρ1 i, d with
    | some (.lst l), .int k => (match ixN l.length k with
      | some j => (match l[j]? with
        | some (.v x) => (k ≤ 1000000 ∧ -1000000 ≤ k) ∧ post (ρ1.set i (some (.lst (l.eraseIdx j)))) x
        | _ => False)
      | none => False)
    | _, _ => False)
  | _ => False
def wPop (i : Nat) : WE := fun ρ post => match nth ρ i with
  | some (.lst l) => (match l[l.length - 1]? with
    | some (.v x) => post (ρ.set i (some (.lst l.dropLast))) x
    | _ => False)
  | _ => False
def intsT : List T → Option (List Int)
  | [] => some []
  | .v (.int i) :: r => (intsT r).map (i :: ·)
  | _ => none
def wRemI (i : Nat) (w : WE) : WE := fun ρ post => match nth ρ i with
  | some (.lst _) => w ρ fun ρ1 d => (match nth ρ1 i, d with
    | some (.lst l), .int k => (match intsT l with
      | some ns => k ∈ ns ∧ post (ρ1.set i (some (.lst ((ns.erase k).map fun n => .v (.int n))))) .non
      | none => False)
    | _, _ => False)
  | _ => False
theorem intsT_vs {G : Gx} {F H : Hp} : ∀ {l : List T} {vs : List V} {fq : List Addr} {ns : List Int}, AtTL G F H l vs fq → intsT l = some ns → vs = ns.map V.int ∧ fq = []
  | _, _, _, _, .nil, h => by cases h; exact ⟨rfl, rfl⟩
  | t :: l, _, _, ns, .cons a r, h => by
    cases t with
    | v d =>
      cases d with
      | int i =>
        simp only [intsT, Option.map_eq_some_iff] at h
        obtain ⟨ms, h, rfl⟩ := h
        obtain ⟨e1, e2⟩ := intsT_vs r h
        cases a with
        | v a =>
          cases a
          rw [e1, e2]
          exact ⟨rfl, rfl⟩
      | _ => cases h
    | _ => cases h
theorem AtTL.ints {G : Gx} {F H : Hp} : ∀ ns : List Int, AtTL G F H (ns.map fun n => .v (.int n)) (ns.map V.int) []
  | [] => .nil
  | n :: r => .cons (.v (.int n)) (AtTL.ints r)
theorem erase_at : ∀ {ns : List Int} {k : Int}, k ∈ ns → ∃ j : Nat, ns[j]? = some k ∧ (∀ m : Nat, m < j → ns[m]? ≠ some k) ∧ ns.erase k = ns.eraseIdx j
  | [], k, h => by simp at h
  | n :: r, k, h => by
    by_cases e : n = k
    · subst e
      exact ⟨0, rfl, fun m h => absurd h (Nat.not_lt_zero _), by simp⟩
    · have h' : k ∈ r := by
        rcases List.mem_cons.mp h with z | z
        · exact absurd z.symm e
        · exact z
      obtain ⟨j, h1, h2, h3⟩ := erase_at h'
      refine ⟨j + 1, by simpa using h1, fun m hm => ?_, ?_⟩
      · cases m with
        | zero => simpa using e
        | succ m => simpa using h2 m (by omega)
      · rw [List.erase_cons_tail (by simpa using e), h3, List.eraseIdx_cons_succ]
section
variable {G : G0} {X : Cx} {e o : Expr} {we : WE} {wq : WQ} {i : Nat} {f : PthF} {g : PuF} {pos pos' apos xpos : Pos} {x : Str}
/-- the list of a slot -/
theorem own_at {G : Gx} {b : Bs} {σ : L2.St} {H F : Hp} {ρ : Env} {i : Nat} {l : List T} (I : StOk G b σ H F ρ) (e : nth ρ i = some (.lst l)) : ∃ p vs, σ[i]? = some (some (.ref p)) ∧ H p = some (.lst vs) := by
  obtain ⟨⟨fps, I⟩⟩ := I
  obtain ⟨v, ev, a⟩ := I.at_ (nth_some e)
  generalize fpAt fps i = fp at a
  cases a with
  | lst h1 h2 h3 => exact ⟨_, _, ev, h1⟩
theorem ds_app (i : Nat) {xpos : Pos} (he : DQ G X e wq) (hN : X.N[i]? = some x := by rfl) (hv : Vis X.env.scope x := by first | exact Or.inl rfl | exact Or.inr (Or.inl rfl) | exact Or.inr (Or.inr rfl)) (hd : (x == ("__debug__" : Str)) = false := by decide)
    (hcd : (x == ("__classdict__" : Str)) = false := by decide)
    (hbase : attributeBase (.Name x xpos) "append" X.env (eval (.Name x xpos) X.env) = eval (.Name x xpos) X.env := by rfl)
    (hfew : ((backTo pos' (starEach [e] X.env)).all (fun x => !x.1) && (backToKw pos' (keywordEach [] X.env)).all (fun x => x.1.isSome)
      && decide ([e].length + ([] : List Keyword).length + (if ([] : List Keyword).isEmpty then 0 else 1) < 30)) = true := by rfl)
    (hline : (apos.endLine == pos'.line) = true := by rfl) (hs : starEach [e] X.env = (false, eval e X.env) :: starEach [] X.env := by rfl) (hplain : (backTo pos' (starEach [] X.env)).any (·.1) = false := by rfl)
    (hsw : swapsWith (.Call (.Attribute (.Name x xpos) "append" apos) [e] [] pos') none pos.line X.env = pure false := by rfl) :
    DS G X (.Expr (.Call (.Attribute (.Name x xpos) "append" apos) [e] [] pos') pos) (wApp i wq) :=
  .of ⟨_, ps_expr (pe_bm PySem.F.plainAttrs_list PySem.F.slot_list_append PySem.F.type_list_append mt_append (pe_var hN hv hd hcd) (pa_cons he.run pa_nil hs) hbase hfew hline hs hplain) hsw, fun b σ H F ρ De D I hw m => by
    unfold wApp at hw
    split at hw
    · rename_i l0 e0
      obtain ⟨p, vs, ep, h1⟩ := own_at I e0
      refine ⟨.ref p, ep, .inl ⟨rfl, vs, .inl (.inl h1)⟩, snd_canQ b σ H F ρ _ I hw _ fun v H1 F1 ρ1 fps1 t fp s1 I1 a1 nd hf k1 => ?_⟩
      split at k1
      · rename_i l e1
        obtain ⟨w, u, fs, ev', r', as⟩ := I1.reach (js := []) e1 rfl
        rw [ep] at ev'
        cases ev'
        cases r'
        obtain ⟨vs1, fq, g1, g2, g3, g4, g5, g6, put⟩ := I1.lstMod e1 ep .nil
        have np : p ∉ fp := fun z => (hf p z).2 g6
        obtain ⟨fps2, I2⟩ := put (l ++ [t]) (vs1 ++ [v]) (fq ++ (fp ++ [])) ((g2.offUpd g3).append (.cons (a1.offUpd np) .nil)) (by
          rw [List.append_nil, List.nodup_append]
          exact ⟨g4, nd, fun x m y m' e => by subst e; exact (hf x m').2 (g5 x m)⟩) (by
          rw [List.append_nil]
          intro z
          rcases List.mem_append.mp z with z | z
          · exact g3 z
          · exact np z) (fun x m => by
          rw [List.append_nil] at m
          rcases List.mem_append.mp m with z | z
          · exact .inl z
          · exact .inr (hf x z))
        exact ⟨p, vs1, v, rfl, rfl, g1, by rw [← g2.length]; exact Nat.lt_of_lt_of_le k1.1 (by decide), m.nx σ _ F1 _ s1 I2.ok k1.2⟩
      · exact k1.elim
    · exact hw.elim⟩
theorem ds_appP (ho : DPth G X o i f) (hg : DPu G X e g)
    (hbase : attributeBase o "append" X.env (eval o X.env) = eval o X.env := by rfl)
    (hfew : ((backTo pos' (starEach [e] X.env)).all (fun x => !x.1) && (backToKw pos' (keywordEach [] X.env)).all (fun x => x.1.isSome)
      && decide ([e].length + ([] : List Keyword).length + (if ([] : List Keyword).isEmpty then 0 else 1) < 30)) = true := by rfl)
    (hline : (apos.endLine == pos'.line) = true := by rfl) (hs : starEach [e] X.env = (false, eval e X.env) :: starEach [] X.env := by rfl) (hplain : (backTo pos' (starEach [] X.env)).any (·.1) = false := by rfl)
    (hsw : swapsWith (.Call (.Attribute o "append" apos) [e] [] pos') none pos.line X.env = pure false := by rfl) :
    DS G X (.Expr (.Call (.Attribute o "append" apos) [e] [] pos') pos) (wAppP i f g) :=
  .of ⟨_, ps_expr (pe_bm PySem.F.plainAttrs_list PySem.F.slot_list_append PySem.F.type_list_append mt_append ho.run (pa_cons hg.run pa_nil hs) hbase hfew hline hs hplain) hsw, fun b σ H F ρ De D I hw m => by
    unfold wAppP at hw
    split at hw
    · rename_i t et
      split at hw
      · rename_i js ef
        split at hw
        · rename_i l d e1 e2
          refine ⟨b, F, ρ, t, js, I, et, ef, fun v s0 u F1 H1 ev gr r1 => ?_⟩
          have I1 := I.grow gr
          obtain ⟨⟨fps1, I1'⟩⟩ := id I1
          obtain ⟨w, u', fs, ev', r', as⟩ := I1'.reach et e1
          rw [ev] at ev'
          cases ev'
          obtain ⟨rfl, rfl⟩ := r1.inj r'
          cases as with
          | @lst p vs _ fq h1 h2 h3 =>
            refine ⟨.inl ⟨rfl, vs, .inl (.inl h1)⟩, b, F1, ρ, d, I1, e2, fun y F2 H2 gr2 a2 => ?_⟩
            have I2 := I1.grow gr2
            obtain ⟨⟨fps2, I2'⟩⟩ := I2
            obtain ⟨vs1, fq, g1, g2, g3, g4, g5, g6, put⟩ := I2'.lstMod et ev (r1.up gr2.h)
            obtain ⟨fps3, I3⟩ := put (l ++ [.v d]) (vs1 ++ [y]) (fq ++ ([] ++ [])) ((g2.offUpd g3).append (.cons (.v a2) .nil)) (by simpa using g4) (by simpa using g3) (fun x m => .inl (by simpa using m))
            exact ⟨p, vs1, y, rfl, rfl, g1, by rw [← g2.length]; exact Nat.lt_of_lt_of_le hw.1 (by decide), m.nx σ _ F2 _ (gr.f.trans gr2.f) I3.ok hw.2⟩
        · exact hw.elim
      · exact hw.elim
    · exact hw.elim⟩
theorem ds_ext (i : Nat) {xpos : Pos} (he : DE G X e we) (hN : X.N[i]? = some x := by rfl) (hv : Vis X.env.scope x := by first | exact Or.inl rfl | exact Or.inr (Or.inl rfl) | exact Or.inr (Or.inr rfl)) (hd : (x == ("__debug__" : Str)) = false := by decide)
    (hcd : (x == ("__classdict__" : Str)) = false := by decide)
    (hbase : attributeBase (.Name x xpos) "extend" X.env (eval (.Name x xpos) X.env) = eval (.Name x xpos) X.env := by rfl)
    (hfew : ((backTo pos' (starEach [e] X.env)).all (fun x => !x.1) && (backToKw pos' (keywordEach [] X.env)).all (fun x => x.1.isSome)
      && decide ([e].length + ([] : List Keyword).length + (if ([] : List Keyword).isEmpty then 0 else 1) < 30)) = true := by rfl)
    (hline : (apos.endLine == pos'.line) = true := by rfl) (hs : starEach [e] X.env = (false, eval e X.env) :: starEach [] X.env := by rfl) (hplain : (backTo pos' (starEach [] X.env)).any (·.1) = false := by rfl)
    (hsw : swapsWith (.Call (.Attribute (.Name x xpos) "extend" apos) [e] [] pos') none pos.line X.env = pure false := by rfl) :
    DS G X (.Expr (.Call (.Attribute (.Name x xpos) "extend" apos) [e] [] pos') pos) (wExt i we) :=
  .of ⟨_, ps_expr (pe_bm PySem.F.plainAttrs_list PySem.F.slot_list_extend PySem.F.type_list_extend mt_extendA (pe_var hN hv hd hcd) (pa_cons he.run pa_nil hs) hbase hfew hline hs hplain) hsw, fun b σ H F ρ De D I hw m => by
    unfold wExt at hw
    split at hw
    · rename_i l0 e0
      obtain ⟨p, vs, ep, h1⟩ := own_at I e0
      refine ⟨.ref p, ep, .inl ⟨rfl, vs, .inl (.inl h1)⟩, snd_canE b σ H F ρ _ I hw _ fun v H1 F1 ρ1 d s1 I1 a1 k1 => ?_⟩
      split at k1
      · rename_i l m' e1 em
        obtain ⟨⟨fps1, I1⟩⟩ := I1
        obtain ⟨vs1, fq, g1, g2, g3, g4, g5, g6, put⟩ := I1.lstMod e1 ep .nil
        have fin : ∀ zs : List V, AtL (gx X G) F1 m' zs → vs1.length + zs.length ≤ sizeLine ∧ D.nx σ (upd H1 p (.lst (vs1 ++ zs))) := fun zs az => by
          obtain ⟨fps2, I2⟩ := put (l ++ m'.map .v) (vs1 ++ zs) (fq ++ []) ((g2.offUpd g3).append (AtTL.vals az)) (by simpa using g4) (by simpa using g3) (fun x m => .inl (by simpa using m))
          exact ⟨by rw [← g2.length, ← az.length]; exact sz k1.1, m.nx σ _ F1 _ s1 I2.ok k1.2⟩
        cases d with
        | tup ds =>
          cases em
          cases a1 with
          | @tup r us _ hs ha => exact .inr ⟨p, r, vs1, us, rfl, rfl, g1, same_t I1.fb.sub hs, (fin us ha).1, (fin us ha).2⟩
        | lst ds =>
          cases em
          cases a1 with
          | @lst r us _ hs ha => exact .inl ⟨p, r, vs1, us, rfl, rfl, g1, I1.fb.sub _ _ hs, (fin us ha).1, (fin us ha).2⟩
        | _ => cases em
      · exact k1.elim
    · exact hw.elim⟩
theorem d_popAt (i : Nat) {xpos : Pos} (he : DE G X e we) (hN : X.N[i]? = some x := by rfl) (hv : Vis X.env.scope x := by first | exact Or.inl rfl | exact Or.inr (Or.inl rfl) | exact Or.inr (Or.inr rfl)) (hd : (x == ("__debug__" : Str)) = false := by decide)
    (hcd : (x == ("__classdict__" : Str)) = false := by decide)
    (hbase : attributeBase (.Name x xpos) "pop" X.env (eval (.Name x xpos) X.env) = eval (.Name x xpos) X.env := by rfl)
    (hfew : ((backTo pos' (starEach [e] X.env)).all (fun x => !x.1) && (backToKw pos' (keywordEach [] X.env)).all (fun x => x.1.isSome)
      && decide ([e].length + ([] : List Keyword).length + (if ([] : List Keyword).isEmpty then 0 else 1) < 30)) = true := by rfl)
    (hline : (apos.endLine == pos'.line) = true := by rfl) (hs : starEach [e] X.env = (false, eval e X.env) :: starEach [] X.env := by rfl) (hplain : (backTo pos' (starEach [] X.env)).any (·.1) = false := by rfl) :
    DE G X (.Call (.Attribute (.Name x xpos) "pop" apos) [e] [] pos') (wPopAt i we) :=
  .of ⟨_, pe_bm PySem.F.plainAttrs_list PySem.F.slot_list_pop PySem.F.type_list_pop mt_popAt (pe_var hN hv hd hcd) (pa_cons he.run pa_nil hs) hbase hfew hline hs hplain, fun b σ H F ρ post I hw Q q => by
    unfold wPopAt at hw
    split at hw
    · rename_i l0 e0
      obtain ⟨p, vs, ep, h1⟩ := own_at I e0
      refine ⟨.ref p, ep, .inl ⟨rfl, vs, .inl (.inl h1)⟩, snd_canE b σ H F ρ _ I hw _ fun v H1 F1 ρ1 d s1 I1 a1 k1 => ?_⟩
      split at k1
      · rename_i l k e1
        split at k1
        · rename_i j ej
          split at k1
          · rename_i x0 ex
            obtain ⟨⟨fps1, I1⟩⟩ := I1
            obtain ⟨vs1, fq, g1, g2, g3, g4, g5, g6, put⟩ := I1.lstMod e1 ep .nil
            obtain ⟨u, fu, eu, au⟩ := g2.get ex
            obtain ⟨fq', er, sub⟩ := AtTL.erase j (g2.offUpd (o := .lst (vs1.eraseIdx j)) g3)
            obtain ⟨fps2, I2⟩ := put (l.eraseIdx j) (vs1.eraseIdx j) fq' er (g4.sublist sub) (fun z => g3 (sub.subset z)) (fun x m => .inl (sub.subset m))
            cases a1
            have hk := ixN_seq ej
            rw [g2.length] at hk
            cases au with
            | v au => exact ⟨p, vs1, k, j, u, rfl, rfl, g1, by omega, by omega, hk.1, eu, q u _ F1 _ x0 s1 I2.ok au k1.2⟩
          · exact k1.elim
        · exact k1.elim
      · exact k1.elim
    · exact hw.elim⟩
theorem d_remI (i : Nat) {xpos : Pos} (he : DE G X e we) (hN : X.N[i]? = some x := by rfl) (hv : Vis X.env.scope x := by first | exact Or.inl rfl | exact Or.inr (Or.inl rfl) | exact Or.inr (Or.inr rfl)) (hd : (x == ("__debug__" : Str)) = false := by decide)
    (hcd : (x == ("__classdict__" : Str)) = false := by decide)
    (hbase : attributeBase (.Name x xpos) "remove" X.env (eval (.Name x xpos) X.env) = eval (.Name x xpos) X.env := by rfl)
    (hfew : ((backTo pos' (starEach [e] X.env)).all (fun x => !x.1) && (backToKw pos' (keywordEach [] X.env)).all (fun x => x.1.isSome)
      && decide ([e].length + ([] : List Keyword).length + (if ([] : List Keyword).isEmpty then 0 else 1) < 30)) = true := by rfl)
    (hline : (apos.endLine == pos'.line) = true := by rfl) (hs : starEach [e] X.env = (false, eval e X.env) :: starEach [] X.env := by rfl) (hplain : (backTo pos' (starEach [] X.env)).any (·.1) = false := by rfl) :
    DE G X (.Call (.Attribute (.Name x xpos) "remove" apos) [e] [] pos') (wRemI i we) :=
  .of ⟨_, pe_bm PySem.F.plainAttrs_list PySem.F.slot_list_remove PySem.F.type_list_remove mt_remove (pe_var hN hv hd hcd) (pa_cons he.run pa_nil hs) hbase hfew hline hs hplain, fun b σ H F ρ post I hw Q q => by
    unfold wRemI at hw
    split at hw
    · rename_i l0 e0
      obtain ⟨p, vs, ep, h1⟩ := own_at I e0
      refine ⟨.ref p, ep, .inl ⟨rfl, vs, .inl (.inl h1)⟩, snd_canE b σ H F ρ _ I hw _ fun v H1 F1 ρ1 d s1 I1 a1 k1 => ?_⟩
      split at k1
      · rename_i l k e1
        split at k1
        · rename_i ns en
          obtain ⟨hk, k1⟩ := k1
          obtain ⟨⟨fps1, I1⟩⟩ := I1
          obtain ⟨vs1, fq, g1, g2, g3, g4, g5, g6, put⟩ := I1.lstMod e1 ep .nil
          obtain ⟨ev, _⟩ := intsT_vs g2 en
          subst ev
          obtain ⟨j, j1, j2, j3⟩ := erase_at hk
          obtain ⟨fps2, I2⟩ := put ((ns.erase k).map fun n => .v (.int n)) ((ns.erase k).map V.int) [] (AtTL.ints _) List.nodup_nil (by simp) (by simp)
          cases a1
          rw [j3] at I2 k1
          exact ⟨p, ns, k, j, rfl, rfl, g1, j1, j2, q .non _ F1 _ .non s1 I2.ok .non k1⟩
        · exact k1.elim
      · exact k1.elim
    · exact hw.elim⟩

/-! ### targets: places -/
def gSet (i : Nat) (f : PthF) (g : PuF) : WG := fun d ρ k => match nth ρ i with
  | some t => (match f t ρ with
    | some js => (match getP t js, g ρ with
      | some (.lst l), some (.int n) => (match ixN l.length n with
        | some j => k (ρ.set i (some (setP t js (.lst (l.set j (.v d))))))
        | none => False)
      | _, _ => False)
    | none => False)
  | none => False
theorem dg_set (ho : DPth G X o i f) (hg : DPu G X e g)
    (ha : ∀ v, assign (.Subscript o e pos) X.env v = (do
      let ov ← holding [v] (eval o X.env)
      let iv ← holding [v, ov] (eval e X.env)
      standAt pos
      holding [v, ov, iv] (setItem ov iv v)
      release [v, ov, iv] []) := by intro _; rfl) : DG G X (.Subscript o e pos) [] (gSet i f g) :=
  ⟨⟨fun pins s σ H v u Q Iv rv ⟨b, F, ρ, d, k, I, a0, hw, q⟩ => (pg_sub ho.run hg.run set_list ha).run pins s σ H v u Q Iv rv (by
    unfold gSet at hw
    split at hw
    · rename_i t et
      split at hw
      · rename_i js ef
        split at hw
        · rename_i l n e1 e2
          split at hw
          · rename_i j ej
            refine ⟨b, F, ρ, t, js, I, et, ef, fun w s0 u0 F1 H1 ev gr r1 => ⟨b, F1, ρ, _, I.grow gr, e2, fun y F2 H2 gr2 a2 => ?_⟩⟩
            cases a2
            have I2 := (I.grow gr).grow gr2
            obtain ⟨⟨fps2, I2⟩⟩ := I2
            have r2 := r1.up gr2.h
            obtain ⟨w', u', fs, ev', r', as⟩ := I2.reach et e1
            rw [ev] at ev'
            cases ev'
            obtain ⟨rfl, rfl⟩ := r2.inj r'
            cases as with
            | @lst p vs _ fq0 h1 h2 h3 =>
              obtain ⟨vs1, fq, g1, g2, g3, g4, g5, g6, put⟩ := I2.lstMod et ev r'
              have hj : j < l.length := ixN_lt ej
              obtain ⟨x0, fx, L, R, ex, ax, efq, put'⟩ := g2.at_ (List.getElem?_eq_getElem hj)
              have ad : At (gx X G) F2 d v := (a0.up gr.f).up gr2.f
              have nLR : ∀ x ∈ L ++ R, x ∈ fq := fun x m => by rw [efq]; rcases List.mem_append.mp m with m | m <;> simp [m]
              have new := put' F2 (upd H2 p (.lst (vs1.set j v))) (.v d) v [] (Same.refl _) (fun x m o eo => by
                have : x ≠ p := fun z => g3 (by rw [← z]; exact nLR x m)
                rw [upd_ne this]; exact eo) (fun x m => (AtTL.free _ _ _ g2 x (nLR x m)).1) (.v ad)
              rw [List.append_nil] at new
              have sub : (L ++ R).Sublist fq := by rw [efq]; exact List.Sublist.append (List.sublist_append_left _ _) (List.Sublist.refl _)
              obtain ⟨fps3, I3⟩ := put (l.set j (.v d)) (vs1.set j v) (L ++ R) new (g4.sublist sub) (fun z => g3 (sub.subset z)) (fun x m => .inl (sub.subset m))
              exact ⟨p, vs1, n, j, rfl, rfl, g1, by rw [← g2.length]; exact ej, q σ _ F2 _ (gr.f.trans gr2.f) I3.ok .refl hw⟩
          · exact hw.elim
        · exact hw.elim
      · exact hw.elim
    · exact hw.elim)⟩⟩
end
end J

set_option Elab.async false
set_option linter.all false
set_option maxRecDepth 100000
set_option maxHeartbeats 4000000
namespace J
open PySem PySem.Spec PyProof.Rows L2

/-! ### fields -/
theorem putF_new {f : Str} {v : V} : ∀ {fs : List (Str × V)}, (∀ p ∈ fs, p.1 ≠ f) → putF f v fs = fs ++ [(f, v)]
  | [], _ => rfl
  | (g, x) :: r, h => by
    have h1 : g ≠ f := h _ List.mem_cons_self
    show (if g = f then (g, v) :: r else (g, x) :: putF f v r) = (g, x) :: (r ++ [(f, v)])
    rw [if_neg h1, putF_new fun p hp => h p (List.mem_cons_of_mem _ hp)]
theorem putF_set {f : Str} {v : V} : ∀ {fs : List (Str × V)} {j : Nat}, firstAt (fs.map (·.1)) f j = true → putF f v fs = fs.set j (f, v)
  | [], j, h => by simp [firstAt] at h
  | (g, x) :: r, 0, h => by
    have h1 : g = f := by
      have := (Bool.and_eq_true_iff.mp h).1
      simpa using this
    show (if g = f then (g, v) :: r else (g, x) :: putF f v r) = _
    rw [if_pos h1, h1]
    rfl
  | (g, x) :: r, j + 1, h => by
    have h0 := Bool.and_eq_true_iff.mp h
    have h1 : g ≠ f := by
      have := h0.2
      simp at this
      exact this.1
    have h2 : firstAt (r.map (·.1)) f j = true := by
      unfold firstAt
      have p1 := h0.1
      have p2 := h0.2
      rw [List.map_cons, List.take_succ_cons, List.all_cons] at p2
      have p2' := (Bool.and_eq_true_iff.mp p2).2
      rw [List.map_cons, List.getElem?_cons_succ] at p1
      rw [p1, p2']
      rfl
    show (if g = f then (g, v) :: r else (g, x) :: putF f v r) = _
    rw [if_neg h1, putF_set h2]
    rfl
/-- the fields behind a store -/
theorem putF_at {f : Str} {v : V} {cf : List Str} {fs : List (Str × V)} {n j : Nat} (hn : fs.map (·.1) = cf.take n) (hl : fs.length = n) (h : firstAt cf f j = true) (hj : j ≤ n) :
    (j < n → (putF f v fs).map (·.1) = cf.take n ∧ (putF f v fs).map (·.2) = (fs.map (·.2)).set j v) ∧ (j = n → (putF f v fs).map (·.1) = cf.take (n + 1) ∧ (putF f v fs).map (·.2) = fs.map (·.2) ++ [v]) := by
  have hf : cf[j]? = some f := by
    have := (Bool.and_eq_true_iff.mp h).1
    simpa using this
  refine ⟨fun hlt => ?_, fun he => ?_⟩
  · have h' : firstAt (fs.map (·.1)) f j = true := by rw [hn]; exact firstAt_take h hlt
    rw [putF_set h', List.map_set, List.map_set]
    refine ⟨?_, rfl⟩
    rw [hn]
    apply set_id
    rw [List.getElem?_take, if_pos hlt, hf]
  · subst he
    have h' : ∀ p ∈ fs, p.1 ≠ f := fun p hp z => by
      have hm : p.1 ∈ cf.take j := by rw [← hn]; exact List.mem_map_of_mem hp
      have h2 := (Bool.and_eq_true_iff.mp h).2
      rw [List.all_eq_true] at h2
      have := h2 p.1 hm
      simp [z] at this
    rw [putF_new h', List.map_append, List.map_append, hn]
    refine ⟨?_, rfl⟩
    rw [List.take_add_one, hf]
    rfl
section
variable {G : Gx} {b : Bs} {σ σ' : L2.St} {H F H' F' : Hp} {ρ ρ' : Env} {fps : List (List Addr)}
/-- the list of kids behind a store at j, or one more -/
def putAt {α : Type} (l : List α) (j : Nat) (x : α) : Option (List α) := if j < l.length then some (l.set j x) else if j = l.length then some (l ++ [x]) else none
theorem AtTL.putAt {ts ts' : List T} {vs : List V} {fq fp : List Addr} {t : T} {v : V} {j : Nat} (h : AtTL G F H ts vs fq) (a : AtT G F H t v fp) (e : putAt ts j t = some ts') (nd : fq.Nodup) (nd' : fp.Nodup) (dj : ∀ x ∈ fp, x ∉ fq) :
    ∃ vs' fq', AtTL G F H ts' vs' fq' ∧ fq'.Nodup ∧ (∀ x ∈ fq', x ∈ fq ∨ x ∈ fp) ∧ ((j < ts.length ∧ ts'.length = ts.length ∧ vs' = vs.set j v) ∨ (j = ts.length ∧ ts'.length = ts.length + 1 ∧ vs' = vs ++ [v])) := by
  unfold J.putAt at e
  split at e
  · rename_i hj
    cases e
    obtain ⟨w, fw, L, R, e1, e2, e3, put⟩ := h.at_ (List.getElem?_eq_getElem hj)
    have hk : ∀ x ∈ L ++ R, x ∈ fq := fun x m => by rw [e3]; rcases List.mem_append.mp m with m | m <;> simp [m]
    have new := put F H t v fp (Same.refl _) (fun x m o eo => eo) (fun x m => (AtTL.free _ _ _ h x (hk x m)).1) a
    refine ⟨_, _, new, ?_, fun x m => ?_, .inl ⟨hj, by rw [List.length_set], rfl⟩⟩
    · rw [e3] at nd dj
      rw [List.append_assoc, List.nodup_append, List.nodup_append] at nd ⊢
      obtain ⟨n1, ⟨n2, n3, n4⟩, n5⟩ := nd
      refine ⟨n1, ⟨nd', n3, fun x m y m' e => ?_⟩, fun x m y m' e => ?_⟩
      · subst e; exact dj x m (by simp [m'])
      · subst e
        rcases List.mem_append.mp m' with m' | m'
        · exact dj x m' (by simp [m])
        · exact n5 x m x (by simp [m']) rfl
    · rcases List.mem_append.mp m with m | m
      · rcases List.mem_append.mp m with m | m
        · exact .inl (hk x (by simp [m]))
        · exact .inr m
      · exact .inl (hk x (by simp [m]))
  · split at e
    · rename_i hj
      cases e
      refine ⟨_, _, h.append (.cons a .nil), ?_, fun x m => ?_, .inr ⟨hj, by simp, rfl⟩⟩
      · rw [List.append_nil, List.nodup_append]
        exact ⟨nd, nd', fun x m y m' e => by subst e; exact dj x m' m⟩
      · rw [List.append_nil] at m
        exact List.mem_append.mp m
    · cases e
theorem StF.insMod (I : StF G b σ H F ρ fps) {i : Nat} {t : T} {v : V} (e : nth ρ i = some t) (ev : σ[i]? = some (some v)) {js : List Nat} {c : Nat} {ts : List T} {p : Addr} (r : Reach H t v js (.ins c ts) (.ref p)) :
    ∃ C dx fs fq, H p = some (.ins C dx fs) ∧ C = G.ca c ∧ fs.map (·.1) = (G.cf c).take ts.length ∧ AtTL G F H ts (fs.map (·.2)) fq ∧ p ∉ fq ∧ fq.Nodup ∧ (∀ x ∈ fq, x ∈ fps.flatten) ∧ p ∈ fps.flatten ∧ ∀ (ts' : List T) (fs' : List (Str × V)) (fq' : List Addr), AtTL G F (upd H p (.ins C dx fs')) ts' (fs'.map (·.2)) fq' →
      fs'.map (·.1) = (G.cf c).take ts'.length → fq'.Nodup → p ∉ fq' → (∀ a ∈ fq', a ∈ fq ∨ (b.H0 a = none ∧ a ∉ fps.flatten)) → ∃ fps', StF G b σ (upd H p (.ins C dx fs')) F (ρ.set i (some (setP t js (.ins c ts')))) fps' := by
  have mo := fun s' => I.modify (s' := s') e ev r
  obtain ⟨fs0, as, nd, sub, _⟩ := mo (.ins c ts)
  cases as with
  | @ins _ dx C _ fs _ fq h1 hC hn h2 h3 =>
    have nd' := List.nodup_cons.mp nd
    refine ⟨C, dx, fs, fq, h1, hC, hn, h3, nd'.1, nd'.2, fun x m => sub x (List.mem_cons_of_mem _ m), sub p List.mem_cons_self, fun ts' fs' fq' a' hn' ndq np hf => ?_⟩
    obtain ⟨fs2, as2, nd2, sub2, put⟩ := mo (.ins c ts')
    cases as2 with
    | @ins _ dx2 C2 _ fs3 _ fq2 g1 gC gn g2 g3 =>
      rw [h1] at g1
      cases g1
      have hm := I.mine p (sub p List.mem_cons_self)
      have key : ∀ x, x ∈ fq → x ∈ fq2 := fun x m => by rw [← AtTL.uniq h3 g3]; exact m
      exact put (upd H p (.ins C dx fs')) F (p :: fq') (I.fb.write h2 hm) (Same.refl _) (fun x n => ⟨fun o eo => by rw [upd_ne (fun z => n (by rw [z]; exact List.mem_cons_self))]; exact eo, fun eo => eo⟩) (.ins upd_same hC hn' h2 a') (List.nodup_cons.mpr ⟨np, ndq⟩) fun x m => by
        rcases List.mem_cons.mp m with rfl | m
        · exact .inl List.mem_cons_self
        · rcases hf x m with z | z
          · exact .inl (List.mem_cons_of_mem _ (key x z))
          · exact .inr z
/-- a field of an instance is stored -/
theorem StF.putField (I : StF G b σ H F ρ fps) {i : Nat} {t : T} {v : V} (e : nth ρ i = some t) (ev : σ[i]? = some (some v)) {js : List Nat} {c : Nat} {ts ts' : List T} {p : Addr} (r : Reach H t v js (.ins c ts) (.ref p)) {f : Str} {j : Nat} (hf : firstAt (G.cf c) f j = true)
    {t1 : T} {y : V} {fp : List Addr} (a : AtT G F H t1 y fp) (nd : fp.Nodup) (fr : ∀ x ∈ fp, b.H0 x = none ∧ x ∉ fps.flatten) (ep : putAt ts j t1 = some ts') :
    ∃ dx fs, H p = some (.ins (G.ca c) dx fs) ∧ fs.length = ts.length ∧ ∃ fps', StF G b σ (upd H p (.ins (G.ca c) dx (putF f y fs))) F (ρ.set i (some (setP t js (.ins c ts')))) fps' := by
  obtain ⟨C, dx, fs, fq, h1, rfl, hn, h3, np, ndq, sub, pm, put⟩ := I.insMod e ev r
  have hl : fs.length = ts.length := by rw [h3.length, List.length_map]
  have npf : p ∉ fp := fun z => (fr p z).2 pm
  obtain ⟨vs', fq', a', nd', hm, hc⟩ := AtTL.putAt (h3.offUpd (o := .ins (G.ca c) dx (putF f y fs)) np) (a.offUpd npf) ep ndq nd fun x m z => (fr x m).2 (sub x z)
  refine ⟨dx, fs, h1, hl, put ts' (putF f y fs) fq' ?_ ?_ nd' (fun z => ?_) fun x m => ?_⟩
  · rcases hc with ⟨hj, _, rfl⟩ | ⟨hj, _, rfl⟩
    · rw [((putF_at hn hl hf (by omega)).1 hj).2]; exact a'
    · rw [((putF_at hn hl hf (by omega)).2 hj).2]; exact a'
  · rcases hc with ⟨hj, hl', rfl⟩ | ⟨hj, hl', rfl⟩
    · rw [((putF_at hn hl hf (by omega)).1 hj).1, hl']
    · rw [((putF_at hn hl hf (by omega)).2 hj).1, hl']
  · rcases hm p z with z | z
    · exact np z
    · exact npf z
  · rcases hm x m with z | z
    · exact .inl z
    · exact .inr (fr x z)
end
/-- o.f = e -/
def wFldS (i : Nat) (f : PthF) (at' : Nat → Option Nat) (w : WQ) : WS := fun De ρ => w ρ fun ρ1 t1 => match nth ρ1 i with
  | some t => (match f t ρ1 with
    | some js => (match getP t js with
      | some (.ins c l) => (match at' c with
        | some j => (match putAt l j t1 with
          | some l' => l.length < 900 ∧ De.nx (ρ1.set i (some (setP t js (.ins c l'))))
          | none => False)
        | none => False)
      | _ => False)
    | none => False)
  | none => False
def gFld (i : Nat) (f : PthF) (at' : Nat → Option Nat) : WG := fun d ρ k => match nth ρ i with
  | some t => (match f t ρ with
    | some js => (match getP t js with
      | some (.ins c l) => (match at' c with
        | some j => (match putAt l j (.v d) with
          | some l' => l.length < 900 ∧ k (ρ.set i (some (setP t js (.ins c l'))))
          | none => False)
        | none => False)
      | _ => False)
    | none => False)
  | none => False
/-- o.f as a target -/
def tgFld (K : PySem.W.Frag) (ta : TE) (f : Str) : TG := fun v σ H Q => ta σ H fun x H2 => ∃ a C dx fs, x = .ref a ∧ H2 a = some (.ins C dx fs) ∧ Cls K C ∧ NoAttr K C f ∧ fs.length < 1000 ∧ Q σ (upd H2 a (.ins C dx (putF f v fs)))
theorem pg_att {X : Cx} {o : Expr} {f : Str} {pos : Pos} {ta : TE} (ha : PE X o ta) : PG X (.Attribute o f pos) (tgFld X.K ta f) := by
  refine ⟨fun pins s σ H v u Q I r h => ?_⟩
  rw [assign_Attribute]
  refine wpAny_bind (wpAny_holding (thn (ha.run pins s σ H _ I h) fun ov s1 ⟨x, H1, I1, r1, a, C, dx, fs, ex, ea, c, n, l, q⟩ => ?_))
  subst ex
  obtain rfl : ov = Value.ref a := r1
  refine wpAny_bind (wpAny_standAt (wpAny_bind (wpAny_holding (setattr_ok I1 ea c n l r fun s2 I2 => ?_))))
  exact wpAny_release ⟨σ, _, I2, q⟩
section
variable {G : G0} {X : Cx} {value o : Expr} {fn x : Str} {wq : WQ} {pos pos' xpos : Pos} {i : Nat} {f : PthF} {at' : Nat → Option Nat}
theorem ds_fld (c : ∀ c j, at' c = some j → Cls X.K (G.ca c) ∧ NoAttr X.K (G.ca c) fn ∧ firstAt (G.cf c) fn j = true) (ho : DPth G X o i f) (hv : DQ G X value wq)
    (hs : swapsWith value (some (.Attribute o fn pos')) pos.line X.env = pure false := by rfl) : DS G X (.Assign [.Attribute o fn pos'] value pos) (wFldS i f at' wq) :=
  .of ⟨_, ps_fld ho.run hv.run hs, fun b σ H F ρ De D I hw m => snd_canQ b σ H F ρ _ I hw _ fun y H1 F1 ρ1 fps1 t1 fp s1 I1 a1 nd fr h1 => by
    split at h1
    · rename_i t et
      split at h1
      · rename_i js ef
        split at h1
        · rename_i c0 l eg
          split at h1
          · rename_i j ej
            split at h1
            · rename_i l' el
              obtain ⟨k1, k2, k3⟩ := c _ _ ej
              refine ⟨b, F1, ρ1, t, js, I1.ok, et, ef, fun v s0 u F2 H2 ev gr r1 => ?_⟩
              have I2 := I1.grow gr
              have e' := r1.get
              rw [eg] at e'
              cases e'
              have a2 : AtT (gx X G) F2 H2 t1 y fp := AtT.frame gr.f _ _ _ a1 (fun x _ o eo => gr.h _ _ eo) fun x m => by
                obtain ⟨n, o, eo, _⟩ := a1.free _ _ _ x m
                exact gr.none eo n
              obtain ⟨v', u', fs0, ev', r', as⟩ := I2.reach et eg
              rw [ev] at ev'
              cases ev'
              obtain ⟨_, rfl⟩ := r1.inj r'
              cases as with
              | @ins p _ _ _ _ _ _ g1 g2 g3 g4 g5 =>
                obtain ⟨dx, fs, e1, e2, fps3, I3⟩ := I2.putField et ev r1 k3 a2 nd fr el
                exact ⟨p, _, dx, fs, rfl, e1, k1, k2, by omega, m.nx σ _ F2 _ (s1.trans gr.f) I3.ok h1.2⟩
            · exact h1.elim
          · exact h1.elim
        · exact h1.elim
      · exact h1.elim
    · exact h1.elim⟩
theorem dg_fld (c : ∀ c j, at' c = some j → Cls X.K (G.ca c) ∧ NoAttr X.K (G.ca c) fn ∧ firstAt (G.cf c) fn j = true) (ho : DPth G X o i f) : DG G X (.Attribute o fn pos) [] (gFld i f at') :=
  ⟨⟨fun pins s σ H v u Q Iv rv ⟨b, F, ρ, d, k, I, a0, hw, q⟩ => (pg_att ho.run).run pins s σ H v u Q Iv rv (by
    unfold gFld at hw
    split at hw
    · rename_i t et
      split at hw
      · rename_i js ef
        split at hw
        · rename_i c0 l eg
          split at hw
          · rename_i j ej
            split at hw
            · rename_i l' el
              obtain ⟨k1, k2, k3⟩ := c _ _ ej
              refine ⟨b, F, ρ, t, js, I, et, ef, fun w s0 u F2 H2 ev gr r1 => ?_⟩
              have I2 := I.grow gr
              obtain ⟨⟨fps2, I2⟩⟩ := I2
              have e' := r1.get
              rw [eg] at e'
              cases e'
              obtain ⟨v', u', fs0, ev', r', as⟩ := I2.reach et eg
              rw [ev] at ev'
              cases ev'
              obtain ⟨_, rfl⟩ := r1.inj r'
              cases as with
              | @ins p _ _ _ _ _ _ g1 g2 g3 g4 g5 =>
                obtain ⟨dx, fs, e1, e2, fps3, I3⟩ := I2.putField et ev r1 k3 (.v (a0.up gr.f)) List.nodup_nil (by simp) el
                exact ⟨p, _, dx, fs, rfl, e1, k1, k2, by omega, q σ _ F2 _ gr.f I3.ok .refl hw.2⟩
            · exact hw.elim
          · exact hw.elim
        · exact hw.elim
      · exact hw.elim
    · exact hw.elim)⟩⟩
end

/-! ### a, b = x, y -/
section
variable {G : Gx} {b : Bs} {σ : L2.St} {H F : Hp} {ρ : Env} {fps : List (List Addr)}
/-- the first of some new trees goes into a slot -/
theorem put_one {i : Nat} {v : V} {t : T} {vs : List V} {ts : List T} {fp : List Addr} (hpr : i ∉ G.pr) (I : StF G b σ H F ρ fps) (a : AtTL G F H (t :: ts) (v :: vs) fp) (nd : fp.Nodup) (hf : ∀ x ∈ fp, b.H0 x = none ∧ x ∉ fps.flatten) :
    ∃ fps' fp', StF G b (σ.set i (some v)) H F (ρ.set i (some t)) fps' ∧ AtTL G F H ts vs fp' ∧ fp'.Nodup ∧ ∀ x ∈ fp', b.H0 x = none ∧ x ∉ fps'.flatten := by
  cases a with
  | @cons _ _ _ _ f1 f2 a1 a2 =>
    rw [List.nodup_append] at nd
    obtain ⟨n1, n2, n3⟩ := nd
    refine ⟨_, f2, I.setT hpr a1 n1 fun x m => hf x (List.mem_append_left _ m), a2, n2, fun x m => ⟨(hf x (List.mem_append_right _ m)).1, fun z => ?_⟩⟩
    rcases set_flat_mem z with z | z
    · exact n3 x z x m rfl
    · exact (hf x (List.mem_append_right _ m)).2 z
end
def wPar (i j : Nat) (w : WQs) : WS := fun De ρ => w ρ fun ρ1 ts => match ts with
  | [x, y] => De.nx ((ρ1.set i (some x)).set j (some y))
  | _ => False
def wPar3 (i j l : Nat) (w : WQs) : WS := fun De ρ => w ρ fun ρ1 ts => match ts with
  | [x, y, z] => De.nx (((ρ1.set i (some x)).set j (some y)).set l (some z))
  | _ => False
theorem AtTL.cons_inv {G : Gx} {F H : Hp} {t : T} {ts : List T} {vs : List V} {fp : List Addr} (h : AtTL G F H (t :: ts) vs fp) : ∃ v us, vs = v :: us := by
  cases h with
  | cons _ _ => exact ⟨_, _, rfl⟩
theorem AtTL.nil_inv {G : Gx} {F H : Hp} {vs : List V} {fp : List Addr} (h : AtTL G F H [] vs fp) : vs = [] := by
  cases h
  rfl
section
variable {G : G0} {X : Cx}
theorem ds_par (i j : Nat) (hi0 : i ∉ G.pr) (hj0 : j ∉ G.pr) {x y : Str} {e1 e2 : Expr} {w : WQs} {px py pt pos : Pos} {kt k2 pt2} (hc : X.calm = true) (hN : X.N.Nodup) (ha : DAT G X [e1, e2] w)
    (hw : swappedStores [.Tuple [.Name x px, .Name y py] kt pt] (.Tuple [e1, e2] k2 pt2) X.env = pure (some [x, y]) := by rfl)
    (hi : X.N[i]? = some x := by rfl) (hj : X.N[j]? = some y := by rfl) (hij : i ≠ j := by decide)
    (hx : X.env.scope.names.lookup x = some .local := by rfl) (hy : X.env.scope.names.lookup y = some .local := by rfl)
    (hs : swapsWithSole [.Tuple [.Name x px, .Name y py] kt pt] (.Tuple [e1, e2] k2 pt2) pos.line X.env = pure false := by rfl) :
    DS G X (.Assign [.Tuple [.Name x px, .Name y py] kt pt] (.Tuple [e1, e2] k2 pt2) pos) (wPar i j w) :=
  .of ⟨_, ps_par hc hN hi hj hij hx hy ha.run hw hs, fun b σ H F ρ De D I hw m => ⟨b, F, ρ, _, I, hw, fun vs H1 F1 ρ1 fps1 ts fp s1 I1 a nd hf h1 => by
    split at h1
    · rename_i x1 y1
      obtain ⟨v, us, rfl⟩ := a.cons_inv
      obtain ⟨fps2, fp2, I2, a2, nd2, hf2⟩ := put_one (i := i) hi0 I1 a nd hf
      obtain ⟨v2, us, rfl⟩ := a2.cons_inv
      obtain ⟨fps3, fp3, I3, a3, nd3, hf3⟩ := put_one (i := j) hj0 I2 a2 nd2 hf2
      cases a3.nil_inv
      exact ⟨v, v2, rfl, m.nx _ H1 F1 _ s1 I3.ok h1⟩
    · exact h1.elim⟩⟩
theorem ds_par3 (i j l : Nat) (hi0 : i ∉ G.pr) (hj0 : j ∉ G.pr) (hl0 : l ∉ G.pr) {x y z : Str} {e1 e2 e3 : Expr} {w : WQs} {px py pz pt pos : Pos} {kt k2 pt2} (hc : X.calm = true) (hN : X.N.Nodup) (ha : DAT G X [e1, e2, e3] w)
    (hw : swappedStores [.Tuple [.Name x px, .Name y py, .Name z pz] kt pt] (.Tuple [e1, e2, e3] k2 pt2) X.env = pure (some [x, y, z]) := by rfl)
    (hi : X.N[i]? = some x := by rfl) (hj : X.N[j]? = some y := by rfl) (hl : X.N[l]? = some z := by rfl) (hij : i ≠ j := by decide) (hil : i ≠ l := by decide) (hjl : j ≠ l := by decide)
    (hx : X.env.scope.names.lookup x = some .local := by rfl) (hy : X.env.scope.names.lookup y = some .local := by rfl) (hz : X.env.scope.names.lookup z = some .local := by rfl)
    (hs : swapsWithSole [.Tuple [.Name x px, .Name y py, .Name z pz] kt pt] (.Tuple [e1, e2, e3] k2 pt2) pos.line X.env = pure false := by rfl) :
    DS G X (.Assign [.Tuple [.Name x px, .Name y py, .Name z pz] kt pt] (.Tuple [e1, e2, e3] k2 pt2) pos) (wPar3 i j l w) :=
  .of ⟨_, ps_par3 hc hN hi hj hl hij hil hjl hx hy hz ha.run hw hs, fun b σ H F ρ De D I hw m => ⟨b, F, ρ, _, I, hw, fun vs H1 F1 ρ1 fps1 ts fp s1 I1 a nd hf h1 => by
    split at h1
    · rename_i x1 y1 z1
      obtain ⟨v, us, rfl⟩ := a.cons_inv
      obtain ⟨fps2, fp2, I2, a2, nd2, hf2⟩ := put_one (i := i) hi0 I1 a nd hf
      obtain ⟨v2, us, rfl⟩ := a2.cons_inv
      obtain ⟨fps3, fp3, I3, a3, nd3, hf3⟩ := put_one (i := j) hj0 I2 a2 nd2 hf2
      obtain ⟨v3, us, rfl⟩ := a3.cons_inv
      obtain ⟨fps4, fp4, I4, a4, nd4, hf4⟩ := put_one (i := l) hl0 I3 a3 nd3 hf3
      cases a4.nil_inv
      exact ⟨v, v2, v3, rfl, m.nx _ H1 F1 _ s1 I4.ok h1⟩
    · exact h1.elim⟩⟩
end
/-- the same by a tuple that is made and unpacked: where a name is a cell -/
def tgN : List Nat → TGs
  | [] => gNil
  | i :: r => gCons (gName i) (tgN r)
structure DNs (X : Cx) (es : List Expr) (is : List Nat) : Prop where
  run : PGs X es (tgN is)
theorem dns_nil {X : Cx} : DNs X [] [] := ⟨pgs_nil⟩
theorem dns_cons {X : Cx} (i : Nat) {x : Str} {pos : Pos} {es : List Expr} {is : List Nat} (hN : X.N.Nodup) (h : DNs X es is) (hi : X.N[i]? = some x := by rfl) (hx : Loc X.env.scope x := by first | exact .inl rfl | exact .inr rfl) (hf : X.fn x = true ∨ X.env.scope.names.lookup x = some .local := by first | exact .inl rfl | exact .inr rfl)
    (hs : (assignEach (.Name x pos :: es) X.env).map (·.2) = assign (.Name x pos) X.env :: (assignEach es X.env).map (·.2) := by rfl) : DNs X (.Name x pos :: es) (i :: is) := ⟨pgs_cons (pg_name hN hi hx hf) h.run hs⟩
def setAll : List Nat → List T → Env → Option Env
  | [], [], ρ => some ρ
  | i :: is, t :: ts, ρ => setAll is ts (ρ.set i (some t))
  | _, _, _ => none
def wUnp (is : List Nat) (w : WQs) : WS := fun De ρ => w ρ fun ρ1 ts => ts.length ≤ 100 ∧ (match setAll is ts ρ1 with
  | some ρ2 => De.nx ρ2
  | none => False)
theorem put_all {G : Gx} {b : Bs} {H F : Hp} : ∀ {is : List Nat} {ts : List T} {vs : List V} {fp : List Addr} {σ : L2.St} {ρ ρ2 : Env} {fps : List (List Addr)} {Q : L2.St → Hp → Prop}, (∀ i ∈ is, i ∉ G.pr) → StF G b σ H F ρ fps → AtTL G F H ts vs fp → fp.Nodup → (∀ x ∈ fp, b.H0 x = none ∧ x ∉ fps.flatten) →
    setAll is ts ρ = some ρ2 → (∀ σ', StOk G b σ' H F ρ2 → Q σ' H) → tgN is vs σ H Q
  | [], [], _, _, σ, ρ, ρ2, fps, Q, _, I, a, _, _, e, q => by
    cases a.nil_inv
    cases e
    exact ⟨rfl, q σ I.ok⟩
  | [], _ :: _, _, _, _, _, _, _, _, _, _, _, _, _, e, _ => by cases e
  | _ :: _, [], _, _, _, _, _, _, _, _, _, _, _, _, e, _ => by cases e
  | i :: is, t :: ts, vs, fp, σ, ρ, ρ2, fps, Q, hp, I, a, nd, hf, e, q => by
    obtain ⟨v, us, rfl⟩ := a.cons_inv
    obtain ⟨fps2, fp2, I2, a2, nd2, hf2⟩ := put_one (i := i) (hp i List.mem_cons_self) I a nd hf
    exact ⟨v, us, rfl, put_all (fun x m => hp x (List.mem_cons_of_mem _ m)) I2 a2 nd2 hf2 e q⟩
theorem setAll_len : ∀ {is : List Nat} {ts : List T} {ρ ρ2 : Env}, setAll is ts ρ = some ρ2 → is.length = ts.length
  | [], [], _, _, _ => rfl
  | [], _ :: _, _, _, e => by cases e
  | _ :: _, [], _, _, e => by cases e
  | i :: is, x :: ts, ρ, ρ2, e => by rw [List.length_cons, List.length_cons, setAll_len (is := is) (ts := ts) e]
theorem ds_unp {G : G0} {X : Cx} {tes es : List Expr} {is : List Nat} {w : WQs} {k1 k2 : Nat} {pos p1 p2 : Pos} (hpr : ∀ i ∈ is, i ∉ G.pr) (hc : X.calm = true) (hg : DNs X tes is) (ha : DAT G X es w) (hn : (assignEach tes X.env).length = is.length := by rfl) (hst : (assignEach tes X.env).findIdx? (·.1) = none := by rfl)
    (hs : swapsWithSole [.Tuple tes k1 p1] (.Tuple es k2 p2) pos.line X.env = pure false := by rfl) (hw : swappedStores [.Tuple tes k1 p1] (.Tuple es k2 p2) X.env = pure none := by rfl)
    (h1 : (assignEach [.Tuple tes k1 p1] X.env).map (·.2) = [assign (.Tuple tes k1 p1) X.env] := by rfl) :
    DS G X (.Assign [.Tuple tes k1 p1] (.Tuple es k2 p2) pos) (wUnp is w) :=
  .of ⟨_, ps_asg (pe_tup ha.run) (pg_tup hc hg.run hn hst) hs hw h1, fun b σ H F ρ De D I hw m => ⟨b, F, ρ, _, I, hw, fun vs H1 F1 ρ1 fps1 ts fp s1 I1 a nd hf h1 => by
    obtain ⟨hl, h1⟩ := h1
    split at h1
    · rename_i ρ2 e2
      have el := a.length
      have ei := setAll_len e2
      refine ⟨by rw [← el]; exact Nat.le_trans hl (by decide), fun p hp => ⟨p, vs, rfl, .inl (.inl upd_same), by omega, ?_⟩⟩
      obtain ⟨I2, f1, f2, f3⟩ := I1.fresh (o := .tup vs) hp
      have np : p ∉ fp := fun z => by
        obtain ⟨_, o, eo, _⟩ := AtTL.free _ _ _ a p z
        rw [hp] at eo; cases eo
      exact put_all hpr I2 (a.offUpd np) nd hf e2 fun σ' I' => m.nx σ' _ F1 ρ2 s1 I' h1
    · exact h1.elim⟩⟩
end J

set_option Elab.async false
set_option linter.all false
set_option maxRecDepth 100000
set_option maxHeartbeats 4000000
namespace J
open PySem PySem.Spec PyProof.Rows L2

/-! ### defs by their promise on trees -/
/-- a promise: from the arguments' trees and what is wanted of the value and of the arguments behind -/
abbrev WF := List T → (T → List (Option T) → Prop) → Prop
def bs0 (H F : Hp) (fps : List (List Addr)) : Bs := ⟨H, F, fun p => p ∈ fps.flatten, []⟩
def spOf (B : Gb) (n : Nat) (wf : WF) : Sp := fun vs H Q _ => ∃ (F : Hp) (ts : List T) (fps : List (List Addr)) (post : T → List (Option T) → Prop), StF ⟨B, []⟩ (bs0 H F fps) (vs.map some) H F (ts.map some) fps ∧ ts.length = n ∧ wf ts post ∧
  ∀ v H' F' t us fps' fp, Same F F' → StF ⟨B, []⟩ (bs0 H F fps) (vs.map some) H' F' us fps' → AtT B F' H' t v fp → fp.Nodup → (∀ x ∈ fp, H x = none ∧ x ∉ fps'.flatten) → post t us → Q v H'
/-- the names at the entry; the arguments behind: those that were handed on -/
def startB (n : Nat) (ts : List T) : Env := ts.map some ++ List.replicate (n - ts.length) none
def finB (pr : List Nat) : Nat → Nat → Env → Env
  | _, 0, _ => []
  | _, _ + 1, [] => []
  | k, n + 1, x :: r => (match memN k pr with
    | true => x
    | false => none) :: finB pr (k + 1) n r
def finF (pr : List Nat) : Nat → Nat → List (List Addr) → List (List Addr)
  | _, 0, _ => []
  | _, _ + 1, [] => []
  | k, n + 1, x :: r => (match memN k pr with
    | true => x
    | false => []) :: finF pr (k + 1) n r
theorem finB_len {pr : List Nat} : ∀ {k n : Nat} {ρ : Env}, n ≤ ρ.length → (finB pr k n ρ).length = n
  | _, 0, _, _ => by simp [finB]
  | k, n + 1, [], h => by simp at h
  | k, n + 1, x :: r, h => by
    simp only [finB, List.length_cons]
    rw [finB_len (by simpa using h)]
theorem finF_len {pr : List Nat} : ∀ {k n : Nat} {ρ : List (List Addr)}, n ≤ ρ.length → (finF pr k n ρ).length = n
  | _, 0, _, _ => by simp [finF]
  | k, n + 1, [], h => by simp at h
  | k, n + 1, x :: r, h => by
    simp only [finF, List.length_cons]
    rw [finF_len (by simpa using h)]
theorem finF_sub {pr : List Nat} : ∀ (k n : Nat) (l : List (List Addr)), (finF pr k n l).flatten.Sublist l.flatten
  | _, 0, _ => by simp [finF]
  | _, _ + 1, [] => by simp [finF]
  | k, n + 1, x :: r => by
    simp only [finF, List.flatten_cons]
    refine List.Sublist.append ?_ (finF_sub (k + 1) n r)
    split
    · exact List.Sublist.refl _
    · exact List.nil_sublist _
theorem finB_get {pr : List Nat} : ∀ {k n : Nat} {ρ : Env} {i : Nat} {t : T}, (finB pr k n ρ)[i]? = some (some t) → k + i ∈ pr ∧ i < n ∧ ρ[i]? = some (some t)
  | _, 0, _, i, t, h => by simp [finB] at h
  | _, _ + 1, [], i, t, h => by simp [finB] at h
  | k, n + 1, x :: r, 0, t, h => by
    simp only [finB, List.getElem?_cons_zero, Option.some.injEq] at h
    split at h
    · rename_i m
      exact ⟨memN_iff.mp m, by omega, by simpa using h⟩
    · cases h
  | k, n + 1, x :: r, i + 1, t, h => by
    simp only [finB, List.getElem?_cons_succ] at h
    obtain ⟨h1, h2, h3⟩ := finB_get h
    exact ⟨by rw [show k + (i + 1) = k + 1 + i by omega]; exact h1, by omega, by simpa using h3⟩
theorem finF_get {pr : List Nat} : ∀ {k n : Nat} {l : List (List Addr)} {i : Nat} {fp : List Addr}, k + i ∈ pr → i < n → l[i]? = some fp → (finF pr k n l)[i]? = some fp
  | _, 0, _, i, _, _, h, _ => by omega
  | _, _ + 1, [], i, _, _, _, h => by simp at h
  | k, n + 1, x :: r, 0, fp, hm, _, h => by
    simp only [finF, List.getElem?_cons_zero]
    rw [memN_iff.mpr (by simpa using hm)]
    simpa using h
  | k, n + 1, x :: r, i + 1, fp, hm, hn, h => by
    simp only [finF, List.getElem?_cons_succ]
    exact finF_get (by rw [show k + 1 + i = k + (i + 1) by omega]; exact hm) (by omega) (by simpa using h)
section
variable {B : Gb} {pr : List Nat} {σ σ' : L2.St} {H F H' F' : Hp} {ρ : Env} {fps fps' : List (List Addr)}
/-- what the body keeps of its arguments -/
def keepP (pr : List Nat) (vs : List V) : List (Nat × V) := pr.filterMap fun i => (vs[i]?).map fun v => (i, v)
def bsP (pr : List Nat) (vs : List V) (H F : Hp) (fps : List (List Addr)) : Bs := ⟨H, F, fun p => p ∈ fps.flatten, keepP pr vs⟩
theorem keepP_mem {vs : List V} {p : Nat × V} (h : p ∈ keepP pr vs) : p.1 ∈ pr ∧ vs[p.1]? = some p.2 := by
  unfold keepP at h
  rw [List.mem_filterMap] at h
  obtain ⟨i, hi, e⟩ := h
  rw [Option.map_eq_some_iff] at e
  obtain ⟨v, ev, rfl⟩ := e
  exact ⟨hi, ev⟩
theorem mem_keepP {vs : List V} {i : Nat} {v : V} (h : i ∈ pr) (e : vs[i]? = some v) : (i, v) ∈ keepP pr vs := by
  unfold keepP
  rw [List.mem_filterMap]
  exact ⟨i, h, by rw [e]; rfl⟩
theorem start_get {N : List Str} {vs : List V} {i : Nat} (h : i < vs.length) : (L2.start N vs)[i]? = (vs.map some)[i]? := by
  unfold L2.start
  rw [List.getElem?_append_left (by rw [List.length_map]; omega)]
theorem StF.enter {vs : List V} {ts : List T} (I : StF ⟨B, []⟩ (bs0 H F fps) (vs.map some) H F (ts.map some) fps) (N : List Str) : StF ⟨B, pr⟩ (bsP pr vs H F fps) (L2.start N vs) H F (startB N.length ts) (fps ++ List.replicate (N.length - ts.length) []) := by
  have hl : ts.length = vs.length := by
    have := I.len
    rw [List.length_map, List.length_map] at this
    exact this
  have hf : fps.length = ts.length := by
    have := I.lenF
    rw [List.length_map] at this
    exact this
  have fl : (fps ++ List.replicate (N.length - ts.length) ([] : List Addr)).flatten = fps.flatten := by simp
  refine ⟨⟨I.fb.sub, I.fb.ext, I.fb.new, I.fb.keep, I.fb.there⟩, ?_, ?_, fun i t e => ?_, by rw [fl]; exact I.nodup, by rw [fl]; exact I.mine, by rw [fl]; exact I.live, fun p hp => ?_⟩
  · unfold startB L2.start
    simp only [List.length_append, List.length_replicate, List.length_map]
    omega
  · unfold startB
    simp only [List.length_append, List.length_replicate, List.length_map]
    omega
  · unfold startB at e
    by_cases h : i < ts.length
    · rw [List.getElem?_append_left (by rw [List.length_map]; exact h)] at e
      obtain ⟨v, fp, e1, e2, a⟩ := I.slot i t e
      exact ⟨v, fp, by rw [start_get (by omega)]; exact e1, by rw [List.getElem?_append_left (by omega)]; exact e2, a⟩
    · rw [List.getElem?_append_right (by rw [List.length_map]; omega)] at e
      have := List.mem_of_getElem? e
      cases List.eq_of_mem_replicate this
  · obtain ⟨h1, h2⟩ := keepP_mem hp
    refine ⟨h1, ?_⟩
    have hi := (List.getElem?_eq_some_iff.mp h2).1
    rw [start_get hi, List.getElem?_map, h2]
    rfl
theorem StF.leave {vs : List V} {ts : List T} {n : Nat} (I0 : StF ⟨B, []⟩ (bs0 H F fps) (vs.map some) H F (ts.map some) fps) (hn : ts.length = n) (I : StF ⟨B, pr⟩ (bsP pr vs H F fps) σ' H' F' ρ fps') (hl : n ≤ ρ.length) :
    StF ⟨B, []⟩ (bs0 H F fps) (vs.map some) H' F' (finB pr 0 n ρ) (finF pr 0 n fps') := by
  have hv : ts.length = vs.length := by
    have := I0.len
    rw [List.length_map, List.length_map] at this
    exact this
  have sub := finF_sub (pr := pr) 0 n fps'
  refine ⟨⟨I.fb.sub, I.fb.ext, I.fb.new, I.fb.keep, I.fb.there⟩, by rw [finB_len hl, List.length_map]; omega, by rw [finB_len hl, finF_len (by rw [I.lenF]; exact hl)], fun i t e => ?_, I.nodup.sublist sub, fun a m => I.mine a (sub.subset m), fun a m => I.live a (sub.subset m), fun p hp => by cases hp⟩
  obtain ⟨h1, h2, h3⟩ := finB_get e
  rw [Nat.zero_add] at h1
  obtain ⟨v, fp, e1, e2, a⟩ := I.slot i t h3
  obtain ⟨w, ew⟩ : ∃ w, vs[i]? = some w := ⟨vs[i], List.getElem?_eq_getElem (by omega)⟩
  have := (I.pro (i, w) (mem_keepP h1 ew)).2
  rw [this] at e1
  cases e1
  exact ⟨w, fp, by rw [List.getElem?_map, ew]; rfl, finF_get (by rw [Nat.zero_add]; exact h1) h2 e2, a⟩
end
section
variable {P : Program} {w : World} {K : PySem.W.Frag} {mg : Str → Option Value} {base : Heap}
theorem len_start {N : List Str} {ps : List Str} {sc : Scope} (S : FnScope N ps sc) : ps.length ≤ N.length := by
  have := congrArg List.length S.pre
  rw [List.length_take] at this
  omega
/-- THE RULE for a def that raises nothing: its body's reading on trees -/
theorem dfn {ca : Nat → Addr} {cf : Nat → List Str} {pr : List Nat} {x qual : Str} {st : Stmt} {f : Addr} {fd : FuncData} {N ps : List Str} {k n : Nat} {wf : WF} {dvs : List V} (Fd : FunD K x qual (defArgs st) (defBody st) (defScope st) dvs [] f fd) (S : FnScope N ps (defScope st)) (hn : ps.length = n)
    (hbody : ∀ (cdv : Value) (A : Around) (outer : List PySem.Env) (s : Shared) (H : Hp) (E : XK), Room k (A.deeper (envOfC qual (defScope st) s.heap.objs.size f cdv)) →
      ∃ wb, DSs ⟨ca, cf, pr⟩ (cxOf CX0 P w K mg base N qual (defScope st) f cdv A outer s H E).nox (defBody st) wb ∧
        ∀ ts post, ts.length = n → wf ts post → wb ⟨fun ρ => n ≤ ρ.length ∧ post (.v .non) (finB pr 0 n ρ), fun ρ t => n ≤ ρ.length ∧ post t (finB pr 0 n ρ), fun _ => False, fun _ => False⟩ (startB N.length ts)) :
    FnOk P w K mg base CX0 (k + 1) f fd ps (spOf ⟨K, ca, cf⟩ n wf) := by
  refine Fd.ok S (fun vs H Q E h => ?_) (fun cdv A outer s H vs Q E hr h => ?_)
  · obtain ⟨Fz, ts, fps, post, I, hl, _⟩ := h
    have := I.len
    rw [List.length_map, List.length_map] at this
    omega
  · obtain ⟨Fz, ts, fps, post, I, hl, hw, q⟩ := h
    obtain ⟨wb, h1, h2⟩ := hbody cdv A outer s H E hr
    have fin : ∀ {v : V} {σ' : L2.St} {H' F' : Hp} {ρ' : Env} {fps' : List (List Addr)} {t : T} {fp : List Addr}, Same Fz F' → StF ⟨⟨K, ca, cf⟩, pr⟩ (bsP pr vs H Fz fps) σ' H' F' ρ' fps' → AtT ⟨K, ca, cf⟩ F' H' t v fp → fp.Nodup → (∀ x ∈ fp, H x = none ∧ x ∉ fps'.flatten) → n ≤ ρ'.length → post t (finB pr 0 n ρ') → Q v H' :=
      fun {v σ' H' F' ρ' fps' t fp} s' I' a nd hf hl' hp => q v H' F' t _ _ fp s' (I.leave hl I' hl') a nd (fun x m => ⟨(hf x m).1, fun z => (hf x m).2 ((finF_sub 0 n fps').subset z)⟩) hp
    refine ⟨_, h1.run.nox, bsP pr vs H Fz fps, Fz, _, ⟨fun ρ => n ≤ ρ.length ∧ post (.v .non) (finB pr 0 n ρ), fun ρ t => n ≤ ρ.length ∧ post t (finB pr 0 n ρ), fun _ => False, fun _ => False⟩, (I.enter (pr := pr) N).ok, h2 ts post hl hw, fun σ' H' F' ρ' s' I' h => ?_, fun v σ' H' F' ρ' fps' t fp s' I' a nd hf h => ?_, fun _ _ _ _ _ _ h => h.elim, fun _ _ _ _ _ _ h => h.elim⟩
    · obtain ⟨⟨fps', I'⟩⟩ := I'
      exact fin s' I' (.v .non) List.nodup_nil (by simp) h.1 h.2
    · exact fin s' I' a nd hf h.1 h.2
end

/-! ### a call of a def -/
/-- what stands behind a call: the base of the caller -/
theorem Fb.call {b : Bs} {H F H' F' : Hp} {fps fpc : List (List Addr)} (f : Fb b H F) (mine : ∀ a ∈ fps.flatten, b.H0 a = none ∨ b.M a) (sub : ∀ a ∈ fpc.flatten, a ∈ fps.flatten ∨ b.H0 a = none) (g : Fb (bs0 H F fpc) H' F') : Fb b H' F' := by
  have mm : ∀ a ∈ fpc.flatten, b.H0 a = none ∨ b.M a := fun a m => by
    rcases sub a m with z | z
    · exact mine a z
    · exact .inl z
  refine ⟨g.sub, f.ext.trans g.ext, fun a o e => ?_, fun a o e m => ?_, fun a e => f.there a (g.there a e)⟩
  · rcases g.new a o e with q | q | q
    · exact f.new a o q
    · exact .inr (.inl (f.there a q))
    · exact .inr (mm a q)
  · have e1 := f.keep a o e m
    refine g.keep a o e1 fun q => ?_
    rcases mm a q with z | z
    · rw [z] at e; cases e
    · exact m z
/-- what is not handed on stays -/
theorem held_call {H F H' F' : Hp} {fpc : List (List Addr)} (g : Fb (bs0 H F fpc) H' F') {a : Addr} {o : HO} (e : H a = some o) (n : a ∉ fpc.flatten) : H' a = some o ∧ (F a = none → F' a = none) := by
  refine ⟨g.keep a o e n, fun nf => ?_⟩
  cases q : F' a with
  | none => rfl
  | some u =>
    rcases g.new a u q with z | z | z
    · have z' : F a = some u := z
      rw [nf] at z'; cases z'
    · have z' : H a = none := z
      rw [e] at z'; cases z'
    · exact (n z).elim
mutual
/-- what holds no list, but in the fields of frozen objects -/
def noLo : D → Bool
  | .tup l => noLos l
  | .obj _ l => noLos l
  | .lst _ => false
  | .dic _ _ => false
  | .scr _ => false
  | _ => true
def noLos : List D → Bool
  | [] => true
  | d :: r => noLo d && noLos r
end
mutual
def noLt : T → Bool
  | .v d => noLo d
  | .lst l => noLts l
  | .dic _ l => noLts l
  | .ins _ l => noLts l
def noLts : List T → Bool
  | [] => true
  | t :: r => noLt t && noLts r
end
/-- the frozen things but those at S -/
def unf (S : List Addr) (F : Hp) : Hp := fun a => if a ∈ S then none else F a
section
variable {B : Gb} {F F' H : Hp} {S : List Addr}
theorem unf_out {a : Addr} (h : a ∉ S) : unf S F a = F a := by unfold unf; rw [if_neg h]
theorem unf_in {a : Addr} (h : a ∈ S) : unf S F a = none := by unfold unf; rw [if_pos h]
theorem unf_none {a : Addr} (h : F a = none) : unf S F a = none := by
  unfold unf
  split
  · rfl
  · exact h
theorem unf_sub : Same (unf S F) F := fun a o e => by
  by_cases h : a ∈ S
  · rw [unf_in h] at e; cases e
  · rw [unf_out h] at e; exact e
mutual
theorem At.unf (hS : ∀ a ∈ S, ∃ vs, F a = some (.lst vs)) : ∀ (d : D) (v : V), noLo d = true → At B F d v → At B (J.unf S F) d v
  | .non, _, _, h => by cases h; exact .non
  | .bl b, _, _, h => by cases h; exact .bl b
  | .int i, _, _, h => by cases h; exact .int i
  | .str x, _, _, h => by cases h; exact .str x
  | .tup ds, _, n, h => by
    cases h with
    | @tup a vs _ hs ha =>
      refine .tup ?_ (AtL.unf hS ds _ (by simpa [noLo] using n) ha)
      rcases hs with (h | ⟨o, h⟩) | h
      · refine .inl (.inl ?_)
        rw [unf_out (fun m => by obtain ⟨ws, e⟩ := hS a m; rw [h] at e; cases e)]
        exact h
      · refine .inl (.inr ⟨o, ?_⟩)
        rw [unf_out (fun m => by obtain ⟨ws, e⟩ := hS a m; rw [h] at e; cases e)]
        exact h
      · exact .inr h
  | .lst ds, _, n, _ => by simp [noLo] at n
  | .dic ks ds, _, n, _ => by simp [noLo] at n
  | .obj c ds, _, n, h => by
    cases h with
    | @obj a dx C _ fs _ hs hc hn ha =>
      refine .obj (dx := dx) ?_ hc hn (AtL.unf hS ds _ (by simpa [noLo] using n) ha)
      rw [unf_out (fun m => by obtain ⟨ws, e⟩ := hS a m; rw [hs] at e; cases e)]
      exact hs
  | .scr ns, _, n, _ => by simp [noLo] at n
theorem AtL.unf (hS : ∀ a ∈ S, ∃ vs, F a = some (.lst vs)) : ∀ (ds : List D) (vs : List V), noLos ds = true → AtL B F ds vs → AtL B (J.unf S F) ds vs
  | [], _, _, h => by cases h; exact .nil
  | d :: ds, _, n, h => by
    have n' : noLo d = true ∧ noLos ds = true := by simpa [noLos] using n
    cases h with
    | cons h1 h2 => exact .cons (At.unf hS d _ n'.1 h1) (AtL.unf hS ds _ n'.2 h2)
end
mutual
theorem AtT.unf (hS : ∀ a ∈ S, ∃ vs, F a = some (.lst vs)) : ∀ (t : T) (v : V) (fp : List Addr), noLt t = true → AtT B F H t v fp → AtT B (J.unf S F) H t v fp
  | .v d, _, _, n, h => by
    cases h with
    | v a => exact .v (At.unf hS d _ (by simpa [noLt] using n) a)
  | .lst ts, _, _, n, h => by
    cases h with
    | lst h1 h2 h3 => exact .lst h1 (unf_none h2) (AtTL.unf hS ts _ _ (by simpa [noLt] using n) h3)
  | .dic ks ts, _, _, n, h => by
    cases h with
    | dic h1 hd h2 h3 => exact .dic h1 hd (unf_none h2) (AtTL.unf hS ts _ _ (by simpa [noLt] using n) h3)
  | .ins c ts, _, _, n, h => by
    cases h with
    | ins h1 hc hn h2 h3 => exact .ins h1 hc hn (unf_none h2) (AtTL.unf hS ts _ _ (by simpa [noLt] using n) h3)
theorem AtTL.unf (hS : ∀ a ∈ S, ∃ vs, F a = some (.lst vs)) : ∀ (ts : List T) (vs : List V) (fp : List Addr), noLts ts = true → AtTL B F H ts vs fp → AtTL B (J.unf S F) H ts vs fp
  | [], _, _, _, h => by cases h; exact .nil
  | t :: ts, _, _, n, h => by
    have n' : noLt t = true ∧ noLts ts = true := by simpa [noLts] using n
    cases h with
    | cons h1 h2 => exact .cons (AtT.unf hS t _ _ n'.1 h1) (AtTL.unf hS ts _ _ n'.2 h2)
end
end

mutual
def onlyL : T → Bool
  | .v _ => true
  | .lst l => onlyLs l
  | _ => false
def onlyLs : List T → Bool
  | [] => true
  | t :: r => onlyL t && onlyLs r
end
mutual
theorem AtT.lists {B : Gb} {F H : Hp} : ∀ (t : T) (v : V) (fp : List Addr), onlyL t = true → AtT B F H t v fp → ∀ a ∈ fp, ∃ vs, H a = some (.lst vs)
  | .v d, _, _, _, h, a, m => by cases h; simp at m
  | .lst ts, _, _, n, h, a, m => by
    cases h with
    | lst h1 h2 h3 =>
      rcases List.mem_cons.mp m with rfl | m
      · exact ⟨_, h1⟩
      · exact AtTL.lists ts _ _ (by simpa [onlyL] using n) h3 a m
  | .dic ks ts, _, _, n, _, _, _ => by simp [onlyL] at n
  | .ins c ts, _, _, n, _, _, _ => by simp [onlyL] at n
theorem AtTL.lists {B : Gb} {F H : Hp} : ∀ (ts : List T) (vs : List V) (fp : List Addr), onlyLs ts = true → AtTL B F H ts vs fp → ∀ a ∈ fp, ∃ vs, H a = some (.lst vs)
  | [], _, _, _, h, a, m => by cases h; simp at m
  | t :: ts, _, _, n, h, a, m => by
    have n' : onlyL t = true ∧ onlyLs ts = true := by simpa [onlyLs] using n
    cases h with
    | cons h1 h2 =>
      rcases List.mem_append.mp m with m | m
      · exact AtT.lists t _ _ n'.1 h1 a m
      · exact AtTL.lists ts _ _ n'.2 h2 a m
end

/-! ### arguments, some of which are only lent -/
def canAv (G : Gx) (vw : Bool) (w : WN) : TA := fun σ H Q => ∃ (b : Bs) (F : Hp) (ρ : Env) (post : Env → List D → Prop), StOk G b σ H F ρ ∧ w ρ post ∧
  ∀ vs H' F' ρ' fps' l S, Same F F' → StF G b σ H' F' ρ' fps' → (∀ a ∈ S, a ∈ fps'.flatten ∧ ∃ ws, H' a = some (.lst ws)) → (vw = false → S = []) → AtL G (frz S F' H') l vs → post ρ' l → Q vs H'
structure DAv (G : G0) (X : Cx) (vw : Bool) (es : List Expr) (w : WN) : Prop where
  run : PA X es (canAv (gx X G) vw w)
def wVw (i : Nat) (wr : WN) : WN := fun ρ post => match nth ρ i with
  | some _ => wr ρ fun ρ2 l => (match nth ρ2 i with
    | some t => onlyL t = true ∧ post ρ2 (toD t :: l)
    | none => False)
  | none => False
section
variable {G : G0} {X : Cx} {e : Expr} {es : List Expr} {we : WE} {wr : WN} {x : Str} {pos : Pos} {vw : Bool}
theorem frz_nil {F H : Hp} : frz [] F H = F := by funext a; exact frz_out (by simp)
theorem dav_nil : DAv G X vw [] wNil := ⟨⟨fun pos pins s σ H Q Iv ⟨b, F, ρ, post, I, hw, q⟩ => pa_nil.run pos pins s σ H Q Iv (by
  obtain ⟨⟨fps, I⟩⟩ := I
  exact q [] H F ρ fps [] [] (Same.refl _) I (by simp) (fun _ => rfl) .nil hw)⟩⟩
theorem dav_cons (he : DE G X e we) (hr : DAv G X vw es wr) (hs : starEach (e :: es) X.env = (false, eval e X.env) :: starEach es X.env := by rfl) : DAv G X vw (e :: es) (wCons we wr) :=
  ⟨⟨fun pos pins s σ H Q Iv ⟨b, F, ρ, post, I, hw, q⟩ => (pa_cons he.run hr.run hs).run pos pins s σ H Q Iv ⟨b, F, ρ, _, I, hw, fun v H1 F1 ρ1 d s1 I1 a1 h1 =>
    ⟨b, F1, ρ1, _, I1, h1, fun vs H2 F2 ρ2 fps2 l S s2 I2 hS hv a2 h2 => q (v :: vs) H2 F2 ρ2 fps2 (d :: l) S (s1.trans s2) I2 hS hv (.cons ((a1.up s2).up (frz_same I2.fb.sub)) a2) h2⟩⟩⟩⟩
theorem dav_vw (i : Nat) (hr : DAv G X true es wr) (hN : X.N[i]? = some x := by rfl) (hv : Vis X.env.scope x := by first | exact Or.inl rfl | exact Or.inr (Or.inl rfl) | exact Or.inr (Or.inr rfl)) (hd : (x == ("__debug__" : Str)) = false := by decide)
    (hcd : (x == ("__classdict__" : Str)) = false := by decide) (hs : starEach (.Name x pos :: es) X.env = (false, eval (.Name x pos) X.env) :: starEach es X.env := by rfl) : DAv G X true (.Name x pos :: es) (wVw i wr) :=
  ⟨⟨fun pos pins s σ H Q Iv ⟨b, F, ρ, post, I, hw, q⟩ => (pa_cons (pe_var hN hv hd hcd) hr.run hs).run pos pins s σ H Q Iv (by
    unfold wVw at hw
    split at hw
    · rename_i t0 e0
      obtain ⟨⟨fps, I⟩⟩ := I
      obtain ⟨v, ev, _⟩ := I.at_ (nth_some e0)
      refine ⟨v, ev, b, F, ρ, _, I.ok, hw, fun vs H2 F2 ρ2 fps2 l S s2 I2 hS hv a2 h2 => ?_⟩
      split at h2
      · rename_i t e2
        obtain ⟨v', ev', a⟩ := I2.at_ (nth_some e2)
        rw [ev] at ev'
        cases ev'
        have hl := AtT.lists _ _ _ h2.1 a
        refine q (v :: vs) H2 F2 ρ2 fps2 _ (fpAt fps2 i ++ S) s2 I2 (fun y m => ?_) (fun z => by cases z) (.cons (a.freeze (frz_same I2.fb.sub) _ _ _ fun y m o eo => by rw [frz_in (by simp [m])]; exact eo) (a2.up fun y o e => ?_)) h2.2
        · rcases List.mem_append.mp m with m | m
          · exact ⟨fpAt_sub y m, hl y m⟩
          · exact hS y m
        · by_cases m : y ∈ S
          · rw [frz_in m] at e; rw [frz_in (by simp [m])]; exact e
          · rw [frz_out m] at e
            by_cases m' : y ∈ fpAt fps2 i
            · have := (I2.live y (fpAt_sub y m')).1
              rw [this] at e; cases e
            · rw [frz_out (by simp [m, m'])]; exact e
      · exact h2.elim
    · exact hw.elim)⟩⟩
end

/-! ### behind a call -/
section
variable {G : Gx} {b : Bs} {σ : L2.St} {H1 F1 Hc H' F' : Hp} {ρ1 : Env} {fps1 fpc : List (List Addr)} {S : List Addr}
/-- what the caller has behind a call that changed nothing of its own -/
theorem StF.behind (I : StF G b σ H1 F1 ρ1 fps1) (sc : Same H1 Hc) (hS : ∀ a ∈ S, a ∈ fps1.flatten ∧ ∃ ws, H1 a = some (.lst ws)) (hc : ∀ a ∈ fpc.flatten, H1 a = none) (g : Fb (bs0 Hc (frz S F1 H1) fpc) H' F') :
    StF G b σ H' (unf S F') ρ1 fps1 ∧ Same F1 (unf S F') := by
  have nS : ∀ a o, F1 a = some o → a ∉ S := fun a o e m => by
    have := (I.live a (hS a m).1).1
    rw [this] at e; cases e
  have up : Same F1 (unf S F') := fun a o e => by
    have n := nS a o e
    rw [unf_out n]
    exact g.ext a o (show frz S F1 H1 a = some o by rw [frz_out n]; exact e)
  have keep : ∀ a o, H1 a = some o → H' a = some o := fun a o e => g.keep a o (sc a o e) fun m => by
    have := hc a m
    rw [this] at e; cases e
  have fr : ∀ a, F1 a = none → (∃ o, H1 a = some o) → unf S F' a = none := fun a n ⟨o, e⟩ => by
    by_cases m : a ∈ S
    · exact unf_in m
    · rw [unf_out m]
      cases q : F' a with
      | none => rfl
      | some u =>
        rcases g.new a u q with z | z | z
        · have z' : frz S F1 H1 a = some u := z
          rw [frz_out m, n] at z'; cases z'
        · have z' : Hc a = none := z
          rw [sc a o e] at z'; cases z'
        · have := hc a z
          rw [this] at e; cases e
  refine ⟨⟨⟨unf_sub.trans g.sub, I.fb.ext.trans up, fun a o e => ?_, fun a o e m => keep a o (I.fb.keep a o e m), fun a e => I.fb.there a ?_⟩, I.len, I.lenF, fun i t e => ?_, I.nodup, I.mine, fun a m => ?_, I.pro⟩, up⟩
  · have e' := unf_sub a o e
    have n : a ∉ S := fun m => by rw [unf_in m] at e; cases e
    rcases g.new a o e' with z | z | z
    · have z' : frz S F1 H1 a = some o := z
      rw [frz_out n] at z'
      exact I.fb.new a o z'
    · have z' : Hc a = none := z
      refine .inr (.inl (I.fb.there a ?_))
      cases q : H1 a with
      | none => rfl
      | some u => rw [sc a u q] at z'; cases z'
    · exact .inr (.inl (I.fb.there a (hc a z)))
  · cases q : H1 a with
    | none => rfl
    | some u => rw [keep a u q] at e; cases e
  · obtain ⟨v, fp, e1, e2, a⟩ := I.slot i t e
    refine ⟨v, fp, e1, e2, AtT.frame up _ _ _ a (fun x m o eo => keep x o eo) fun x m => ?_⟩
    obtain ⟨n, o, eo, _⟩ := a.free _ _ _ x m
    exact fr x n ⟨o, eo⟩
  · obtain ⟨n, o, eo, mu⟩ := I.live a m
    exact ⟨fr a n ⟨o, eo⟩, o, keep a o eo, mu⟩
end
theorem unf_nil {F : Hp} : unf [] F = F := by funext a; exact unf_out (by simp)
/-- frozen arguments as a callee has them -/
theorem vals_st {B : Gb} {H F : Hp} {ds : List D} {vs : List V} (s : Same F H) (a : AtL B F ds vs) : StF ⟨B, []⟩ (bs0 H F (List.replicate ds.length [])) (vs.map some) H F ((ds.map .v).map some) (List.replicate ds.length []) := by
  have fl : (List.replicate ds.length ([] : List Addr)).flatten = [] := by simp
  refine ⟨⟨s, Same.refl _, fun a o e => .inl e, fun a o e _ => e, fun a e => e⟩, by simp [a.length], by simp, fun i t e => ?_, by rw [fl]; exact List.nodup_nil, by rw [fl]; simp, by rw [fl]; simp, fun p hp => by cases hp⟩
  rw [List.map_map, List.getElem?_map] at e
  cases q : ds[i]? with
  | none => rw [q] at e; simp at e
  | some d =>
    rw [q] at e
    simp at e
    subst e
    obtain ⟨v, ev, av⟩ := a.get q
    have hi := (List.getElem?_eq_some_iff.mp q).1
    exact ⟨v, [], by rw [List.getElem?_map, ev]; rfl, by rw [List.getElem?_replicate, if_pos hi], .v av⟩
def wCall (vw : Bool) (n : Nat) (wf : WF) (dds : List D) (wa : WN) : WQ := fun ρ post => wa ρ fun ρ1 ds => ds.length + dds.length = n ∧ wf ((ds ++ dds).map .v) fun t _ => (vw = true → noLt t = true) ∧ post ρ1 t
theorem snd_call {G : Gx} {vw : Bool} {n : Nat} {wf : WF} {dds : List D} {dvs : List V} {wa : WN} {E : XK} (hd : ∀ F, AtL G F dds dvs) : SndQ G (tCall (spOf G n wf) dvs E (canAv G vw wa)) (wCall vw n wf dds wa) := fun b σ H F ρ post I hw Q q =>
  ⟨b, F, ρ, _, I, hw, fun vs H1 F1 ρ1 fps1 ds S s1 I1 hS hv a1 h1 => by
    have fz := frz_sub (S := S) I1.fb.sub
    refine ⟨frz S F1 H1, (ds ++ dds).map .v, List.replicate (ds ++ dds).length [], fun t _ => (vw = true → noLt t = true) ∧ post ρ1 t, vals_st fz (a1.append (hd _)), by simp; omega, h1.2, fun v H' F' t us fps' fp s' I' a nd hf hp => ?_⟩
    obtain ⟨I2, up⟩ := I1.behind (Same.refl _) hS (by simp) I'.fb
    have hL : ∀ a ∈ S, ∃ ws, F' a = some (.lst ws) := fun x m => by
      obtain ⟨ws, e⟩ := (hS x m).2
      exact ⟨ws, s' x _ (by rw [frz_in m]; exact e)⟩
    have a' : AtT G (unf S F') H' t v fp := by
      cases vw with
      | true => exact AtT.unf hL _ _ _ (hp.1 rfl) a
      | false => rw [hv rfl, unf_nil]; exact a
    exact q v H' _ ρ1 fps1 t fp (s1.trans up) I2 a' nd (fun x m => ⟨I1.fb.there x (hf x m).1, fun z => by
      obtain ⟨_, o, eo, _⟩ := I1.live x z
      rw [(hf x m).1] at eo; cases eo⟩) hp.2⟩
section
variable {G : G0} {X : Cx} {CX : CXT} {k n : Nat} {f C : Addr} {fd : FuncData} {ps : List Str} {wf : WF} {dds : List D} {dvs : List V} {ds : List Value} {E : XK} {x : Str} {p pos : Pos} {e : Expr} {es : List Expr} {wa : WN} {vw : Bool}
theorem dq_call (F : FnOk X.prog X.w X.K X.mg X.base CX k f fd ps (spOf ⟨X.K, G.ca, G.cf⟩ n wf)) (hr : Room k X.A) (hg : Gl X x) (hm : X.mg x = some (.ref f)) (hk : PySem.W.keepIn X.K (.ref f) = true) (hb : Binds X.K fd ps ds) (hd : Vals dvs ds) (hdd : ∀ F, AtL (gx X G) F dds dvs) (hx : Passes CX X E)
    (ha : DAv G X vw (e :: es) wa) (hdb : (x == ("__debug__" : Str)) = false := by decide) (he : starEach (e :: es) X.env = (false, eval e X.env) :: starEach es X.env := by rfl) (hpl : (backTo pos (starEach es X.env)).any (·.1) = false := by rfl) :
    DQ G X (.Call (.Name x p) (e :: es) [] pos) (wCall vw n wf dds wa) := .of ⟨_, pe_call F hr hg hm hk hb hd hx ha.run hdb he hpl, snd_call hdd⟩
end

/-! ### a call that hands on a tree of the caller's -/
/-- the first argument's own tree -/
theorem vals_st1 {B : Gb} {H F : Hp} {t : T} {v : V} {fp : List Addr} {ds : List D} {vs : List V} (s : Same F H) (a0 : AtT B F H t v fp) (nd : fp.Nodup) (a : AtL B F ds vs) : StF ⟨B, []⟩ (bs0 H F (fp :: List.replicate ds.length [])) ((v :: vs).map some) H F ((t :: ds.map .v).map some) (fp :: List.replicate ds.length []) := by
  have fl : (fp :: List.replicate ds.length ([] : List Addr)).flatten = fp := by simp
  have st := vals_st s a
  refine ⟨⟨s, Same.refl _, fun a o e => .inl e, fun a o e _ => e, fun a e => e⟩, by simp [a.length], by simp, fun i t' e => ?_, by rw [fl]; exact nd, fun a m => .inr m, by rw [fl]; exact fun x m => a0.free _ _ _ x m, fun p hp => by cases hp⟩
  cases i with
  | zero =>
    simp at e
    subst e
    exact ⟨v, fp, rfl, rfl, a0⟩
  | succ i => exact st.slot i t' (by simpa using e)
def wCallM (i n : Nat) (wf : WF) (dds : List D) (wa : WN) : WQ := fun ρ post => match nth ρ i with
  | some _ => wa ρ fun ρ1 ds => (match nth ρ1 i with
    | some t => ds.length + dds.length + 1 = n ∧ wf (t :: (ds ++ dds).map .v) fun r us => (match us with
      | some t' :: _ => post (ρ1.set i (some t')) r
      | _ => False)
    | none => False)
  | none => False
/-- .. behind it -/
theorem StF.behindM {G : Gx} {b : Bs} {σ : L2.St} {H1 F1 H' F' : Hp} {ρ1 : Env} {fps1 : List (List Addr)} {i m : Nat} {t' : T} {v : V} {us : List (Option T)} {vs : List V} {fps' : List (List Addr)} (I : StF G b σ H1 F1 ρ1 fps1) (ev : σ[i]? = some (some v))
    (s : Same F1 F') (I' : StF ⟨G, []⟩ (bs0 H1 F1 (fpAt fps1 i :: List.replicate m [])) ((v :: vs).map some) H' F' (some t' :: us) fps') : StF G b σ H' F' (ρ1.set i (some t')) (fps1.set i (fpAt fps' 0)) ∧ ∀ x, H1 x = none → x ∉ fps'.flatten → x ∉ (fps1.set i (fpAt fps' 0)).flatten := by
  have fl : (fpAt fps1 i :: List.replicate m ([] : List Addr)).flatten = fpAt fps1 i := by simp
  have g := I'.fb
  obtain ⟨w, ew, at'⟩ := I'.at_ (i := 0) (t := t') rfl
  simp at ew
  subst ew
  have fb : Fb b H' F' := I.fb.call I.mine (fun a hm => .inl (fpAt_sub (i := i) a (by rw [fl] at hm; exact hm))) g
  refine ⟨I.change' ev fb s (fun x hm n => ?_) at' (fpAt_nodup I'.nodup) fun x hm => ?_, fun x h0 hx z => ?_⟩
  · obtain ⟨nf, o, eo, _⟩ := I.live x hm
    obtain ⟨_, k2⟩ := held_call g eo (by rw [fl]; exact n)
    exact ⟨fun o' eo' => (held_call g eo' (by rw [fl]; exact n)).1, k2 nf⟩
  · rcases I'.mine x (fpAt_sub x hm) with z | z
    · have z' : H1 x = none := z
      refine ⟨.inr fun q => ?_, .inl (I.fb.there x z')⟩
      obtain ⟨_, o, eo, _⟩ := I.live x q
      rw [z'] at eo; cases eo
    · have z' : x ∈ fpAt fps1 i := by
        have : x ∈ (fpAt fps1 i :: List.replicate m ([] : List Addr)).flatten := z
        rw [fl] at this
        exact this
      exact ⟨.inl z', I.mine x (fpAt_sub x z')⟩
  · rcases set_flat_mem z with z | z
    · exact hx (fpAt_sub x z)
    · obtain ⟨_, o, eo, _⟩ := I.live x z
      rw [h0] at eo; cases eo
theorem snd_callM {G : Gx} {i n : Nat} {wf : WF} {dds : List D} {dvs : List V} {wa : WN} {E : XK} (hd : ∀ F, AtL G F dds dvs) : SndQ G (tCall (spOf G n wf) dvs E (tCons (tVar i) (canA G wa))) (wCallM i n wf dds wa) := fun b σ H F ρ post I hw Q q => by
  unfold wCallM at hw
  split at hw
  · rename_i t0 e0
    obtain ⟨⟨fps, I⟩⟩ := I
    obtain ⟨v, ev, _⟩ := I.at_ (nth_some e0)
    refine ⟨v, ev, b, F, ρ, _, I.ok, hw, fun vs H1 F1 ρ1 ds s1 I1 a1 h1 => ?_⟩
    split at h1
    · rename_i t e1
      obtain ⟨⟨fps1, I1⟩⟩ := I1
      obtain ⟨w, ew, at1⟩ := I1.at_ (nth_some e1)
      rw [ev] at ew
      cases ew
      refine ⟨F1, t :: (ds ++ dds).map .v, _, _, vals_st1 I1.fb.sub at1 (fpAt_nodup I1.nodup) (a1.append (hd _)), by simp; omega, h1.2, fun u H' F' r us fps' fp s' I' a nd hf hp => ?_⟩
      split at hp
      · rename_i t' us'
        obtain ⟨I2, hn⟩ := I1.behindM ev s' I'
        exact q u H' F' _ _ r fp (s1.trans s') I2 a nd (fun x m => ⟨I1.fb.there x (hf x m).1, hn x (hf x m).1 (hf x m).2⟩) hp
      · exact hp.elim
    · exact h1.elim
  · exact hw.elim
section
variable {G : G0} {X : Cx} {CX : CXT} {k n : Nat} {f C : Addr} {fd : FuncData} {ps : List Str} {wf : WF} {dds : List D} {dvs : List V} {ds : List Value} {E : XK} {x y : Str} {p p2 pos : Pos} {es : List Expr} {wa : WN}
theorem dq_callM (i : Nat) (F : FnOk X.prog X.w X.K X.mg X.base CX k f fd ps (spOf ⟨X.K, G.ca, G.cf⟩ n wf)) (hr : Room k X.A) (hg : Gl X x) (hm : X.mg x = some (.ref f)) (hk : PySem.W.keepIn X.K (.ref f) = true) (hb : Binds X.K fd ps ds) (hd : Vals dvs ds) (hdd : ∀ F, AtL (gx X G) F dds dvs) (hx : Passes CX X E)
    (ha : DA G X es wa) (hN : X.N[i]? = some y := by rfl) (hv : Vis X.env.scope y := by first | exact Or.inl rfl | exact Or.inr (Or.inl rfl) | exact Or.inr (Or.inr rfl)) (hyd : (y == ("__debug__" : Str)) = false := by decide) (hyc : (y == ("__classdict__" : Str)) = false := by decide)
    (hdb : (x == ("__debug__" : Str)) = false := by decide) (he : starEach (.Name y p2 :: es) X.env = (false, eval (.Name y p2) X.env) :: starEach es X.env := by rfl) (hpl : (backTo pos (starEach es X.env)).any (·.1) = false := by rfl) :
    DQ G X (.Call (.Name x p) (.Name y p2 :: es) [] pos) (wCallM i n wf dds wa) := .of ⟨_, pe_call F hr hg hm hk hb hd hx (pa_cons (pe_var hN hv hyd hyc) ha.run he) hdb he hpl, snd_callM hdd⟩
end

/-! ### C(e, ..) -/
def wMake (vw : Bool) (c n : Nat) (wf : WF) (dds : List D) (wa : WN) : WQ := fun ρ post => wa ρ fun ρ1 ds => ds.length + dds.length + 1 = n ∧ wf (.ins c [] :: (ds ++ dds).map .v) fun r us => match r, us with
  | .v .non, some t' :: _ => (vw = true → noLt t' = true) ∧ post ρ1 t'
  | _, _ => False
theorem snd_make {G : Gx} {vw : Bool} {c n : Nat} {wf : WF} {dds : List D} {dvs : List V} {wa : WN} {E : XK} (hd : ∀ F, AtL G F dds dvs) : SndQ G (tMake (G.ca c) (spOf G n wf) dvs E (canAv G vw wa)) (wMake vw c n wf dds wa) := fun b σ H F ρ post I hw Q q =>
  ⟨b, F, ρ, _, I, hw, fun vs H1 F1 ρ1 fps1 ds S s1 I1 hS hv a1 h1 x dx nx ndx nex => by
    have g0 : Same H1 (upd (upd H1 dx (.own x)) x (.ins (G.ca c) dx [])) := (same_new ndx).trans (same_new (by rw [upd_ne (fun z => nex z.symm)]; exact nx))
    have fz := frz_sub (S := S) I1.fb.sub
    have nxS : x ∉ S := fun m => by
      obtain ⟨ws, e⟩ := (hS x m).2
      rw [nx] at e; cases e
    have fx : frz S F1 H1 x = none := by rw [frz_out nxS]; exact I1.fb.sub.free nx
    refine ⟨frz S F1 H1, _, [x] :: List.replicate (ds ++ dds).length [], _, vals_st1 (fz.trans g0) (.ins upd_same rfl (by simp) fx .nil) (by simp) (a1.append (hd _)), by simp; omega, h1.2, fun v H' F' r us fps' fp s' I' a nd hf hp => ?_⟩
    split at hp
    · rename_i t' us'
      cases a with
      | v a =>
        cases a
        refine ⟨rfl, ?_⟩
        have hc : ∀ a ∈ ([x] :: List.replicate (ds ++ dds).length ([] : List Addr)).flatten, H1 a = none := fun a m => by
          simp at m
          subst m
          exact nx
        obtain ⟨I2, up⟩ := I1.behind g0 hS hc I'.fb
        obtain ⟨w, ew, at'⟩ := I'.at_ (i := 0) (t := t') rfl
        simp at ew
        subst ew
        have hL : ∀ a ∈ S, ∃ ws, F' a = some (.lst ws) := fun y m => by
          obtain ⟨ws, e⟩ := (hS y m).2
          exact ⟨ws, s' y _ (by rw [frz_in m]; exact e)⟩
        have a' : AtT G (unf S F') H' t' (.ref x) (fpAt fps' 0) := by
          cases vw with
          | true => exact AtT.unf hL _ _ _ (hp.1 rfl) at'
          | false => rw [hv rfl, unf_nil]; exact at'
        have new : ∀ y ∈ fpAt fps' 0, H1 y = none := fun y m => by
          rcases I'.mine y (fpAt_sub y m) with z | z
          · have z' : upd (upd H1 dx (.own x)) x (.ins (G.ca c) dx []) y = none := z
            cases e : H1 y with
            | none => rfl
            | some o => rw [g0 y o e] at z'; cases z'
          · exact hc y z
        exact q (.ref x) H' _ ρ1 fps1 t' _ (s1.trans up) I2 a' (fpAt_nodup I'.nodup) (fun y m => ⟨I1.fb.there y (new y m), fun z => by
          obtain ⟨_, o, eo, _⟩ := I1.live y z
          rw [new y m] at eo; cases eo⟩) hp.2
    · exact hp.elim⟩
section
variable {G : G0} {X : Cx} {CX : CXT} {k n c : Nat} {f : Addr} {fd : FuncData} {ps : List Str} {wf : WF} {dds : List D} {dvs : List V} {ds : List Value} {E : XK} {x : Str} {p pos : Pos} {e : Expr} {es : List Expr} {wa : WN} {vw : Bool}
theorem dq_make (M : Mk X.K (G.ca c) f) (F : FnOk X.prog X.w X.K X.mg X.base CX k f fd ps (spOf ⟨X.K, G.ca, G.cf⟩ n wf)) (hr : Room (k + 1) X.A) (hg : Gl X x) (hm : X.mg x = some (.ref (G.ca c))) (hb : Binds X.K fd ps ds) (hd : Vals dvs ds) (hdd : ∀ F, AtL (gx X G) F dds dvs) (hx : Passes CX X E)
    (ha : DAv G X vw (e :: es) wa) (hdb : (x == ("__debug__" : Str)) = false := by decide) (he : starEach (e :: es) X.env = (false, eval e X.env) :: starEach es X.env := by rfl) (hpl : (backTo pos (starEach es X.env)).any (·.1) = false := by rfl) :
    DQ G X (.Call (.Name x p) (e :: es) [] pos) (wMake vw c n wf dds wa) := .of ⟨_, pe_make M F hr hg hm hb hd hx ha.run hdb he hpl, snd_make (G := gx X G) hdd⟩
end
end J

set_option Elab.async false
set_option linter.all false
set_option maxRecDepth 100000
set_option maxHeartbeats 4000000
namespace J
open PySem PySem.Spec PyProof.Rows L2

/-! ### isinstance -/
inductive Ty8 where
  | non | bl | int | str | tup | lst
  deriving DecidableEq
inductive Kt where
  | b (t : Ty8)
  | c (c : Nat)
  deriving DecidableEq
def Ty8.nm : Ty8 → String
  | .non => "NoneType"
  | .bl => "bool"
  | .int => "int"
  | .str => "str"
  | .tup => "tuple"
  | .lst => "list"
def ktV (ca : Nat → Addr) : Kt → Value
  | .b t => .type t.nm
  | .c c => .ref (ca c)
def tyK : D → Option Kt
  | .non => some (.b .non)
  | .bl _ => some (.b .bl)
  | .int _ => some (.b .int)
  | .str _ => some (.b .str)
  | .tup _ => some (.b .tup)
  | .lst _ => some (.b .lst)
  | .obj c _ => some (.c c)
  | _ => none
def ty8B (a b : Ty8) : Bool := decide (a = b) || (decide (a = .bl) && decide (b = .int))
theorem kit8 {K : PySem.W.Frag} (a b : Ty8) (hb : b ≠ .non) : PySem.W.kitOne K (.type a.nm) (.type b.nm) = some (ty8B a b) := by
  cases a <;> cases b <;> first | exact absurd rfl hb | exact kit_ty (by decide +kernel)
/-- what isinstance asks of a class of the text -/
structure InsC (K : PySem.W.Frag) (C : Addr) : Prop where
  cl : Cls K C
  ha : PySem.W.findIn K (.ref C) "__class__" = some (some (.builtin "object.__class__"))
  hn : PySem.W.specialIn K (.builtin "object.__class__") "__get__" = some (some (.builtin "getset_descriptor.__get__"))
  htk : PySem.W.takesIn K (.builtin "object.__class__") = some true
  hm : PySem.W.mroIn K C (.type "object") = some true
theorem tyx_at {G : Gb} {F H : Hp} {d : D} {v : V} {t : Kt} (s : Same F H) (a : At G F d v) (ht : tyK d = some t) (ho : ∀ c, t = .c c → InsC G.K (G.ca c)) : TyX G.K H v (ktV G.ca t) := by
  cases a with
  | non => cases ht; exact .base .non
  | bl b => cases ht; exact .base (.bl b)
  | int i => cases ht; exact .base (.int i)
  | str x => cases ht; exact .base (.str x)
  | tup hs _ =>
    cases ht
    rcases same_t s hs with (h | ⟨o, h⟩) | ⟨o, its, n, h, hc, _⟩
    · exact .base (.tup h)
    · exact .fTuple h
    · exact .kTuple h hc
  | lst hs _ => cases ht; exact .base (.lst (s _ _ hs))
  | dic _ _ _ => cases ht
  | scr _ => cases ht
  | obj hs hC _ _ =>
    cases ht
    subst hC
    have q := ho _ rfl
    exact .base (.ins (s _ _ hs) q.cl q.ha q.hn q.htk q.hm)
/-- isinstance(e, t): the answer by a table -/
def wIsi (kt : Kt → Kt → Option Bool) (t : Kt) (w : WE) : WE := fun ρ post => w ρ fun ρ1 d => match tyK d with
  | some a => (match kt a t with
    | some k => post ρ1 (.bl k)
    | none => False)
  | none => False
def wIsi2 (kt : Kt → Kt → Option Bool) (t t2 : Kt) (w : WE) : WE := fun ρ post => w ρ fun ρ1 d => match tyK d with
  | some a => (match kt a t, kt a t2 with
    | some k, some k2 => post ρ1 (.bl (k || k2))
    | _, _ => False)
  | none => False
theorem kit2 {K : PySem.W.Frag} {t a b : Value} {x y : Bool} (h1 : PySem.W.kitOne K t a = some x) (h2 : PySem.W.kitOne K t b = some y) : PySem.W.kitAny K t [a, b] = some (x || y) := by
  cases x with
  | true => exact kitAny_cons (r := true) h1 (fun z => by cases z) (fun _ => rfl)
  | false =>
    refine kitAny_cons h1 (fun _ => ?_) (fun z => by cases z)
    cases y with
    | true => exact kitAny_cons (r := true) h2 (fun z => by cases z) (fun _ => rfl)
    | false => exact kitAny_cons h2 (fun _ => kitAny_nil) (fun z => by cases z)
/-- a name of a class or of a built-in type -/
inductive TyName (X : Cx) (ca : Nat → Addr) : Str → Kt → V → Prop where
  | b {x : Str} {t : Ty8} (hg : Gl X x) (hm : X.mg x = none) (hv : bootBuiltins x = some (.type t.nm)) (hn : x ≠ "__name__") : TyName X ca x (.b t) (.ty t.nm)
  | c {x : Str} {c : Nat} (hg : Gl X x) (hm : X.mg x = some (.ref (ca c))) : TyName X ca x (.c c) (.ref (ca c))
theorem TyName.run {X : Cx} {ca : Nat → Addr} {x : Str} {t : Kt} {v : V} {pos : Pos} (h : TyName X ca x t v) (hd : (x == ("__debug__" : Str)) = false) : PE X (.Name x pos) (tC v) ∧ ClsV v (ktV ca t) := by
  cases h with
  | b hg hm hv hn => exact ⟨pe_bltn hg hm hv rfl hn hd, .ty _⟩
  | c hg hm => exact ⟨pe_glob hg hm rfl hd, .own _⟩
section
variable {G : G0} {X : Cx} {e : Expr} {w : WE} {x x2 : Str} {p pos p2 p3 tp : Pos} {kt : Kt → Kt → Option Bool} {t t2 : Kt} {kk : Nat} {v v2 : V}
theorem d_isi (hk : ∀ a b k, kt a b = some k → PySem.W.kitOne X.K (ktV G.ca a) (ktV G.ca b) = some k) (hi : ∀ c b k, kt (.c c) b = some k → InsC X.K (G.ca c)) (hg : Gl X "isinstance") (hm : X.mg "isinstance" = none) (hT : TyName X G.ca x t v) (he : DE G X e w)
    (hd : (x == ("__debug__" : Str)) = false)
    (hs : starEach [e, .Name x p2] X.env = (false, eval e X.env) :: starEach [.Name x p2] X.env) (hs2 : starEach [.Name x p2] X.env = (false, eval (.Name x p2) X.env) :: starEach [] X.env := by rfl) (hpl : (backTo pos (starEach [.Name x p2] X.env)).any (·.1) = false := by rfl) :
    DE G X (.Call (.Name "isinstance" p) [e, .Name x p2] [] pos) (wIsi kt t w) := by
  obtain ⟨r1, r2⟩ := hT.run (pos := p2) hd
  refine .of ⟨_, pe_callB call_isi hg hm (by decide +kernel) (pa_cons he.run (pa_cons r1 pa_nil hs2) hs) (by decide) (by decide) hs hpl, fun b σ H F ρ post I hw Q q => snd_canE (w := w) b σ H F ρ _ I hw _ fun u H1 F1 ρ1 d s1 I1 a1 h1 => ?_⟩
  split at h1
  · rename_i a ea
    split at h1
    · rename_i k ek
      exact ⟨u, v, ktV G.ca a, ktV G.ca t, k, rfl, r2, tyx_at I1.fb.sub a1 ea fun c z => by subst z; exact hi c _ _ ek, hk _ _ _ ek, q _ H1 F1 ρ1 _ s1 I1 (.bl k) h1⟩
    · exact h1.elim
  · exact h1.elim
/-- isinstance(e, (T1, T2)) -/
theorem d_isi2 (hk : ∀ a b k, kt a b = some k → PySem.W.kitOne X.K (ktV G.ca a) (ktV G.ca b) = some k) (hi : ∀ c b k, kt (.c c) b = some k → InsC X.K (G.ca c)) (hg : Gl X "isinstance") (hm : X.mg "isinstance" = none) (hT : TyName X G.ca x t v) (hT2 : TyName X G.ca x2 t2 v2) (he : DE G X e w)
    (hd : (x == ("__debug__" : Str)) = false) (hd2 : (x2 == ("__debug__" : Str)) = false)
    (hs : starEach [e, .Tuple [.Name x p2, .Name x2 p3] kk tp] X.env = (false, eval e X.env) :: starEach [.Tuple [.Name x p2, .Name x2 p3] kk tp] X.env) :
    DE G X (.Call (.Name "isinstance" p) [e, .Tuple [.Name x p2, .Name x2 p3] kk tp] [] pos) (wIsi2 kt t t2 w) := by
  obtain ⟨r1, r2⟩ := hT.run (pos := p2) hd
  obtain ⟨r3, r4⟩ := hT2.run (pos := p3) hd2
  refine .of ⟨_, pe_callB call_isiT hg hm (by decide +kernel) (pa_cons he.run (pa_cons (pe_tup (pa_cons r1 (pa_cons r3 pa_nil rfl) rfl)) pa_nil rfl) hs) (by decide) (by decide) hs rfl, fun b σ H F ρ post I hw Q q => snd_canE (w := w) b σ H F ρ _ I hw _ fun u H1 F1 ρ1 d s1 I1 a1 h1 => ?_⟩
  split at h1
  · rename_i a ea
    split at h1
    · rename_i k k2 ek ek2
      refine ⟨(by decide : 2 ≤ sizeLine), fun r hr => ?_⟩
      have g : Grow F1 H1 F1 (upd H1 r (.tup [v, v2])) := Grow.tmp I1.fb.sub hr
      exact ⟨u, r, [v, v2], ktV G.ca a, [ktV G.ca t, ktV G.ca t2], k || k2, rfl, upd_same, .cons r2 (.cons r4 .nil), tyx_at g.sub a1 ea (fun c z => by subst z; exact hi c _ _ ek), kit2 (hk _ _ _ ek) (hk _ _ _ ek2), q _ _ F1 ρ1 _ s1 (I1.grow g) (.bl _) h1⟩
    · exact h1.elim
  · exact h1.elim
end

/-! ### in, index: of flat things -/
def eqFl : D → D → Bool
  | .non, .non => true
  | .bl a, .bl b => a == b
  | .bl a, .int b => (if a then 1 else 0) == b
  | .int a, .bl b => a == (if b then 1 else 0)
  | .int a, .int b => a == b
  | .str a, .str b => a == b
  | _, _ => false
section
variable {G : Gb} {F : Hp}
theorem flat_at {d : D} {v : V} (h : flat d = true) (a : At G F d v) : flatV v = true := by cases a <;> first | rfl | (cases h; done)
theorem eqFl_at {d e : D} {v u : V} (h : flat d = true) (h2 : flat e = true) (a : At G F d v) (a2 : At G F e u) : eqV v u = eqFl d e := by
  cases a <;> cases a2 <;> first | rfl | (cases h; done) | (cases h2; done)
theorem flatL_at : ∀ {l : List D} {vs : List V}, l.all flat = true → AtL G F l vs → vs.all flatV = true
  | _, _, _, .nil => rfl
  | _, _, h, .cons a r => by
    rw [List.all_cons, Bool.and_eq_true] at h
    rw [List.all_cons, flat_at h.1 a, flatL_at h.2 r]
    rfl
theorem inV_at {e : D} {u : V} (h2 : flat e = true) (a2 : At G F e u) : ∀ {l : List D} {vs : List V}, l.all flat = true → AtL G F l vs → inV u vs = l.any fun z => eqFl z e
  | _, _, _, .nil => rfl
  | _, _, h, .cons a r => by
    rw [List.all_cons, Bool.and_eq_true] at h
    have ih := inV_at h2 a2 h.2 r
    unfold inV at ih ⊢
    rw [List.any_cons, List.any_cons, eqFl_at h.1 h2 a a2, ih]
end
def wInF (neg : Bool) : R2D := fun x y post => match items y with
  | some l => (flat x = true ∧ l.all flat = true) ∧ post (.bl (if neg then !l.any fun z => eqFl z x else l.any fun z => eqFl z x))
  | none => False
theorem sndo_in {G : Gx} {neg : Bool} : SndO G (rIn G.K neg) (wInF neg) := fun F H x y d1 d2 post s a1 a2 h Q q => by
  unfold wInF at h
  split at h
  · rename_i l hl
    obtain ⟨⟨f1, f2⟩, h⟩ := h
    obtain ⟨r, vs, rfl, sq, al⟩ := items_at s a2 hl
    refine ⟨_, vs, rfl, sq, flat_at f1 a1, flatL_at f2 al, ?_⟩
    rw [inV_at f1 a1 f2 al]
    exact q _ H F _ (Grow.refl s) (.bl _) h
  · exact h.elim
section
variable {G : G0} {X : Cx}
theorem do_inF : DOp G X (compareOp .In) (wInF false) := ⟨_, op_in_seq, sndo_in⟩
theorem do_notInF : DOp G X (compareOp .NotIn) (wInF true) := ⟨_, op_notIn_seq, sndo_in⟩
/-- x in a list, by == of data -/
def wInD (neg : Bool) : R2D := fun x y post => match y with
  | .lst l => (shp x = true ∧ shp (.lst l) = true) ∧ post (.bl (if neg then !l.any fun z => deq z x else l.any fun z => deq z x))
  | _ => False
theorem pyL_any (x : D) : ∀ l : List D, ((pyL l).any fun z => PyData.eqv z (py x)) = l.any fun z => deq z x
  | [] => rfl
  | d :: r => by
    rw [pyL, List.any_cons, List.any_cons, pyL_any x r]
    rfl
theorem do_inD (hu : X.A.units + 65 < cLine) : DOp G X (compareOp .In) (wInD false) := ⟨_, op_inD hu, fun F H x y d1 d2 post s a1 a2 h Q q => by
  unfold wInD at h
  split at h
  · rename_i l
    obtain ⟨⟨n1, n2⟩, h⟩ := h
    have m1 : noObj d1 = true ∧ SeqAt.shaped (py d1) = true := by simpa [shp] using n1
    have m2 : noObj (.lst l) = true ∧ SeqAt.shaped (py (.lst l)) = true := by simpa [shp] using n2
    refine ⟨py d1, pyL l, At.dp s _ _ a1 m1.1, At.dp s (.lst l) _ a2 m2.1, m1.2, m2.2, ?_⟩
    rw [pyL_any]
    exact q _ H F _ (Grow.refl s) (.bl _) h
  · exact h.elim⟩
theorem do_notInD (hu : X.A.units + 65 < cLine) : DOp G X (compareOp .NotIn) (wInD true) := ⟨_, op_notInD hu, fun F H x y d1 d2 post s a1 a2 h Q q => by
  unfold wInD at h
  split at h
  · rename_i l
    obtain ⟨⟨n1, n2⟩, h⟩ := h
    have m1 : noObj d1 = true ∧ SeqAt.shaped (py d1) = true := by simpa [shp] using n1
    have m2 : noObj (.lst l) = true ∧ SeqAt.shaped (py (.lst l)) = true := by simpa [shp] using n2
    refine ⟨py d1, pyL l, At.dp s _ _ a1 m1.1, At.dp s (.lst l) _ a2 m2.1, m1.2, m2.2, ?_⟩
    rw [pyL_any]
    exact q _ H F _ (Grow.refl s) (.bl _) h
  · exact h.elim⟩
end
/-- l.index(y), by == of data -/
def wIdxD (wo we : WE) : WE := fun ρ post => wo ρ fun ρ1 x => match x with
  | .lst l => we ρ1 fun ρ2 y => (shp (.lst l) = true ∧ shp y = true) ∧ ∃ (j : Nat) (z : D), (l[j]? = some z ∧ deq z y = true ∧ ∀ (m : Nat) (z' : D), m < j → l[m]? = some z' → deq z' y = false) ∧ post ρ2 (.int (j : Nat))
  | _ => False
theorem pyL_get : ∀ (l : List D) (j : Nat), (pyL l)[j]? = (l[j]?).map py
  | [], _ => by simp [pyL]
  | d :: r, 0 => by simp [pyL]
  | d :: r, j + 1 => by simpa [pyL] using pyL_get r j
section
variable {G : G0} {X : Cx} {o e : Expr} {wo we : WE} {pos pos' apos : Pos}
theorem d_indexD (hu : X.A.units + 65 < cLine) (ho : DE G X o wo) (he : DE G X e we)
    (hbase : attributeBase o "index" X.env (eval o X.env) = eval o X.env := by rfl)
    (hfew : ((backTo pos' (starEach [e] X.env)).all (fun x => !x.1) && (backToKw pos' (keywordEach [] X.env)).all (fun x => x.1.isSome)
      && decide ([e].length + ([] : List Keyword).length + (if ([] : List Keyword).isEmpty then 0 else 1) < 30)) = true := by rfl)
    (hline : (apos.endLine == pos'.line) = true := by rfl) (hs : starEach [e] X.env = (false, eval e X.env) :: starEach [] X.env := by rfl) (hplain : (backTo pos' (starEach [] X.env)).any (·.1) = false := by rfl) :
    DE G X (.Call (.Attribute o "index" apos) [e] [] pos') (wIdxD wo we) :=
  .of ⟨_, pe_bm PySem.F.plainAttrs_list PySem.F.slot_list_index PySem.F.type_list_index (mt_indexD hu) ho.run (pa_cons he.run pa_nil hs) hbase hfew hline hs hplain, fun b σ H F ρ post I hw Q q =>
    snd_canE (w := wo) b σ H F ρ _ I hw _ fun v H1 F1 ρ1 x s1 I1 a1 k1 => by
      cases x with
      | lst l =>
        have a1' := a1
        cases a1' with
        | @lst p vs _ hs ha =>
          refine ⟨.inl ⟨rfl, vs, .inl (.inl (I1.fb.sub _ _ hs))⟩, snd_canE (w := we) b σ H1 F1 ρ1 _ I1 k1 _ fun u H2 F2 ρ2 y s2 I2 a2 k2 => ?_⟩
          obtain ⟨⟨n1, n2⟩, j, z, ⟨e1, e2, e3⟩, hp⟩ := k2
          have m1 : noObj (.lst l) = true ∧ SeqAt.shaped (py (.lst l)) = true := by simpa [shp] using n1
          have m2 : noObj y = true ∧ SeqAt.shaped (py y) = true := by simpa [shp] using n2
          refine ⟨p, u, py y, pyL l, j, py z, rfl, rfl, At.dp I2.fb.sub (.lst l) _ (a1.up s2) m1.1, At.dp I2.fb.sub _ _ a2 m2.1, m1.2, m2.2, by rw [pyL_get, e1]; rfl, e2, fun m z' hm hz => ?_, q _ H2 F2 ρ2 _ (s1.trans s2) I2 (.int _) hp⟩
          rw [pyL_get, Option.map_eq_some_iff] at hz
          obtain ⟨w, hw', rfl⟩ := hz
          exact e3 m w hm hw'
      | _ => exact k1.elim⟩
end
/-! ### count, by == of data -/
def rCntD (K : PySem.W.Frag) : V → List V → Hp → VK → Prop := fun x xs H Q => ∃ (a : Addr) (y : V) (d : PyData) (ds : List PyData), x = V.ref a ∧ xs = [y] ∧ Dp K H (V.ref a) (.list ds) ∧ Dp K H y d ∧
  SeqAt.shaped (.list ds) = true ∧ SeqAt.shaped d = true ∧ Q (.int (ds.countP fun z => PyData.eqv z d : Nat)) H
theorem mt_countD {X : Cx} (hu : X.A.units + 65 < cLine) : MtR X "list.count" (rCntD X.K) := by
  intro pins s σ H x xs v us Q I rx rxs h
  obtain ⟨a, y, d, ds, rfl, rfl, hl, hy, sl, sd, q⟩ := h
  cases rx
  cases rxs with
  | cons ry rt =>
    rename_i uy ut
    cases rt
    obtain ⟨bs, r1⟩ := Dp.reads I d y uy hy ry
    have hxs : PyData.canLayAll0 ds = true := SeqAt.canLay_of_shaped sl
    have hroom : X.A.units + 1 + min (PyData.depthAll ds) d.depth < cLine := room_in_shaped sd hu
    cases hl with
    | lst hs ha =>
      obtain ⟨its, rv, ⟨⟨cls, dd, data, sls⟩, n, ho, hc, hdn, hdt⟩, hlen⟩ := I.list hs
      simp only at hc hdt
      subst hc hdt
      obtain ⟨as, h4⟩ := Dp.readsAll I ds _ its ha rv
      have hmap : its.map (SeqAt.readOf s.heap) = ds := SeqAt.readsAll_map ds its as hxs h4
      refine call_meets PySem.F.slot_list_count ⟨_, ho, rfl⟩ PySem.F.entry_list_count (PySem.F.args_list_count_2 _ _)
        (SeqAt.list_countAt a its.toArray n dd sls uy (fun u => PyData.eqv (SeqAt.readOf s.heap u) d)) ⟨ho, SeqAt.items_eqAt (vs := its.toArray) (show ReadsAll s.heap its.toArray.toList ds as from h4) r1 hxs (SeqAt.canLay_of_shaped sd) hroom, ?_⟩
      have ec : its.toArray.toList.countP (fun u => PyData.eqv (SeqAt.readOf s.heap u) d) = ds.countP fun z => PyData.eqv z d := by
        rw [← hmap, List.countP_map]
        rfl
      rw [ec]
      exact ⟨.int (ds.countP fun z => PyData.eqv z d : Nat), H, I.tok _, ⟨_, rfl⟩, q⟩
def wCntD (wo we : WE) : WE := fun ρ post => wo ρ fun ρ1 x => match x with
  | .lst l => we ρ1 fun ρ2 y => (shp (.lst l) = true ∧ shp y = true) ∧ post ρ2 (.int (l.countP fun z => deq z y : Nat))
  | _ => False
theorem pyL_count (y : D) : ∀ l : List D, ((pyL l).countP fun z => PyData.eqv z (py y)) = l.countP fun z => deq z y
  | [] => rfl
  | d :: r => by
    rw [pyL, List.countP_cons, List.countP_cons, pyL_count y r]
    rfl
section
variable {G : G0} {X : Cx} {o e : Expr} {wo we : WE} {pos pos' apos : Pos}
theorem d_countD (hu : X.A.units + 65 < cLine) (ho : DE G X o wo) (he : DE G X e we)
    (hbase : attributeBase o "count" X.env (eval o X.env) = eval o X.env := by rfl)
    (hfew : ((backTo pos' (starEach [e] X.env)).all (fun x => !x.1) && (backToKw pos' (keywordEach [] X.env)).all (fun x => x.1.isSome)
      && decide ([e].length + ([] : List Keyword).length + (if ([] : List Keyword).isEmpty then 0 else 1) < 30)) = true := by rfl)
    (hline : (apos.endLine == pos'.line) = true := by rfl) (hs : starEach [e] X.env = (false, eval e X.env) :: starEach [] X.env := by rfl) (hplain : (backTo pos' (starEach [] X.env)).any (·.1) = false := by rfl) :
    DE G X (.Call (.Attribute o "count" apos) [e] [] pos') (wCntD wo we) :=
  .of ⟨_, pe_bm PySem.F.plainAttrs_list PySem.F.slot_list_count PySem.F.type_list_count (mt_countD hu) ho.run (pa_cons he.run pa_nil hs) hbase hfew hline hs hplain, fun b σ H F ρ post I hw Q q =>
    snd_canE (w := wo) b σ H F ρ _ I hw _ fun v H1 F1 ρ1 x s1 I1 a1 k1 => by
      cases x with
      | lst l =>
        have a1' := a1
        cases a1' with
        | @lst p vs _ hs ha =>
          refine ⟨.inl ⟨rfl, vs, .inl (.inl (I1.fb.sub _ _ hs))⟩, snd_canE (w := we) b σ H1 F1 ρ1 _ I1 k1 _ fun u H2 F2 ρ2 y s2 I2 a2 k2 => ?_⟩
          obtain ⟨⟨n1, n2⟩, hp⟩ := k2
          have m1 : noObj (.lst l) = true ∧ SeqAt.shaped (py (.lst l)) = true := by simpa [shp] using n1
          have m2 : noObj y = true ∧ SeqAt.shaped (py y) = true := by simpa [shp] using n2
          refine ⟨p, u, py y, pyL l, rfl, rfl, At.dp I2.fb.sub (.lst l) _ (a1.up s2) m1.1, At.dp I2.fb.sub _ _ a2 m2.1, m1.2, m2.2, ?_⟩
          rw [pyL_count]
          exact q _ H2 F2 ρ2 _ (s1.trans s2) I2 (.int _) hp
      | _ => exact k1.elim⟩
/-! ### divmod; a name of the top -/
def wDvm : List D → (D → Prop) → Prop := w2 (wI CDiv fun i j => .tup [.int (i / j), .int (i % j)])
theorem dc_divmod : DC G X (.builtin "divmod") wDvm := ⟨_, call_divmod, sndc_2 fun F H v u d e post s a1 a2 hw Q q => by
  unfold wI at hw
  split at hw
  · rename_i i j
    cases a1; cases a2
    refine ⟨i, j, rfl, hw.1, fun p hp => ?_⟩
    have g := Grow.add (o := .tup [.int (i / j), .int (i % j)]) s hp
    exact q _ _ _ _ g (.tup (.inl (.inl upd_same)) (.cons (.int _) (.cons (.int _) .nil))) hw.2
  · exact hw.elim⟩
theorem d_glV {x : Str} {d : D} {v : V} {u : Value} {pos : Pos} (hg : Gl X x) (hm : X.mg x = some u) (r : RelV v u) (a : ∀ F, At (gx X G) F d v) (hd : (x == ("__debug__" : Str)) = false) : DE G X (.Name x pos) (wC d) := .of ⟨_, pe_glob hg hm r hd, snd_c a⟩
end
end J

set_option Elab.async false
set_option linter.all false
set_option maxRecDepth 100000
set_option maxHeartbeats 4000000
namespace J
open PySem PySem.Spec PyProof.Rows L2

/-! ### zip(a, b, c), each a list or a tuple -/
def ItzK3 (K : PySem.W.Frag) (k1 : Bool) (a : Addr) (k2 : Bool) (b : Addr) (k3 : Bool) (c : Addr) : It :=
  ⟨fun i H => ∃ (xs ys ws : List V) (x y w : V), SqK k1 K H a xs ∧ SqK k2 K H b ys ∧ SqK k3 K H c ws ∧ xs[i]? = some x ∧ ys[i]? = some y ∧ ws[i]? = some w,
    fun i H v H' => ∃ T x y w, v = .ref T ∧ H T = none ∧ H' = upd H T (.tup [x, y, w]) ∧ (∀ xs, SqK k1 K H a xs → xs[i]? = some x) ∧ (∀ ys, SqK k2 K H b ys → ys[i]? = some y) ∧ ∀ ws, SqK k3 K H c ws → ws[i]? = some w,
    fun i H => ∃ xs ys ws : List V, SqK k1 K H a xs ∧ SqK k2 K H b ys ∧ SqK k3 K H c ws ∧ i ≤ xs.length ∧ i ≤ ys.length ∧ i ≤ ws.length ∧ (xs.length = i ∨ ys.length = i ∨ ws.length = i)⟩
theorem turn_zipK3 {P : Program} {w : World} {K : PySem.W.Frag} {elts : List Expr} {kk : Nat} {tpos : Pos} {a b d z TI TO i1 i2 i3 : Addr} {k1 k2 k3 : Bool} (D : ZipSep3 z TI TO i1 i2 i3 [i1, a] [i2, b] [i3, d]) :
    Turn P w K (.Tuple elts kk tpos) (ItzK3 K k1 a k2 b k3 d) [z, TI, TO, i1, i2, i3] z (fun i h => IsZip h z TI TO .none ∧ IsTupOf3 h TI (.ref i1) (.ref i2) (.ref i3) ∧ (∃ x y u, IsTupOf3 h TO x y u) ∧ IterK k1 h i1 a i ∧ IterK k2 h i2 b i ∧ IterK k3 h i3 d i) where
  mem := by simp
  obj := fun i h st c hc => by
    obtain ⟨hz, hTI, ⟨x, y, u, hTO⟩, h1, h2, h3⟩ := st
    have e' : c = z ∨ c = TI ∨ c = TO ∨ c = i1 ∨ c = i2 ∨ c = i3 := by simpa using hc
    rcases e' with q | q | q | q | q | q
    · rw [q]; exact ⟨_, hz, fun v q => nomatch q⟩
    · rw [q]; exact ⟨_, hTI, fun v q => nomatch q⟩
    · rw [q]; exact ⟨_, hTO, fun v q => nomatch q⟩
    · rw [q]; exact iterK_get h1
    · rw [q]; exact iterK_get h2
    · rw [q]; exact iterK_get h3
  keep := fun i h h' st k => by
    obtain ⟨hz, hTI, ⟨x, y, u, hTO⟩, h1, h2, h3⟩ := st
    exact ⟨k z (by simp) _ hz, k TI (by simp) _ hTI, ⟨x, y, u, k TO (by simp) _ hTO⟩, iterK_at h1 fun o q => k i1 (by simp) o q, iterK_at h2 fun o q => k i2 (by simp) o q, iterK_at h3 fun o q => k i3 (by simp) o q⟩
  item := by
    intro X hP hw hK hc i pins s σ H E I hf st hg
    subst hP hw hK
    obtain ⟨hz, hTI, ⟨x0, y0, u0, hTO⟩, h1, h2, h3⟩ := st
    obtain ⟨xs, ys, ws, x, y, wv, hqx, hqy, hqw, hx, hy, hw⟩ := hg
    obtain ⟨its, rv, p, _, la⟩ := inv_seqK I hqx
    obtain ⟨its2, rv2, p2, _, lb⟩ := inv_seqK I hqy
    obtain ⟨its3, rv3, p3, _, lc⟩ := inv_seqK I hqw
    obtain ⟨u, hu, ru⟩ := rv.get hx
    obtain ⟨u2, hu2, ru2⟩ := rv2.get hy
    obtain ⟨u3, hu3, ru3⟩ := rv3.get hw
    have hzl : z < s.heap.objs.size := Heap.lt_size hz
    have hh : X.A.in1.handled = none := I.ok.hd hc
    have n1 : a ≠ i1 := hasK_ne p h1
    have n2 : b ≠ i2 := hasK_ne p2 h2
    have n3 : d ≠ i3 := hasK_ne p3 h3
    have hlt1 : i < its.toArray.size := by
      have := (List.getElem?_eq_some_iff.mp hu).1
      simpa using this
    have hlt2 : i < its2.toArray.size := by
      have := (List.getElem?_eq_some_iff.mp hu2).1
      simpa using this
    have hlt3 : i < its3.toArray.size := by
      have := (List.getElem?_eq_some_iff.mp hu3).1
      simpa using this
    refine wpAny_pyNext_zipD3_item (prog := X.prog) (w := X.w) D (drawsK hh i1 a n1 its.toArray) (drawsK hh i2 b n2 its2.toArray) (drawsK hh i3 d n3 its3.toArray) hz hTI hTO ⟨h1, p⟩ ⟨h2, p2⟩ ⟨h3, p3⟩ hlt1 hlt2 hlt3 fun x1 x2 x3 h' tk q1 q2 q3 z' TO' s1 s2 s3 hT hsz hk => ?_
    have e1 : x1 = u := by
      have : its.toArray[i]? = some u := by simpa using hu
      rw [this] at q1; exact (Option.some.inj q1).symm
    have e2 : x2 = u2 := by
      have : its2.toArray[i]? = some u2 := by simpa using hu2
      rw [this] at q2; exact (Option.some.inj q2).symm
    have e3 : x3 = u3 := by
      have : its3.toArray[i]? = some u3 := by simpa using hu3
      rw [this] at q3; exact (Option.some.inj q3).symm
    subst e1 e2 e3
    refine ⟨_, rfl, wpAny_letOwnedTupleGo_zip (s := { s with heap := h', toks := tk }) z' fun h'' z'' sb => ?_⟩
    have hT2 : h''.get? s.heap.objs.size = some { cls := .type "tuple", data := .seq #[x1, x2, x3] } := (sb.2 _ (Nat.ne_of_gt hzl)).trans hT
    have new : ObjOk X.prog X.w (upd H s.heap.objs.size (.tup [x, y, wv])) h'' s.heap.objs.size (.tup [x, y, wv]) :=
      ⟨by show 3 ≤ sizeLine; decide, [x1, x2, x3], .cons ru (.cons ru2 (.cons ru3 .nil)), ⟨_, hT2, rfl, _, rfl⟩⟩
    have I1 : Inv X pins σ (upd H s.heap.objs.size (.tup [x, y, wv])) { s with heap := h'', toks := tk } :=
      I.turnedNew (t' := tk) (ch := [z, TI, TO, i1, i2, i3]) (fun c o hb q => (sb.2 c (fun q' => hb (by simp [q']))).trans (hk c o (fun q' => hb (by simp [q'])) (fun q' => hb (by simp [q'])) (fun q' => hb (by simp [q'])) (fun q' => hb (by simp [q'])) (fun q' => hb (by simp [q'])) q)) hf (Nat.le_refl _) new
    refine ⟨.ref s.heap.objs.size, _, I1, rfl, ⟨_, x, y, wv, rfl, I.hok.fresh (Nat.le_refl _), rfl, fun l hl => by rw [inv_seqK_inj I hl hqx]; exact hx, fun l hl => by rw [inv_seqK_inj I hl hqy]; exact hy, fun l hl => by rw [inv_seqK_inj I hl hqw]; exact hw⟩, ⟨z'', ?_, ⟨x1, x2, x3, ?_⟩, ?_, ?_, ?_⟩, fun c hcm => ?_⟩
    · exact (sb.2 _ D.TIz).trans (hk _ _ D.TIz D.TITO D.TIi1 D.TIi2 D.TIi3 hTI)
    · exact (sb.2 _ D.TOz).trans TO'
    · exact iterK_at s1.1 fun o q => (sb.2 _ (fun e => D.zf1 (by rw [← e]; exact D.mem1))).trans q
    · exact iterK_at s2.1 fun o q => (sb.2 _ (fun e => D.zf2 (by rw [← e]; exact D.mem2))).trans q
    · exact iterK_at s3.1 fun o q => (sb.2 _ (fun e => D.zf3 (by rw [← e]; exact D.mem3))).trans q
    · have hlt : c < s.heap.objs.size := by
        have e' : c = z ∨ c = TI ∨ c = TO ∨ c = i1 ∨ c = i2 ∨ c = i3 := by simpa using hcm
        rcases e' with q | q | q | q | q | q
        · rw [q]; exact hzl
        · rw [q]; exact Heap.lt_size hTI
        · rw [q]; exact Heap.lt_size hTO
        · rw [q]; obtain ⟨_, e1, _⟩ := iterK_get h1; exact Heap.lt_size e1
        · rw [q]; obtain ⟨_, e2, _⟩ := iterK_get h2; exact Heap.lt_size e2
        · rw [q]; obtain ⟨_, e3, _⟩ := iterK_get h3; exact Heap.lt_size e3
      rw [upd_ne (Nat.ne_of_lt hlt)]
      exact (hf c hcm).1
  done := by
    intro X hP hw hK hc i pins s σ H E I hf st hg
    subst hP hw hK
    obtain ⟨hz, hTI, ⟨x0, y0, u0, hTO⟩, h1, h2, h3⟩ := st
    obtain ⟨xs, ys, ws, hqx, hqy, hqw, hi1, hi2, hi3, hend⟩ := hg
    obtain ⟨its, rv, p, _, la⟩ := inv_seqK I hqx
    obtain ⟨its2, rv2, p2, _, lb⟩ := inv_seqK I hqy
    obtain ⟨its3, rv3, p3, _, lc⟩ := inv_seqK I hqw
    have l1 := rv.length
    have l2 := rv2.length
    have l3 := rv3.length
    have hh : X.A.in1.handled = none := I.ok.hd hc
    have n1 : a ≠ i1 := hasK_ne p h1
    have n2 : b ≠ i2 := hasK_ne p2 h2
    have n3 : d ≠ i3 := hasK_ne p3 h3
    refine wpAny_pyNext_zipD3_end (prog := X.prog) (w := X.w) D (drawsK hh i1 a n1 its.toArray) (drawsK hh i2 b n2 its2.toArray) (drawsK hh i3 d n3 its3.toArray) hz hTI hTO ⟨h1, p⟩ ⟨h2, p2⟩ ⟨h3, p3⟩ (by simp; omega) (by simp; omega) (by simp; omega) (by simp; omega) fun h' tk hk => ⟨rfl, I.turnedL (t' := tk) (ch := [z, TI, TO, i1, i2, i3]) (fun c o hb q =>
      hk c o (fun q' => hb (by simp [q'])) (fun q' => hb (by simp [q'])) (fun q' => hb (by simp [q'])) (fun q' => hb (by simp [q'])) (fun q' => hb (by simp [q'])) q) hf⟩
  self := fun A i s Q E st h => wpAny_pyIter_zip st.1 h
def iZipK3 (K : PySem.W.Frag) (ta : TA) : TI := fun σ H R => ta σ H fun vs H1 => ∃ k1 a k2 b k3 c xs ys ws, vs = [.ref a, .ref b, .ref c] ∧ SqK k1 K H1 a xs ∧ SqK k2 K H1 b ys ∧ SqK k3 K H1 c ws ∧ (xs.length ≤ sizeLine → R (ItzK3 K k1 a k2 b k3 c) H1)
theorem pi_zipK3 {X : Cx} {e e2 e3 : Expr} {ta : TA} {p pos tpos : Pos} {elts : List Expr} {kk : Nat} (hg : Gl X "zip") (hm : X.mg "zip" = none) (ha : PA X [e, e2, e3] ta)
    (hs : starEach [e, e2, e3] X.env = (false, eval e X.env) :: starEach [e2, e3] X.env := by rfl) (hpl : (backTo pos (starEach [e2, e3] X.env)).any (·.1) = false := by rfl) :
    PI X (.Tuple elts kk tpos) (.Call (.Name "zip" p) [e, e2, e3] [] pos) (iZipK3 X.K ta) := by
  refine ⟨fun pins s σ H R I h => ?_⟩
  refine Call_ (ld_blt I hg hm PyProof.Rows.boot_zip (PyProof.Rows.callWith_type1 (thn (ha.run pos pins s σ H _ I h) fun us s1 ⟨vs, H1, I1, r1, q1⟩ => ?_) hs hpl))
  obtain ⟨k1, a, k2, b, k3, d, xs, ys, ws, ex, hqx, hqy, hqw, q⟩ := q1
  subst ex
  cases r1 with
  | cons r rr =>
    cases rr with
    | cons r' rr =>
      cases rr with
      | cons r'' rr =>
        cases rr
        cases r
        cases r'
        cases r''
        obtain ⟨its, rv, p1, z1, la⟩ := inv_seqK I1 hqx
        obtain ⟨its2, rv2, p2, _, lb⟩ := inv_seqK I1 hqy
        obtain ⟨its3, rv3, p3, _, lc⟩ := inv_seqK I1 hqw
        refine zip_begins3 (beginsK a its.toArray) (beginsK b its2.toArray) (beginsK d its3.toArray) p1 p2 p3 fun h' hz hTI hTO h1 h2 h3 hsz hk => wpAny_pyIter_zip hz ?_
        have I2 : Inv X pins σ H1 { s1 with heap := h' } := I1.kept (t' := s1.toks) hk
        refine ⟨s1.heap.objs.size + 5, [s1.heap.objs.size + 5, s1.heap.objs.size + 3, s1.heap.objs.size + 4, s1.heap.objs.size, s1.heap.objs.size + 1, s1.heap.objs.size + 2], _, _, H1, rfl, I2, turn_zipK3 (zip_sep3 (N := s1.heap.objs.size) (fp1 := [a]) (fp2 := [b]) (fp3 := [d]) (by simpa using la) (by simpa using lb) (by simpa using lc)), ⟨hz, hTI, ⟨_, _, _, hTO⟩, iterK_new h1, iterK_new h2, iterK_new h3⟩, fun c hcm => ?_, q z1⟩
        have e' : c = s1.heap.objs.size + 5 ∨ c = s1.heap.objs.size + 3 ∨ c = s1.heap.objs.size + 4 ∨ c = s1.heap.objs.size ∨ c = s1.heap.objs.size + 1 ∨ c = s1.heap.objs.size + 2 := by simpa using hcm
        have hle : s1.heap.objs.size ≤ c := by
          rcases e' with z | z | z | z | z | z <;> rw [z] <;> first | exact Nat.le_refl _ | exact Nat.le_add_right _ _
        exact I1.fpOk hle (I1.hok.fresh hle)
/-! ### on data -/
def zipD3 : List D → List D → List D → List D
  | x :: r, y :: s, z :: t => .tup [x, y, z] :: zipD3 r s t
  | _, _, _ => []
theorem zipD3_length : ∀ l m n : List D, (zipD3 l m n).length = min l.length (min m.length n.length)
  | [], _, _ => by simp [zipD3]
  | _ :: _, [], _ => by simp [zipD3]
  | _ :: _, _ :: _, [] => by simp [zipD3]
  | x :: r, y :: s, z :: t => by
    simp only [zipD3, List.length_cons, zipD3_length r s t]
    omega
theorem zipD3_get : ∀ (l m n : List D) (i : Nat) (d : D), (zipD3 l m n)[i]? = some d → ∃ x y z, l[i]? = some x ∧ m[i]? = some y ∧ n[i]? = some z ∧ d = .tup [x, y, z]
  | [], _, _, i, d, h => by simp [zipD3] at h
  | _ :: _, [], _, i, d, h => by simp [zipD3] at h
  | _ :: _, _ :: _, [], i, d, h => by simp [zipD3] at h
  | x :: r, y :: s, z :: t, 0, d, h => by
    simp [zipD3] at h
    exact ⟨x, y, z, rfl, rfl, rfl, h.symm⟩
  | x :: r, y :: s, z :: t, i + 1, d, h => by
    simp [zipD3] at h
    obtain ⟨u, v, w, h1, h2, h3, h4⟩ := zipD3_get r s t i d h
    exact ⟨u, v, w, by simpa using h1, by simpa using h2, by simpa using h3, h4⟩
def YTri (f g h : Nat → Option V) : Nat → Hp → V → Hp → Prop := fun i H v H' => ∃ T x y w, v = .ref T ∧ H T = none ∧ H' = upd H T (.tup [x, y, w]) ∧ f i = some x ∧ g i = some y ∧ h i = some w
theorem walk_zipK3 {K : PySem.W.Frag} {k1 k2 k3 : Bool} {a b c : Addr} {xs ys ws : List V} {n : Nat} (hn : n = min xs.length (min ys.length ws.length)) :
    Walk (ItzK3 K k1 a k2 b k3 c) n (fun H => SqK k1 K H a xs ∧ SqK k2 K H b ys ∧ SqK k3 K H c ws) (YTri (fun i => xs[i]?) (fun i => ys[i]?) (fun i => ws[i]?)) := by
  refine ⟨fun i H hi h => ?_, fun H h => ?_, fun i H x H' hi h y => ?_⟩
  · have h1 : i < xs.length := by omega
    have h2 : i < ys.length := by omega
    have h3 : i < ws.length := by omega
    exact ⟨xs, ys, ws, xs[i], ys[i], ws[i], h.1, h.2.1, h.2.2, List.getElem?_eq_getElem h1, List.getElem?_eq_getElem h2, List.getElem?_eq_getElem h3⟩
  · exact ⟨xs, ys, ws, h.1, h.2.1, h.2.2, by omega, by omega, by omega, by omega⟩
  · obtain ⟨T, u, v, w, e1, e2, e3, e4, e5, e6⟩ := y
    exact ⟨T, u, v, w, e1, e2, e3, e4 xs h.1, e5 ys h.2.1, e6 ws h.2.2⟩
def wZip3I (wa : WN) : WN := fun ρ post => wa ρ fun ρ1 ds => match ds with
  | [d, e, f] => (match items d, items e, items f with
    | some l, some m, some n => post ρ1 (zipD3 l m n)
    | _, _, _ => False)
  | _ => False
theorem di_zip3 {G : G0} {X : Cx} {e e2 e3 : Expr} {p pos tpos : Pos} {elts : List Expr} {kk : Nat} {wa : WN} (hg : Gl X "zip") (hm : X.mg "zip" = none) (h : DA G X [e, e2, e3] wa)
    (hs : starEach [e, e2, e3] X.env = (false, eval e X.env) :: starEach [e2, e3] X.env := by rfl) (hpl : (backTo pos (starEach [e2, e3] X.env)).any (·.1) = false := by rfl) :
    DI G X (.Tuple elts kk tpos) (.Call (.Name "zip" p) [e, e2, e3] [] pos) (wZip3I wa) := ⟨⟨fun pins s σ H R I ⟨b, F, ρ, post, hI, hw, q⟩ => by
  obtain ⟨t, h1, h2⟩ := h.ex
  refine (pi_zipK3 hg hm h1 hs hpl).run pins s σ H R I (h2 b σ H F ρ _ hI hw _ fun vs H1 F1 ρ1 ds s1 I1 a1 h1 => ?_)
  split at h1
  · rename_i d1 d2 d3
    cases a1 with
    | cons b1 a1 =>
      cases a1 with
      | cons b2 a1 =>
        cases a1 with
        | cons b3 a1 =>
          cases a1
          split at h1
          · rename_i l m n el em en
            obtain ⟨k1, r1, vs1, rfl, al1, sq1⟩ := seq_at b1 el
            obtain ⟨k2, r2, vs2, rfl, al2, sq2⟩ := seq_at b2 em
            obtain ⟨k3, r3, vs3, rfl, al3, sq3⟩ := seq_at b3 en
            refine ⟨k1, r1, k2, r2, k3, r3, vs1, vs2, vs3, rfl, sq1 F1 H1 (Same.refl _) I1.fb.sub, sq2 F1 H1 (Same.refl _) I1.fb.sub, sq3 F1 H1 (Same.refl _) I1.fb.sub, fun hz => ?_⟩
            have hl1 := al1.length
            have hl2 := al2.length
            have hl3 := al3.length
            have hn := zipD3_length l m n
            refine q _ H1 F1 ρ1 (zipD3 l m n) _ _ s1 I1 h1 (by omega) (walk_zipK3 (by omega)) (fun F2 H2 z1 z2 => ⟨sq1 F2 H2 z1 z2, sq2 F2 H2 z1 z2, sq3 F2 H2 z1 z2⟩) fun i d F2 H2 x H3 ed s2 s3 y => ?_
            obtain ⟨T, u, w, w2, rfl, nT, rfl, eu, ew, ew2⟩ := y
            obtain ⟨y1, y2, y3, f1, f2, f3, rfl⟩ := zipD3_get l m n i d ed
            obtain ⟨u', eu', au⟩ := al1.get f1
            obtain ⟨w', ew', aw⟩ := al2.get f2
            obtain ⟨w2', ew2', aw2⟩ := al3.get f3
            have q1 : vs1[i]? = some u := eu
            have q2 : vs2[i]? = some w := ew
            have q3 : vs3[i]? = some w2 := ew2
            rw [eu'] at q1
            rw [ew'] at q2
            rw [ew2'] at q3
            cases q1
            cases q2
            cases q3
            have g := Grow.add (o := .tup [u, w, w2]) s3 nT
            exact ⟨_, g, .tup (.inl (.inl upd_same)) (.cons ((au.up s2).up g.f) (.cons ((aw.up s2).up g.f) (.cons ((aw2.up s2).up g.f) .nil)))⟩
          · exact h1.elim
  · exact h1.elim⟩⟩
end J

set_option Elab.async false
set_option linter.all false
set_option maxRecDepth 100000
set_option maxHeartbeats 4000000
namespace J
open PySem PySem.Spec PyProof.Rows L2

/-! ### keywords: where each parameter's value comes from -/
inductive Pm where
  | a (i : Nat)
  | d (j : Nat)
  deriving DecidableEq
def arr {α : Type} (pm : List Pm) (dv xs : List α) : List α := pm.filterMap fun p => match p with
  | .a i => xs[i]?
  | .d j => dv[j]?
theorem vals_get {vs : List V} {us : List Value} (r : Vals vs us) (i : Nat) : (vs[i]? = none ∧ us[i]? = none) ∨ ∃ v u, vs[i]? = some v ∧ us[i]? = some u ∧ RelV v u := by
  induction r generalizing i with
  | nil => exact .inl ⟨by simp, by simp⟩
  | cons r _ ih =>
    cases i with
    | zero => exact .inr ⟨_, _, rfl, rfl, r⟩
    | succ i => simpa using ih i
theorem vals_arr {vs ds : List V} {us its : List Value} (r : Vals vs us) (rd : Vals ds its) : ∀ pm : List Pm, Vals (arr pm ds vs) (arr pm its us)
  | [] => .nil
  | p :: pm => by
    have ih := vals_arr r rd pm
    unfold arr at ih ⊢
    rw [List.filterMap_cons, List.filterMap_cons]
    cases p with
    | a i =>
      rcases vals_get r i with ⟨h1, h2⟩ | ⟨v, u, h1, h2, h3⟩
      · simp only [h1, h2]; exact ih
      · simp only [h1, h2]; exact .cons h3 ih
    | d i =>
      rcases vals_get rd i with ⟨h1, h2⟩ | ⟨v, u, h1, h2, h3⟩
      · simp only [h1, h2]; exact ih
      · simp only [h1, h2]; exact .cons h3 ih
theorem atl_get {G : Gb} {F : Hp} : ∀ {ds : List D} {vs : List V}, AtL G F ds vs → ∀ i : Nat, (ds[i]? = none ∧ vs[i]? = none) ∨ ∃ d v, ds[i]? = some d ∧ vs[i]? = some v ∧ At G F d v
  | _, _, .nil, i => .inl ⟨by simp, by simp⟩
  | _, _, .cons a _, 0 => .inr ⟨_, _, rfl, rfl, a⟩
  | _, _, .cons _ r, i + 1 => by simpa using atl_get r i
theorem atl_arr {G : Gb} {F : Hp} {ds es : List D} {vs us : List V} (r : AtL G F ds vs) (rd : AtL G F es us) : ∀ pm : List Pm, AtL G F (arr pm es ds) (arr pm us vs)
  | [] => .nil
  | p :: pm => by
    have ih := atl_arr r rd pm
    unfold arr at ih ⊢
    rw [List.filterMap_cons, List.filterMap_cons]
    cases p with
    | a i =>
      rcases atl_get r i with ⟨h1, h2⟩ | ⟨v, u, h1, h2, h3⟩
      · simp only [h1, h2]; exact ih
      · simp only [h1, h2]; exact .cons h3 ih
    | d i =>
      rcases atl_get rd i with ⟨h1, h2⟩ | ⟨v, u, h1, h2, h3⟩
      · simp only [h1, h2]; exact ih
      · simp only [h1, h2]; exact .cons h3 ih
/-- no defaults are asked -/
theorem kbn_all {K : PySem.W.Frag} {fd : FuncData} {ps ks : List Str} {n : Nat} {pm : List Pm} (h : ∀ us ws : List Value, us.length = n → ws.length = ks.length → bindArgs fd ⟨us, ks.zip ws⟩ = pure (ps.zip (arr pm [] (us ++ ws)))) :
    KBn K fd ps n ks (fun us ws => arr pm [] (us ++ ws)) (fun vs zs => arr pm [] (vs ++ zs)) :=
  ⟨fun s us ws _ h1 h2 => .of_eq (h us ws h1 h2), fun r1 r2 => vals_arr (r1.append r2) .nil pm⟩
/-- the values of keywords -/
structure DK (G : G0) (X : Cx) (kws : List Keyword) (w : WN) : Prop where
  run : PK X kws (canA (gx X G) w)
theorem DK.ex {G : G0} {X : Cx} {kws : List Keyword} {w : WN} (h : DK G X kws w) : ∃ t, PK X kws t ∧ SndA (gx X G) t w := ⟨_, h.run, snd_canA⟩
theorem DK.of {G : G0} {X : Cx} {kws : List Keyword} {w : WN} (h : ∃ t, PK X kws t ∧ SndA (gx X G) t w) : DK G X kws w := by
  obtain ⟨t, h1, h2⟩ := h
  exact ⟨⟨fun pos pins s σ H Q I ⟨b, F, ρ, post, i, hw, q⟩ => h1.run pos pins s σ H Q I (h2 b σ H F ρ post i hw Q q)⟩⟩
section
variable {G : G0} {X : Cx} {a : Expr} {kws : List Keyword} {wa : WE} {wr : WN} {nm : Option Str} {kpos : Pos}
theorem dk_nil : DK G X [] wNil := .of ⟨_, pk_nil, fun b σ H F ρ post I h Q q => q [] H F ρ [] (Same.refl _) I .nil h⟩
theorem dk_cons (ha : DE G X a wa) (hr : DK G X kws wr) : DK G X (⟨nm, a, kpos⟩ :: kws) (wCons wa wr) := by
  obtain ⟨ta, a1, a2⟩ := ha.ex
  obtain ⟨tr, r1, r2⟩ := hr.ex
  exact .of ⟨_, pk_cons a1 r1, fun b σ H F ρ post I h Q q => a2 b σ H F ρ _ I h _ fun v H1 F1 ρ1 d s1 I1 at1 h1 => r2 b σ H1 F1 ρ1 _ I1 h1 _ fun vs H2 F2 ρ2 l s2 I2 at2 h2 =>
    q _ H2 F2 ρ2 _ (s1.trans s2) I2 (.cons (at1.up s2) at2) h2⟩
end
/-! ### f(e, .., k = v, ..) -/
def tCallN (n m : Nat) (sp : Sp) (gV : List V → List V → List V) (E : XK) (t tk : TA) : TE := fun σ H Q => t σ H fun vs H1 => tk σ H1 fun zs H2 => vs.length = n ∧ zs.length = m ∧ sp (gV vs zs) H2 Q E
section
variable {X : Cx} {CX : CXT} {k n : Nat} {f C : Addr} {fd : FuncData} {ps ks : List Str} {sp : Sp} {E : XK} {x : Str} {p pos : Pos} {e : Expr} {es : List Expr} {kws : List Keyword} {t tk : TA} {g : List Value → List Value → List Value} {gV : List V → List V → List V}
theorem pe_callN (F : FnOk X.prog X.w X.K X.mg X.base CX k f fd ps sp) (hr : Room k X.A) (hg : Gl X x) (hm : X.mg x = some (.ref f)) (hk : PySem.W.keepIn X.K (.ref f) = true) (hb : KBn X.K fd ps n ks g gV) (hx : Passes CX X E)
    (ha : PA X (e :: es) t) (hkw : PK X kws tk) (hall : (backToKw pos (keywordEach kws X.env)).all (·.1.isSome) = true := by rfl) (hks : (backToKw pos (keywordEach kws X.env)).filterMap (·.1) = ks := by rfl)
    (hdb : (x == ("__debug__" : Str)) = false := by decide) (he : starEach (e :: es) X.env = (false, eval e X.env) :: starEach es X.env := by rfl)
    (hpl : ((backTo pos (starEach (e :: es) X.env)).any (·.1) || (backToKw pos (keywordEach kws X.env)).any (·.1.isNone)) = false := by rfl) :
    PE X (.Call (.Name x p) (e :: es) kws pos) (tCallN n ks.length sp gV E t tk) := by
  refine ⟨fun pins s σ H Q I h => ?_⟩
  refine wpAny_Call_Name_kw (ld_glob I hg hm ?_ hdb)
  refine PySem.W.callWith_KW (h₀ := X.base) I.ok.mod.kin hk hall (thn (ha.run pos pins s σ H _ I h) fun us s1 ⟨vs, H1, I1, r, q⟩ => ?_) hpl he
  refine thn (hkw.run pos pins s1 σ H1 _ I1 q) fun ws s2 ⟨zs, H2, I2, rz, l1, l2, q2⟩ => ⟨I2.kIn, ?_⟩
  rw [hks]
  have r2 := hb.rel r rz
  refine wpAny_call (codeAny_mono (F.run X.A X.stack s2 H2 ⟨us, ks.zip ws⟩ (g us ws) (gV vs zs) Q E hr I2.env0 (hb.to s2 us ws I2.kIn (r.length.symm.trans l1) (rz.length.symm.trans l2)) r2 q2) fun r s' hq => ?_)
  cases r with
  | error e => exact hx pins σ H2 s2 e s' I2 hq
  | ok fl =>
    cases fl with
    | ret u => exact I2.after hq
    | next => exact False.elim hq
    | brk => exact False.elim hq
    | cont => exact False.elim hq
end
def wCallN (n m np : Nat) (pm : List Pm) (wf : WF) (dds : List D) (wa wk : WN) : WQ := fun ρ post => wa ρ fun ρ1 ds => wk ρ1 fun ρ2 zs => (ds.length = n ∧ zs.length = m ∧ (arr pm dds (ds ++ zs)).length = np) ∧ wf ((arr pm dds (ds ++ zs)).map .v) fun t _ => post ρ2 t
theorem snd_callN {G : Gx} {n m np : Nat} {pm : List Pm} {wf : WF} {dds : List D} {dvs : List V} {ta tk : TA} {wa wk : WN} {E : XK} (hd : ∀ F, AtL G F dds dvs) (ha : SndA G ta wa) (hk : SndA G tk wk) :
    SndQ G (tCallN n m (spOf G np wf) (fun vs zs => arr pm dvs (vs ++ zs)) E ta tk) (wCallN n m np pm wf dds wa wk) := fun b σ H F ρ post I hw Q q =>
  ha b σ H F ρ _ I hw _ fun vs H1 F1 ρ1 ds s1 I1 a1 h1 => hk b σ H1 F1 ρ1 _ I1 h1 _ fun zs H2 F2 ρ2 es s2 I2 a2 h2 => by
    obtain ⟨⟨l1, l2, l3⟩, h2⟩ := h2
    obtain ⟨⟨fps2, I2⟩⟩ := I2
    have all := atl_arr ((a1.up s2).append a2) (hd F2) pm
    refine ⟨by rw [← a1.length]; exact l1, by rw [← a2.length]; exact l2, F2, (arr pm dds (ds ++ es)).map .v, List.replicate (arr pm dds (ds ++ es)).length [], fun t _ => post ρ2 t, vals_st I2.fb.sub all, by rw [List.length_map]; exact l3, h2, fun v H' F' t us fps' fp s' I' a nd hf hp => ?_⟩
    obtain ⟨I3, up⟩ := I2.behind (S := []) (fpc := List.replicate (arr pm dds (ds ++ es)).length []) (Same.refl _) (by simp) (by simp) (by rw [frz_nil]; exact I'.fb)
    rw [unf_nil] at I3 up
    exact q v H' F' ρ2 fps2 t fp ((s1.trans s2).trans s') I3 a nd (fun x m => ⟨I2.fb.there x (hf x m).1, fun z => by
      obtain ⟨_, o, eo, _⟩ := I2.live x z
      rw [(hf x m).1] at eo; cases eo⟩) hp
/-- C(e, .., k = v, ..) -/
def wMakeN (c n m np : Nat) (pm : List Pm) (wf : WF) (dds : List D) (wa wk : WN) : WQ := fun ρ post => wa ρ fun ρ1 ds => wk ρ1 fun ρ2 zs => (ds.length = n ∧ zs.length = m ∧ (arr pm dds (ds ++ zs)).length + 1 = np) ∧ wf (.ins c [] :: (arr pm dds (ds ++ zs)).map .v) fun r us => match r, us with
  | .v .non, some t' :: _ => post ρ2 t'
  | _, _ => False
theorem snd_makeN {G : Gx} {c n m np : Nat} {pm : List Pm} {wf : WF} {dds : List D} {dvs : List V} {ta tk : TA} {wa wk : WN} {E : XK} {gV : List V → List V → List V} (hg : ∀ v vs zs, gV (v :: vs) zs = v :: arr pm dvs (vs ++ zs)) (hd : ∀ F, AtL G F dds dvs) (ha : SndA G ta wa) (hk : SndA G tk wk) :
    SndQ G (tMakeN (G.ca c) n m (spOf G np wf) gV E ta tk) (wMakeN c n m np pm wf dds wa wk) := fun b σ H F ρ post I hw Q q =>
  ha b σ H F ρ _ I hw _ fun vs H1 F1 ρ1 ds s1 I1 a1 h1 => hk b σ H1 F1 ρ1 _ I1 h1 _ fun zs H2 F2 ρ2 es s2 I2 a2 h2 => by
    obtain ⟨⟨l1, l2, l3⟩, h2⟩ := h2
    obtain ⟨⟨fps2, I2⟩⟩ := I2
    have all := atl_arr ((a1.up s2).append a2) (hd F2) pm
    refine ⟨by rw [← a1.length]; exact l1, by rw [← a2.length]; exact l2, fun x dx nx ndx nex => ?_⟩
    rw [hg]
    have g0 : Same H2 (upd (upd H2 dx (.own x)) x (.ins (G.ca c) dx [])) := (same_new ndx).trans (same_new (by rw [upd_ne (fun z => nex z.symm)]; exact nx))
    have fx : F2 x = none := I2.fb.sub.free nx
    refine ⟨F2, _, [x] :: List.replicate (arr pm dds (ds ++ es)).length [], _, vals_st1 (I2.fb.sub.trans g0) (.ins upd_same rfl (by simp) fx .nil) (by simp) all, by simpa using l3, h2, fun v H' F' r us fps' fp s' I' a nd hf hp => ?_⟩
    split at hp
    · rename_i t' us'
      cases a with
      | v a =>
        cases a
        refine ⟨rfl, ?_⟩
        have hc : ∀ a ∈ ([x] :: List.replicate (arr pm dds (ds ++ es)).length ([] : List Addr)).flatten, H2 a = none := fun a m => by
          simp at m
          subst m
          exact nx
        obtain ⟨I3, up⟩ := I2.behind (S := []) g0 (by simp) hc (by rw [frz_nil]; exact I'.fb)
        rw [unf_nil] at I3 up
        obtain ⟨w, ew, at'⟩ := I'.at_ (i := 0) (t := t') rfl
        simp at ew
        subst ew
        have new : ∀ y ∈ fpAt fps' 0, H2 y = none := fun y m => by
          rcases I'.mine y (fpAt_sub y m) with z | z
          · have z' : upd (upd H2 dx (.own x)) x (.ins (G.ca c) dx []) y = none := z
            cases e : H2 y with
            | none => rfl
            | some o => rw [g0 y o e] at z'; cases z'
          · exact hc y z
        exact q (.ref x) H' F' ρ2 fps2 t' _ ((s1.trans s2).trans s') I3 at' (fpAt_nodup I'.nodup) (fun y m => ⟨I2.fb.there y (new y m), fun z => by
          obtain ⟨_, o, eo, _⟩ := I2.live y z
          rw [new y m] at eo; cases eo⟩) hp
    · exact hp.elim
section
variable {G : G0} {X : Cx} {CX : CXT} {k n np c : Nat} {f : Addr} {fd : FuncData} {ps ks : List Str} {pm : List Pm} {wf : WF} {dds : List D} {dvs : List V} {E : XK} {x : Str} {p pos : Pos} {e : Expr} {es : List Expr} {kws : List Keyword} {wa wk : WN} {g : List Value → List Value → List Value} {gV : List V → List V → List V}
theorem dq_callN (F : FnOk X.prog X.w X.K X.mg X.base CX k f fd ps (spOf ⟨X.K, G.ca, G.cf⟩ np wf)) (hr : Room k X.A) (hg : Gl X x) (hm : X.mg x = some (.ref f)) (hk : PySem.W.keepIn X.K (.ref f) = true) (hb : KBn X.K fd ps n ks g (fun vs zs => arr pm dvs (vs ++ zs))) (hdd : ∀ F, AtL (gx X G) F dds dvs) (hx : Passes CX X E)
    (ha : DA G X (e :: es) wa) (hkw : DK G X kws wk) (hall : (backToKw pos (keywordEach kws X.env)).all (·.1.isSome) = true) (hks : (backToKw pos (keywordEach kws X.env)).filterMap (·.1) = ks)
    (hdb : (x == ("__debug__" : Str)) = false) (he : starEach (e :: es) X.env = (false, eval e X.env) :: starEach es X.env)
    (hpl : ((backTo pos (starEach (e :: es) X.env)).any (·.1) || (backToKw pos (keywordEach kws X.env)).any (·.1.isNone)) = false) :
    DQ G X (.Call (.Name x p) (e :: es) kws pos) (wCallN n ks.length np pm wf dds wa wk) := .of ⟨_, pe_callN F hr hg hm hk hb hx ha.run hkw.run hall hks hdb he hpl, snd_callN hdd snd_canA snd_canA⟩
theorem dq_makeN (M : Mk X.K (G.ca c) f) (F : FnOk X.prog X.w X.K X.mg X.base CX k f fd ps (spOf ⟨X.K, G.ca, G.cf⟩ np wf)) (hr : Room (k + 1) X.A) (hg : Gl X x) (hm : X.mg x = some (.ref (G.ca c))) (hb : KBn X.K fd ps (n + 1) ks g gV) (hgV : ∀ v vs zs, gV (v :: vs) zs = v :: arr pm dvs (vs ++ zs)) (hdd : ∀ F, AtL (gx X G) F dds dvs) (hx : Passes CX X E)
    (ha : DA G X (e :: es) wa) (hkw : DK G X kws wk) (hall : (backToKw pos (keywordEach kws X.env)).all (·.1.isSome) = true) (hks : (backToKw pos (keywordEach kws X.env)).filterMap (·.1) = ks)
    (hdb : (x == ("__debug__" : Str)) = false) (he : starEach (e :: es) X.env = (false, eval e X.env) :: starEach es X.env)
    (hpl : ((backTo pos (starEach (e :: es) X.env)).any (·.1) || (backToKw pos (keywordEach kws X.env)).any (·.1.isNone)) = false) :
    DQ G X (.Call (.Name x p) (e :: es) kws pos) (wMakeN c n ks.length np pm wf dds wa wk) := .of ⟨_, pe_makeN M F hr hg hm hb hx ha.run hkw.run hall hks hdb he hpl, snd_makeN (G := gx X G) hgV hdd snd_canA snd_canA⟩
end
end J

set_option Elab.async false
set_option linter.all false
set_option maxRecDepth 100000
set_option maxHeartbeats 4000000
namespace J
open PySem PySem.Spec PyProof.Rows L2
section
variable {G : G0} {X : Cx} {a c e e2 : Expr} {wa wb we we2 : WE} {g : PuF} {p pos p2 pos2 : Pos}
/-- tests of what is only looked at -/
theorem dt_cmpV {op : CmpOp} {wr : R2D} (ho : DOp G X (compareOp op) wr) (fl : FlO wr) (ha : DE G X a wa) (hb : DV G X c wb) (hm : behindInMarks op c = false) : DT G X (.Compare a [op] [c] pos) (wTst (wOp wr wa wb)) := by
  obtain ⟨r, o1, o2⟩ := ho.ex
  obtain ⟨ta, a1, a2⟩ := ha.ex
  exact .of ⟨_, pt_cmpR o1 a1 hb.run hm, snd_tst fun b σ H F ρ post I hw Q q => a2 b σ H F ρ _ I hw _ fun x H1 F1 ρ1 d1 s1 I1 b1 h1 => ⟨b, F1, ρ1, _, I1, h1, fun y H2 F2 ρ2 d2 s2 I2 b2 h2 => snd_oV o2 fl (s1.trans s2) I2 ((b1.up s2).up I2.fb.sub) b2 h2 q⟩⟩
theorem dt_cmpL {op : CmpOp} {wr : R2D} (ho : DOp G X (compareOp op) wr) (fl : FlO wr) (ha : DV G X a wa) (hb : DPu G X c g) (hm : behindInMarks op c = false) : DT G X (.Compare a [op] [c] pos) (wTst (wOpL wr wa g)) := by
  obtain ⟨r, o1, o2⟩ := ho.ex
  refine .of ⟨_, pt_cmpR o1 ha.run hb.run hm, snd_tst fun b σ H F ρ post I hw Q q => ⟨b, F, ρ, _, I, hw, fun x H1 F1 ρ1 d1 s1 I1 b1 h1 => ?_⟩⟩
  split at h1
  · rename_i d2 e2
    refine ⟨b, F1, ρ1, d2, I1, e2, fun v F2 H2 g2 a2 => ?_⟩
    exact snd_oV o2 fl (s1.trans g2.f) (I1.grow g2) (b1.up g2.h) (a2.up g2.sub) h1 q
  · exact h1.elim
/-- list(range(a, b)) -/
def wRng2L (wa wb : WE) : WN := fun ρ post => wa ρ fun ρ1 x => wb ρ1 fun ρ2 y => match x, y with
  | .int i, .int j => (j ≤ 1000000 ∧ -1000000 ≤ j ∧ i ≤ 1000000 ∧ -1000000 ≤ i) ∧ post ρ2 (intsD i j)
  | _, _ => False
theorem dn_listR2 (hc : X.calm = true) (hg : Gl X "list") (hm : X.mg "list" = none) (hg2 : Gl X "range") (hm2 : X.mg "range" = none) (h : DE G X e we) (h2 : DE G X e2 we2)
    (nb : starEach [e, e2] X.env = (false, eval e X.env) :: starEach [e2] X.env) (nb2 : starEach [e2] X.env = (false, eval e2 X.env) :: starEach [] X.env) (hp : (backTo pos2 (starEach [e2] X.env)).any (·.1) = false) :
    DN G X (.Call (.Name "list" p) [.Call (.Name "range" p2) [e, e2] [] pos2] [] pos) (wRng2L we we2) := by
  obtain ⟨t, h1, h3⟩ := h.ex
  obtain ⟨t2, h4, h5⟩ := h2.ex
  refine .of ⟨_, pe_listRg hc hg hm (prg_2 hg2 hm2 h1 h4 nb nb2 hp) rfl, fun b σ H F ρ post I hw Q q => h3 b σ H F ρ _ I hw _ fun v H1 F1 ρ1 d s1 I1 a1 k1 => h5 b σ H1 F1 ρ1 _ I1 k1 _ fun u H2 F2 ρ2 d2 s2 I2 a2 k2 => ?_⟩
  split at k2
  · rename_i i j
    cases a1
    cases a2
    refine ⟨i, j, rfl, rfl, ⟨by omega, by omega, by omega, by omega, by omega⟩, fun r hr => ?_⟩
    exact q_new I2 hr (intsD_at i _) (s1.trans s2) q k2.2
  · exact k2.elim
/-- + of tuples, of texts -/
def wAddT : R2D := fun x y post => match x, y with
  | .tup l, .tup m => l.length + m.length ≤ 1000000 ∧ post (.tup (l ++ m))
  | _, _ => False
theorem do_addT : DOp G X (binaryOp .Add) wAddT := ⟨_, op_catA, fun F H x y d1 d2 post s a1 a2 h Q q => by
  unfold wAddT at h
  split at h
  · rename_i l m
    cases a1 with
    | @tup r vs _ hs ha =>
      cases a2 with
      | @tup r2 ws _ hs2 ha2 =>
        have l1 := ha.length
        have l2 := ha2.length
        refine ⟨r, r2, vs, ws, rfl, rfl, same_t s hs, same_t s hs2, by rw [← l1, ← l2]; exact sz h.1, fun e => ?_, fun _ e => ?_, fun _ _ p hp => ?_⟩
        · subst e
          cases ha
          exact q _ H F _ (Grow.refl s) (.tup hs2 ha2) h.2
        · subst e
          cases ha2
          have := h.2
          rw [List.append_nil] at this
          exact q _ H F _ (Grow.refl s) (.tup hs ha) this
        · have g := Grow.add (o := .tup (vs ++ ws)) s hp
          exact q _ _ _ _ g (.tup (.inl (.inl upd_same)) ((ha.append ha2).up g.f)) h.2
  · exact h.elim⟩
def wAddS : R2D := fun x y post => match x, y with
  | .str l, .str m => l.length + m.length ≤ 1000000 ∧ post (.str (l ++ m))
  | _, _ => False
theorem do_addS : DOp G X (binaryOp .Add) wAddS := ⟨_, op_add_str, fun F H x y d1 d2 post s a1 a2 h Q q => by
  unfold wAddS at h
  split at h
  · cases a1
    cases a2
    exact ⟨_, _, rfl, rfl, sz h.1, q _ H F _ (Grow.refl s) (.str _) h.2⟩
  · exact h.elim⟩
/-- bool(x) -/
def wBool1 : List D → (D → Prop) → Prop := w1 fun d post => match d with
  | .int i => post (.bl (i != 0))
  | .bl k => post (.bl k)
  | _ => False
theorem dc_bool : DC G X (.type "bool") wBool1 := ⟨_, call_bool1, sndc_1 fun F H v d post s a hw Q q => by
  split at hw
  · cases a; exact .inl ⟨_, rfl, q _ H F _ (Grow.refl s) (.bl _) hw⟩
  · cases a; exact .inr ⟨_, rfl, q _ H F _ (Grow.refl s) (.bl _) hw⟩
  · exact hw.elim⟩
end
end J

set_option Elab.async false
set_option linter.all false
set_option maxRecDepth 100000
set_option maxHeartbeats 4000000
namespace J
open PySem PySem.Spec PyProof.Rows L2

/-! ### answers -/
inductive R (α : Type) where
  | ok (a : α)
  | exc (t : T)
  | stk
def R.bind {α β : Type} (r : R α) (f : α → R β) : R β := match r with
  | .ok a => f a
  | .exc t => .exc t
  | .stk => .stk
def R.bnd {α β γ : Type} (r : R (α × β)) (f : α → β → R γ) : R γ := match r with
  | .ok (a, b) => f a b
  | .exc t => .exc t
  | .stk => .stk
def R.of {α : Type} : Option α → R α
  | some a => .ok a
  | none => .stk
theorem bind_ok {α β : Type} {r : R α} {f : α → R β} {b : β} : r.bind f = .ok b ↔ ∃ a, r = .ok a ∧ f a = .ok b := by
  cases r with
  | ok a => exact ⟨fun h => ⟨a, rfl, h⟩, fun ⟨_, e, h⟩ => (by cases e; exact h)⟩
  | exc t => exact ⟨fun h => (by cases h), fun ⟨_, e, _⟩ => (by cases e)⟩
  | stk => exact ⟨fun h => (by cases h), fun ⟨_, e, _⟩ => (by cases e)⟩
theorem bnd_ok {α β γ : Type} {r : R (α × β)} {f : α → β → R γ} {c : γ} : r.bnd f = .ok c ↔ ∃ a b, r = .ok (a, b) ∧ f a b = .ok c := by
  cases r with
  | ok a => exact ⟨fun h => ⟨a.1, a.2, rfl, h⟩, fun ⟨_, _, e, h⟩ => (by cases e; exact h)⟩
  | exc t => exact ⟨fun h => (by cases h), fun ⟨_, _, e, _⟩ => (by cases e)⟩
  | stk => exact ⟨fun h => (by cases h), fun ⟨_, _, e, _⟩ => (by cases e)⟩
theorem of_ok {α : Type} {o : Option α} {a : α} : R.of o = .ok a ↔ o = some a := by
  cases o with
  | none => exact ⟨fun h => (by cases h), fun h => (by cases h)⟩
  | some x => exact ⟨fun h => (by cases h; rfl), fun h => (by cases h; rfl)⟩
/-- the reading of an evaluation -/
def wR {α : Type} (ev : Env → R (Env × α)) : Env → (Env → α → Prop) → Prop := fun ρ post => ∃ ρ1 a, ev ρ = .ok (ρ1, a) ∧ post ρ1 a

/-! ### the code -/
inductive Bop where
  | add | sub | mul | fdiv | mod | pow | addT | addS
inductive Cop where
  | lt | le | gt | ge | eq | ne | eqI | neI | isN | notN | inF | ninF | inD | ninD
inductive Bf where
  | len | sum | max | min | all | any | abs | max2 | min2 | int | tuple | divmod | bool
inductive Ux where
  | var (i : Nat)
  | int (i : Int)
  | str (s : Str)
  | nil
  | neg (a : Ux)
  | add (a b : Ux)
  | sub (a b : Ux)
inductive Px where
  | var (i : Nat)
  | ix (p : Px) (u : Ux)
  | fld (p : Px) (f : Str)
mutual
inductive Tg where
  | nm (i : Nat)
  | tup (l : Tgs)
  | set (p : Px) (u : Ux)
  | fld (p : Px) (f : Str)
inductive Tgs where
  | nil
  | cons (g : Tg) (r : Tgs)
end
mutual
inductive Ex where
  | var (i : Nat)
  | con (d : D)
  | op (o : Bop) (a b : Ex)
  | cmp (o : Cop) (a b : Ex)
  | chn (o o' : Cop) (a b c : Ex)
  | neg (a : Ex)
  | band (a b : Ex)
  | bor (a b : Ex)
  | bone (a : Ex)
  | bnot (a : Ex)
  | ife (t : Tx) (a b : Ex)
  | fz (q : Qx)
  | tup (l : As)
  | cb (f : Bf) (l : As)
  | cbv (f : Bf) (v : Vx)
  | cmpv (o : Cop) (a : Ex) (v : Vx)
  | cmpl (o : Cop) (v : Vx) (u : Ux)
  | ix (a b : Ex)
  | slt (a : Ex) (lo hi : Ox)
  | fld (a : Ex) (f : Str)
  | pth (p : Px)
  | popAt (i : Nat) (e : Ex)
  | remI (i : Nat) (e : Ex)
  | isi (a : Ex) (t : Kt)
  | isi2 (a : Ex) (t t2 : Kt)
  | idx (o e : Ex)
  | cnt (o e : Ex)
inductive Qx where
  | v (e : Ex)
  | dsp (l : Qs)
  | lst (l : As)
  | lc (it : Ix) (g : Tg) (ifs : Ts) (el : Qx) (own : List (Str × Nat))
  | lc2 (it : Ix) (g : Tg) (ifs : Ts) (it1 : Ix) (g1 : Tg) (ifs1 : Ts) (el : Qx) (own : List (Str × Nat)) (vs1 : List Nat)
  | call (vw : Bool) (f : Nat) (l : Av) (dd : List D)
  | callM (i f : Nat) (l : As) (dd : List D)
  | make (vw : Bool) (c f : Nat) (l : Av) (dd : List D)
  | list (l : As)
  | lrng (e : Ex)
  | lrng2 (e e2 : Ex)
  | sll (a : Ex) (lo hi : Ox)
  | cat (a b : Ex)
  | rep (a b : Ex)
  | callK (f : Nat) (l kw : As) (pm : List Pm) (dd : List D)
  | makeK (c f : Nat) (l kw : As) (pm : List Pm) (dd : List D)
inductive Tx where
  | cmp (o : Cop) (a b : Ex)
  | cmpv (o : Cop) (a : Ex) (v : Vx)
  | cmpl (o : Cop) (v : Vx) (u : Ux)
  | chn (o o' : Cop) (a b c : Ex)
  | val (e : Ex)
  | not (t : Tx)
  | bw (w : Wx)
inductive Wx where
  | and1 (t : Tx)
  | or1 (t : Tx)
  | and (t : Tx) (w : Wx)
  | or (t : Tx) (w : Wx)
inductive Ox where
  | no
  | so (e : Ex)
inductive As where
  | nil
  | cons (e : Ex) (r : As)
  | star (e : Ex) (r : As)
inductive Av where
  | nil
  | cons (e : Ex) (r : Av)
  | vw (i : Nat) (r : Av)
inductive Qs where
  | nil
  | cons (q : Qx) (r : Qs)
inductive Vx where
  | e (e : Ex)
  | p (p : Px)
inductive Ix where
  | sq (e : Ex)
  | zip (l : As)
  | zip3 (l : As)
  | enum (l : As)
  | rng1 (l : As)
  | rng2 (l : As)
inductive Ts where
  | nil
  | one (t : Tx)
end
mutual
inductive St where
  | set (i : Nat) (e : Ex)
  | setq (i : Nat) (q : Qx)
  | setc (i : Nat) (q : Qx)
  | asg (g : Tg) (e : Ex)
  | ret (e : Ex)
  | retq (q : Qx)
  | retN
  | exp (e : Ex)
  | ite (t : Tx) (a b : Sts)
  | for (it : Ix) (g : Tg) (b : Sts)
  | wh (t : Tx) (b : Sts)
  | pass
  | brk
  | cnt
  | never
  | app (i : Nat) (q : Qx)
  | appP (p : Px) (u : Ux)
  | ext (i : Nat) (e : Ex)
  | fld (p : Px) (f : Str) (q : Qx)
  | par (i j : Nat) (l : Qs)
  | par3 (i j k : Nat) (l : Qs)
  | unp (l : List Nat) (q : Qs)
inductive Sts where
  | nil
  | cons (s : St) (r : Sts)
end

/-! ### what the operators do -/
instance (i j : Int) : Decidable (CMul i j) := by unfold CMul; infer_instance
instance (i j : Int) : Decidable (CDiv i j) := by unfold CDiv; infer_instance
instance (i j : Int) : Decidable (CPow i j) := by unfold CPow; infer_instance
def i2 (g : Int → Int → D) (x y : D) : R D := match x, y with
  | .int i, .int j => .ok (g i j)
  | _, _ => .stk
def i2c (c : Int → Int → Bool) (g : Int → Int → D) (x y : D) : R D := match x, y with
  | .int i, .int j => (match c i j with
    | true => .ok (g i j)
    | false => .stk)
  | _, _ => .stk
def addTF (x y : D) : R D := match x, y with
  | .tup l, .tup m => if l.length + m.length ≤ 1000000 then .ok (.tup (l ++ m)) else .stk
  | _, _ => .stk
def addSF (x y : D) : R D := match x, y with
  | .str l, .str m => if l.length + m.length ≤ 1000000 then .ok (.str (l ++ m)) else .stk
  | _, _ => .stk
def opF (o : Bop) : D → D → R D := match o with
  | .add => i2 fun i j => .int (i + j)
  | .sub => i2 fun i j => .int (i - j)
  | .mul => i2c (fun i j => decide (CMul i j)) fun i j => .int (i * j)
  | .fdiv => i2c (fun i j => decide (CDiv i j)) fun i j => .int (i / j)
  | .mod => i2c (fun _ j => decide (0 < j)) fun i j => .int (i % j)
  | .pow => i2c (fun i j => decide (CPow i j)) fun i j => .int (i ^ j.toNat)
  | .addT => addTF
  | .addS => addSF
def eqF (x y : D) : R D := match shp x && shp y with
  | true => .ok (.bl (deq x y))
  | false => .stk
def neF (x y : D) : R D := match shp x && shp y with
  | true => .ok (.bl (!deq x y))
  | false => .stk
def isNF (x y : D) : R D := match y with
  | .non => .ok (.bl (isNon x))
  | _ => .stk
def notNF (x y : D) : R D := match y with
  | .non => .ok (.bl (!isNon x))
  | _ => .stk
def inFF (neg : Bool) (x y : D) : R D := match items y with
  | some l => (match flat x && l.all flat with
    | true => .ok (.bl (if neg then !l.any fun z => eqFl z x else l.any fun z => eqFl z x))
    | false => .stk)
  | none => .stk
def inDF (neg : Bool) (x y : D) : R D := match y with
  | .lst l => (match shp x && shp (.lst l) with
    | true => .ok (.bl (if neg then !l.any fun z => deq z x else l.any fun z => deq z x))
    | false => .stk)
  | _ => .stk
def cmpF (o : Cop) : D → D → R D := match o with
  | .lt => i2 fun i j => .bl (decide (i < j))
  | .le => i2 fun i j => .bl (decide (i ≤ j))
  | .gt => i2 fun i j => .bl (decide (j < i))
  | .ge => i2 fun i j => .bl (decide (j ≤ i))
  | .eqI => i2 fun i j => .bl (decide (i = j))
  | .neI => i2 fun i j => .bl (!decide (i = j))
  | .eq => eqF
  | .ne => neF
  | .isN => isNF
  | .notN => notNF
  | .inF => inFF false
  | .ninF => inFF true
  | .inD => inDF false
  | .ninD => inDF true
def maxI : Int → List Int → Int
  | m, [] => m
  | m, x :: r => maxI (if x > m then x else m) r
def minI : Int → List Int → Int
  | m, [] => m
  | m, x :: r => minI (if x < m then x else m) r
def intsF (d : D) : R (List Int) := match d with
  | .lst l => R.of (intsOf l)
  | _ => .stk
def blsF (d : D) : R (List Bool) := match d with
  | .lst l => R.of (blsOf l)
  | _ => .stk
def on1 (f : D → R D) (l : List D) : R D := match l with
  | [d] => f d
  | _ => .stk
def on2 (f : D → D → R D) (l : List D) : R D := match l with
  | [d, e] => f d e
  | _ => .stk
def maxF (d : D) : R D := (intsF d).bind fun ns => match ns with
  | [] => .stk
  | n :: r => .ok (.int (maxI n r))
def minF (d : D) : R D := (intsF d).bind fun ns => match ns with
  | [] => .stk
  | n :: r => .ok (.int (minI n r))
def absF (d : D) : R D := match d with
  | .int i => .ok (.int (if i < 0 then -i else i))
  | _ => .stk
def intF (d : D) : R D := match d with
  | .int i => .ok (.int i)
  | .bl k => .ok (.int (if k = true then 1 else 0))
  | _ => .stk
def boolF (d : D) : R D := match d with
  | .int i => .ok (.bl (i != 0))
  | .bl k => .ok (.bl k)
  | _ => .stk
def bfF (f : Bf) : List D → R D := match f with
  | .len => on1 fun d => (R.of (items d)).bind fun l => .ok (.int l.length)
  | .sum => on1 fun d => (intsF d).bind fun ns => .ok (.int ns.sum)
  | .max => on1 maxF
  | .min => on1 minF
  | .all => on1 fun d => (blsF d).bind fun ns => .ok (.bl (ns.all id))
  | .any => on1 fun d => (blsF d).bind fun ns => .ok (.bl (ns.any id))
  | .abs => on1 absF
  | .max2 => on2 (i2 fun i j => .int (if j > i then j else i))
  | .min2 => on2 (i2 fun i j => .int (if j < i then j else i))
  | .int => on1 intF
  | .tuple => on1 fun d => (R.of (items d)).bind fun l => .ok (.tup l)
  | .divmod => on2 (i2c (fun i j => decide (CDiv i j)) fun i j => .tup [.int (i / j), .int (i % j)])
  | .bool => on1 boolF
def findIx (y : D) : List D → Nat → Option Nat
  | [], _ => none
  | z :: r, j => match deq z y with
    | true => some j
    | false => findIx y r (j + 1)
def isiF (kt : Kt → Kt → Option Bool) (t : Kt) (d : D) : R D := (R.of (tyK d)).bind fun a => (R.of (kt a t)).bind fun k => .ok (.bl k)
def isi2F (kt : Kt → Kt → Option Bool) (t t2 : Kt) (d : D) : R D := (R.of (tyK d)).bind fun a => (R.of (kt a t)).bind fun k => (R.of (kt a t2)).bind fun k2 => .ok (.bl (k || k2))
def idxF (l : List D) (y : D) : R D := match shp (.lst l) && shp y with
  | true => (R.of (findIx y l 0)).bind fun j => .ok (.int (j : Nat))
  | false => .stk
def cntF (l : List D) (y : D) : R D := match shp (.lst l) && shp y with
  | true => .ok (.int (l.countP fun z => deq z y : Nat))
  | false => .stk

/-! ### the evaluation -/
structure Or where
  cf : Nat → List T → R (T × List (Option T))
  fx : Str → Nat → Option Nat
  fu : Nat
  kt : Kt → Kt → Option Bool
def ofU : Ux → PuF
  | .var i => fun ρ => match nth ρ i with
    | some (.v d) => some d
    | _ => none
  | .int i => fun _ => some (.int i)
  | .str s => fun _ => some (.str s)
  | .nil => fun _ => some (.lst [])
  | .neg a => puNeg (ofU a)
  | .add a b => puOp (fun i j => i + j) (ofU a) (ofU b)
  | .sub a b => puOp (fun i j => i - j) (ofU a) (ofU b)
def rootP : Px → Nat
  | .var i => i
  | .ix p _ => rootP p
  | .fld p _ => rootP p
def ofP (fx : Str → Nat → Option Nat) : Px → PthF
  | .var _ => pfNil
  | .ix p u => pfIx (ofP fx p) (ofU u)
  | .fld p f => pfFld (fx f) (ofP fx p)
def evV (i : Nat) (ρ : Env) : R (Env × D) := match nth ρ i with
  | some (.v d) => .ok (ρ, d)
  | some t => .ok (ρ.set i (some (.v (toD t))), toD t)
  | none => .stk
def evP (fx : Str → Nat → Option Nat) (p : Px) (ρ : Env) : R (Env × D) :=
  (R.of (nth ρ (rootP p))).bind fun t => (R.of (ofP fx p t ρ)).bind fun js => (R.of (getP t js)).bind fun s => match s with
    | .v d => .ok (ρ, d)
    | s => .ok (ρ.set (rootP p) (some (setP t js (.v (toD s)))), toD s)
/-- a place is looked at -/
def pkP (fx : Str → Nat → Option Nat) (p : Px) (ρ : Env) : R (Env × D) :=
  (R.of (nth ρ (rootP p))).bind fun t => (R.of (ofP fx p t ρ)).bind fun js => (R.of (getP t js)).bind fun s => .ok (ρ, toD s)
mutual
def evG (fx : Str → Nat → Option Nat) : Tg → D → Env → R Env
  | .nm i, d, ρ => .ok (ρ.set i (some (.v d)))
  | .tup l, d, ρ => match d with
    | .tup ds => evGs fx l ds ρ
    | _ => .stk
  | .set p u, d, ρ => (R.of (nth ρ (rootP p))).bind fun t => (R.of (ofP fx p t ρ)).bind fun js => match getP t js, ofU u ρ with
    | some (.lst l), some (.int n) => (R.of (ixN l.length n)).bind fun j => .ok (ρ.set (rootP p) (some (setP t js (.lst (l.set j (.v d))))))
    | _, _ => .stk
  | .fld p f, d, ρ => (R.of (nth ρ (rootP p))).bind fun t => (R.of (ofP fx p t ρ)).bind fun js => match getP t js with
    | some (.ins c l) => (R.of (fx f c)).bind fun j => (R.of (putAt l j (.v d))).bind fun l' => if l.length < 900 then .ok (ρ.set (rootP p) (some (setP t js (.ins c l')))) else .stk
    | _ => .stk
def evGs (fx : Str → Nat → Option Nat) : Tgs → List D → Env → R Env
  | .nil, [], ρ => .ok ρ
  | .cons g r, d :: ds, ρ => (evG fx g d ρ).bind fun ρ1 => evGs fx r ds ρ1
  | _, _, _ => .stk
end
def ownV (own : List (Str × Nat)) : List Nat := own.map (·.2)
/-- the loop of a comprehension -/
def lcJ (vs : List Nat) (g : D → Env → R Env) (tt : Env → R (Env × Bool)) (te : Env → R (Env × T)) : List D → List T → Env → R (Env × List T)
  | [], acc, ρ => .ok (ρ, acc)
  | d :: ds, acc, ρ => (g d ρ).bind fun ρ2 => (tt ρ2).bnd fun ρ3 k => match k with
    | true => (te ρ3).bnd fun ρ4 x => lcJ vs g tt te ds (acc ++ [x]) (wipeB ρ4 vs)
    | false => lcJ vs g tt te ds acc (wipeB ρ3 vs)
/-- the inner loop of a comprehension of two clauses -/
def lcI (vs1 : List Nat) (g1 : D → Env → R Env) (tt1 : Env → R (Env × Bool)) (te : Env → R (Env × T)) : List D → List T → Env → R (Env × List T)
  | [], acc, ρ => .ok (ρ, acc)
  | d :: ds, acc, ρ => (g1 d ρ).bind fun ρ5 => (tt1 ρ5).bnd fun ρ6 k => match k with
    | true => (te ρ6).bnd fun ρ7 x => if acc.length < 1000000 then lcI vs1 g1 tt1 te ds (acc ++ [x]) (wipeB ρ7 vs1) else .stk
    | false => lcI vs1 g1 tt1 te ds acc (wipeB ρ6 vs1)
def lcJ2 (vs : List Nat) (g : D → Env → R Env) (tt : Env → R (Env × Bool)) (it1 : Env → R (Env × List D)) (vs1 : List Nat) (g1 : D → Env → R Env) (tt1 : Env → R (Env × Bool)) (te : Env → R (Env × T)) : List D → List T → Env → R (Env × List T)
  | [], acc, ρ => .ok (ρ, acc)
  | d :: ds, acc, ρ => (g d ρ).bind fun ρ2 => (tt ρ2).bnd fun ρ3 k => match k with
    | true => (it1 ρ3).bnd fun ρ4 es => (lcI vs1 g1 tt1 te es acc (wipeB ρ4 vs1)).bnd fun ρ5 acc1 => lcJ2 vs g tt it1 vs1 g1 tt1 te ds acc1 (wipeB ρ5 vs)
    | false => lcJ2 vs g tt it1 vs1 g1 tt1 te ds acc (wipeB ρ3 vs)
mutual
def evE (O : Or) : Ex → Env → R (Env × D)
  | .var i, ρ => evV i ρ
  | .con d, ρ => .ok (ρ, d)
  | .op o a b, ρ => (evE O a ρ).bnd fun ρ1 x => (evE O b ρ1).bnd fun ρ2 y => (opF o x y).bind fun z => .ok (ρ2, z)
  | .cmp o a b, ρ => (evE O a ρ).bnd fun ρ1 x => (evE O b ρ1).bnd fun ρ2 y => (cmpF o x y).bind fun z => .ok (ρ2, z)
  | .chn o o' a b c, ρ => (evE O a ρ).bnd fun ρ1 x => (evE O b ρ1).bnd fun ρ2 y => (cmpF o x y).bind fun z => match z with
    | .bl true => (evE O c ρ2).bnd fun ρ3 w => (cmpF o' y w).bind fun z => .ok (ρ3, z)
    | .bl false => .ok (ρ2, .bl false)
    | _ => .stk
  | .neg a, ρ => (evE O a ρ).bnd fun ρ1 x => match x with
    | .int i => .ok (ρ1, .int (-i))
    | _ => .stk
  | .band a b, ρ => (evE O a ρ).bnd fun ρ1 x => match x with
    | .bl true => evE O b ρ1
    | .bl false => .ok (ρ1, .bl false)
    | _ => .stk
  | .bor a b, ρ => (evE O a ρ).bnd fun ρ1 x => match x with
    | .bl true => .ok (ρ1, .bl true)
    | .bl false => evE O b ρ1
    | _ => .stk
  | .bone a, ρ => evE O a ρ
  | .bnot a, ρ => (evE O a ρ).bnd fun ρ1 x => match x with
    | .bl k => .ok (ρ1, .bl (!k))
    | _ => .stk
  | .ife t a b, ρ => (evT O t ρ).bnd fun ρ1 k => match k with
    | true => evE O a ρ1
    | false => evE O b ρ1
  | .fz q, ρ => (evQ O q ρ).bnd fun ρ1 t => .ok (ρ1, toD t)
  | .tup l, ρ => (evA O l ρ).bnd fun ρ1 ds => if ds.length ≤ 1000000 then .ok (ρ1, .tup ds) else .stk
  | .cb f l, ρ => (evA O l ρ).bnd fun ρ1 ds => (bfF f ds).bind fun z => .ok (ρ1, z)
  | .cbv f v, ρ => (evVx O v ρ).bnd fun ρ1 d => (bfF f [d]).bind fun z => .ok (ρ1, z)
  | .cmpv o a v, ρ => (evE O a ρ).bnd fun ρ1 x => (evVx O v ρ1).bnd fun ρ2 y => (cmpF o x y).bind fun z => .ok (ρ2, z)
  | .cmpl o v u, ρ => (evVx O v ρ).bnd fun ρ1 x => (R.of (ofU u ρ1)).bind fun y => (cmpF o x y).bind fun z => .ok (ρ1, z)
  | .ix a b, ρ => (evE O a ρ).bnd fun ρ1 x => (evE O b ρ1).bnd fun ρ2 y => (R.of (items x)).bind fun l => match y with
    | .int i => (R.of (atI l i)).bind fun d => .ok (ρ2, d)
    | _ => .stk
  | .slt a lo hi, ρ => (evE O a ρ).bnd fun ρ1 x => (evO O lo ρ1).bnd fun ρ2 l => (evO O hi ρ2).bnd fun ρ3 u => match x with
    | .tup xs => .ok (ρ3, .tup (cutD xs l u))
    | _ => .stk
  | .fld a f, ρ => (evE O a ρ).bnd fun ρ1 x => match x with
    | .obj c l => (R.of (O.fx f c)).bind fun j => (R.of l[j]?).bind fun d => .ok (ρ1, d)
    | _ => .stk
  | .pth p, ρ => evP O.fx p ρ
  | .popAt i e, ρ => match nth ρ i with
    | some (.lst _) => (evE O e ρ).bnd fun ρ1 d => (match nth ρ1 i, d with
      | some (.lst l), .int k => (R.of (ixN l.length k)).bind fun j => (match l[j]? with
        | some (.v x) => if k ≤ 1000000 ∧ -1000000 ≤ k then .ok (ρ1.set i (some (.lst (l.eraseIdx j))), x) else .stk
        | _ => .stk)
      | _, _ => .stk)
    | _ => .stk
  | .remI i e, ρ => match nth ρ i with
    | some (.lst _) => (evE O e ρ).bnd fun ρ1 d => (match nth ρ1 i, d with
      | some (.lst l), .int k => (R.of (intsT l)).bind fun ns => if k ∈ ns then .ok (ρ1.set i (some (.lst ((ns.erase k).map fun n => .v (.int n)))), .non) else .stk
      | _, _ => .stk)
    | _ => .stk
  | .isi a t, ρ => (evE O a ρ).bnd fun ρ1 d => (isiF O.kt t d).bind fun z => .ok (ρ1, z)
  | .isi2 a t t2, ρ => (evE O a ρ).bnd fun ρ1 d => (isi2F O.kt t t2 d).bind fun z => .ok (ρ1, z)
  | .idx o e, ρ => (evE O o ρ).bnd fun ρ1 x => match x with
    | .lst l => (evE O e ρ1).bnd fun ρ2 y => (idxF l y).bind fun z => .ok (ρ2, z)
    | _ => .stk
  | .cnt o e, ρ => (evE O o ρ).bnd fun ρ1 x => match x with
    | .lst l => (evE O e ρ1).bnd fun ρ2 y => (cntF l y).bind fun z => .ok (ρ2, z)
    | _ => .stk
def evQ (O : Or) : Qx → Env → R (Env × T)
  | .v e, ρ => (evE O e ρ).bnd fun ρ1 d => .ok (ρ1, .v d)
  | .dsp l, ρ => (evQs O l ρ).bnd fun ρ1 ts => if ts.length ≤ 1000000 then .ok (ρ1, .lst ts) else .stk
  | .lst l, ρ => (evA O l ρ).bnd fun ρ1 ds => if ds.length ≤ 1000000 then .ok (ρ1, .lst (ds.map .v)) else .stk
  | .lc it g ifs el own, ρ => (evI O it ρ).bnd fun ρ1 ds => (lcJ (ownV own) (evG O.fx g) (evTs O ifs) (evQ O el) ds [] (wipeB ρ1 (ownV own))).bnd fun ρ2 acc => .ok (mrg 0 (ownV own) ρ1 ρ2, .lst acc)
  | .lc2 it g ifs it1 g1 ifs1 el own vs1, ρ => (evI O it ρ).bnd fun ρ1 ds => (lcJ2 (ownV own) (evG O.fx g) (evTs O ifs) (evI O it1) vs1 (evG O.fx g1) (evTs O ifs1) (evQ O el) ds [] (wipeB ρ1 (ownV own))).bnd fun ρ2 acc => .ok (mrg 0 (ownV own) ρ1 ρ2, .lst acc)
  | .call vw f l dd, ρ => (evAv O l ρ).bnd fun ρ1 ds => (O.cf f ((ds ++ dd).map .v)).bnd fun t _ => if vw = true ∧ noLt t = false then .stk else .ok (ρ1, t)
  | .callM i f l dd, ρ => match nth ρ i with
    | some _ => (evA O l ρ).bnd fun ρ1 ds => (R.of (nth ρ1 i)).bind fun t => (O.cf f (t :: (ds ++ dd).map .v)).bnd fun r us => (match us with
      | some t' :: _ => .ok (ρ1.set i (some t'), r)
      | _ => .stk)
    | none => .stk
  | .make vw c f l dd, ρ => (evAv O l ρ).bnd fun ρ1 ds => (O.cf f (.ins c [] :: (ds ++ dd).map .v)).bnd fun r us => match r, us with
    | .v .non, some t' :: _ => if vw = true ∧ noLt t' = false then .stk else .ok (ρ1, t')
    | _, _ => .stk
  | .list l, ρ => (evA O l ρ).bnd fun ρ1 ds => match ds with
    | [d] => (R.of (items d)).bind fun l => .ok (ρ1, .lst (l.map .v))
    | _ => .stk
  | .lrng e, ρ => (evE O e ρ).bnd fun ρ1 d => match d with
    | .int j => if j ≤ 1000000 ∧ -1000000 ≤ j then .ok (ρ1, .lst ((intsD 0 j).map .v)) else .stk
    | _ => .stk
  | .sll a lo hi, ρ => (evE O a ρ).bnd fun ρ1 x => (evO O lo ρ1).bnd fun ρ2 l => (evO O hi ρ2).bnd fun ρ3 u => match x with
    | .lst xs => .ok (ρ3, .lst ((cutD xs l u).map .v))
    | .scr ns => .ok (ρ3, .lst ((cutD (ns.map .int) l u).map .v))
    | _ => .stk
  | .cat a b, ρ => (evE O a ρ).bnd fun ρ1 x => (evE O b ρ1).bnd fun ρ2 y => match x, y with
    | .lst l, .lst m => if l.length + m.length ≤ 1000000 then .ok (ρ2, .lst ((l ++ m).map .v)) else .stk
    | _, _ => .stk
  | .rep a b, ρ => (evE O a ρ).bnd fun ρ1 x => (evE O b ρ1).bnd fun ρ2 y => match x, y with
    | .lst l, .int k => if k ≤ 1000000 ∧ -1000000 ≤ k ∧ l.length * k.toNat ≤ 1000000 then .ok (ρ2, .lst ((List.replicate k.toNat l).flatten.map .v)) else .stk
    | _, _ => .stk
  | .callK f l kw pm dd, ρ => (evA O l ρ).bnd fun ρ1 ds => (evA O kw ρ1).bnd fun ρ2 zs => (O.cf f ((arr pm dd (ds ++ zs)).map .v)).bnd fun t _ => .ok (ρ2, t)
  | .makeK c f l kw pm dd, ρ => (evA O l ρ).bnd fun ρ1 ds => (evA O kw ρ1).bnd fun ρ2 zs => (O.cf f (.ins c [] :: (arr pm dd (ds ++ zs)).map .v)).bnd fun r us => match r, us with
    | .v .non, some t' :: _ => .ok (ρ2, t')
    | _, _ => .stk
  | .lrng2 a b, ρ => (evE O a ρ).bnd fun ρ1 x => (evE O b ρ1).bnd fun ρ2 y => match x, y with
    | .int i, .int j => if j ≤ 1000000 ∧ -1000000 ≤ j ∧ i ≤ 1000000 ∧ -1000000 ≤ i then .ok (ρ2, .lst ((intsD i j).map .v)) else .stk
    | _, _ => .stk
def evT (O : Or) : Tx → Env → R (Env × Bool)
  | .cmp o a b, ρ => (evE O a ρ).bnd fun ρ1 x => (evE O b ρ1).bnd fun ρ2 y => (cmpF o x y).bind fun z => match z with
    | .bl k => .ok (ρ2, k)
    | _ => .stk
  | .chn o o' a b c, ρ => (evE O a ρ).bnd fun ρ1 x => (evE O b ρ1).bnd fun ρ2 y => (cmpF o x y).bind fun z => match z with
    | .bl true => (evE O c ρ2).bnd fun ρ3 w => (cmpF o' y w).bind fun z => (match z with
      | .bl k => .ok (ρ3, k)
      | _ => .stk)
    | .bl false => .ok (ρ2, false)
    | _ => .stk
  | .val e, ρ => (evE O e ρ).bnd fun ρ1 d => match d with
    | .bl k => .ok (ρ1, k)
    | _ => .stk
  | .not t, ρ => (evT O t ρ).bnd fun ρ1 k => .ok (ρ1, !k)
  | .bw w, ρ => evW O w ρ
  | .cmpv o a v, ρ => (evE O a ρ).bnd fun ρ1 x => (evVx O v ρ1).bnd fun ρ2 y => (cmpF o x y).bind fun z => match z with
    | .bl k => .ok (ρ2, k)
    | _ => .stk
  | .cmpl o v u, ρ => (evVx O v ρ).bnd fun ρ1 x => (R.of (ofU u ρ1)).bind fun y => (cmpF o x y).bind fun z => match z with
    | .bl k => .ok (ρ1, k)
    | _ => .stk
def evW (O : Or) : Wx → Env → R (Env × Bool)
  | .and1 t, ρ => evT O t ρ
  | .or1 t, ρ => evT O t ρ
  | .and t w, ρ => (evT O t ρ).bnd fun ρ1 k => match k with
    | true => evW O w ρ1
    | false => .ok (ρ1, false)
  | .or t w, ρ => (evT O t ρ).bnd fun ρ1 k => match k with
    | true => .ok (ρ1, true)
    | false => evW O w ρ1
def evO (O : Or) : Ox → Env → R (Env × Option Int)
  | .no, ρ => .ok (ρ, none)
  | .so e, ρ => (evE O e ρ).bnd fun ρ1 d => match d with
    | .int i => .ok (ρ1, some i)
    | _ => .stk
def evA (O : Or) : As → Env → R (Env × List D)
  | .nil, ρ => .ok (ρ, [])
  | .cons e r, ρ => (evE O e ρ).bnd fun ρ1 d => (evA O r ρ1).bnd fun ρ2 l => .ok (ρ2, d :: l)
  | .star e r, ρ => (evE O e ρ).bnd fun ρ1 d => (R.of (items d)).bind fun l1 => (evA O r ρ1).bnd fun ρ2 l => .ok (ρ2, l1 ++ l)
def evAv (O : Or) : Av → Env → R (Env × List D)
  | .nil, ρ => .ok (ρ, [])
  | .cons e r, ρ => (evE O e ρ).bnd fun ρ1 d => (evAv O r ρ1).bnd fun ρ2 l => .ok (ρ2, d :: l)
  | .vw i r, ρ => match nth ρ i with
    | some _ => (evAv O r ρ).bnd fun ρ2 l => (R.of (nth ρ2 i)).bind fun t => if onlyL t then .ok (ρ2, toD t :: l) else .stk
    | none => .stk
def evQs (O : Or) : Qs → Env → R (Env × List T)
  | .nil, ρ => .ok (ρ, [])
  | .cons q r, ρ => (evQ O q ρ).bnd fun ρ1 t => (evQs O r ρ1).bnd fun ρ2 l => .ok (ρ2, t :: l)
def evVx (O : Or) : Vx → Env → R (Env × D)
  | .e e, ρ => evE O e ρ
  | .p p, ρ => pkP O.fx p ρ
def evI (O : Or) : Ix → Env → R (Env × List D)
  | .sq e, ρ => (evE O e ρ).bnd fun ρ1 d => (R.of (items d)).bind fun l => .ok (ρ1, l)
  | .zip l, ρ => (evA O l ρ).bnd fun ρ1 ds => match ds with
    | [x, y] => (R.of (items x)).bind fun l => (R.of (items y)).bind fun m => .ok (ρ1, zipD l m)
    | _ => .stk
  | .zip3 l, ρ => (evA O l ρ).bnd fun ρ1 ds => match ds with
    | [x, y, z] => (R.of (items x)).bind fun l => (R.of (items y)).bind fun m => (R.of (items z)).bind fun n => .ok (ρ1, zipD3 l m n)
    | _ => .stk
  | .enum l, ρ => (evA O l ρ).bnd fun ρ1 ds => match ds with
    | [x] => (R.of (items x)).bind fun l => .ok (ρ1, enumD l)
    | _ => .stk
  | .rng1 l, ρ => (evA O l ρ).bnd fun ρ1 ds => match ds with
    | [.int j] => if j ≤ 1000000 ∧ -1000000 ≤ j then .ok (ρ1, intsD 0 j) else .stk
    | _ => .stk
  | .rng2 l, ρ => (evA O l ρ).bnd fun ρ1 ds => match ds with
    | [.int i, .int j] => if j ≤ 1000000 ∧ -1000000 ≤ j ∧ i ≤ 1000000 ∧ -1000000 ≤ i then .ok (ρ1, intsD i j) else .stk
    | _ => .stk
def evTs (O : Or) : Ts → Env → R (Env × Bool)
  | .nil, ρ => .ok (ρ, true)
  | .one t, ρ => evT O t ρ
end
inductive Flow where
  | nx (ρ : Env)
  | rt (ρ : Env) (t : T)
  | bk (ρ : Env)
  | ct (ρ : Env)
def forJ (g : D → Env → R Env) (b : Env → R Flow) : List D → Env → R Flow
  | [], ρ => .ok (.nx ρ)
  | d :: ds, ρ => (g d ρ).bind fun ρ1 => (b ρ1).bind fun f => match f with
    | .nx ρ2 => forJ g b ds ρ2
    | .ct ρ2 => forJ g b ds ρ2
    | .bk ρ2 => .ok (.nx ρ2)
    | .rt ρ2 t => .ok (.rt ρ2 t)
def whileJ (t : Env → R (Env × Bool)) (b : Env → R Flow) : Nat → Env → R Flow
  | 0, _ => .stk
  | n + 1, ρ => (t ρ).bnd fun ρ1 k => match k with
    | false => .ok (.nx ρ1)
    | true => (b ρ1).bind fun f => match f with
      | .nx ρ2 => whileJ t b n ρ2
      | .ct ρ2 => whileJ t b n ρ2
      | .bk ρ2 => .ok (.nx ρ2)
      | .rt ρ2 t => .ok (.rt ρ2 t)
mutual
def evS (O : Or) : St → Env → R Flow
  | .set i e, ρ => (evE O e ρ).bnd fun ρ1 d => .ok (.nx (ρ1.set i (some (.v d))))
  | .setq i q, ρ => (evQ O q ρ).bnd fun ρ1 t => .ok (.nx (ρ1.set i (some t)))
  | .setc i q, ρ => (evQ O q ρ).bnd fun ρ1 t => .ok (.nx (ρ1.set i (some t)))
  | .asg g e, ρ => (evE O e ρ).bnd fun ρ1 d => (evG O.fx g d ρ1).bind fun ρ2 => .ok (.nx ρ2)
  | .ret e, ρ => (evE O e ρ).bnd fun ρ1 d => .ok (.rt ρ1 (.v d))
  | .retq q, ρ => (evQ O q ρ).bnd fun ρ1 t => .ok (.rt ρ1 t)
  | .retN, ρ => .ok (.rt ρ (.v .non))
  | .exp e, ρ => (evE O e ρ).bnd fun ρ1 _ => .ok (.nx ρ1)
  | .ite t a b, ρ => (evT O t ρ).bnd fun ρ1 k => match k with
    | true => evSs O a ρ1
    | false => evSs O b ρ1
  | .for it g b, ρ => (evI O it ρ).bnd fun ρ1 ds => forJ (evG O.fx g) (evSs O b) ds ρ1
  | .wh t b, ρ => whileJ (evT O t) (evSs O b) O.fu ρ
  | .pass, ρ => .ok (.nx ρ)
  | .brk, ρ => .ok (.bk ρ)
  | .cnt, ρ => .ok (.ct ρ)
  | .never, _ => .stk
  | .app i q, ρ => match nth ρ i with
    | some (.lst _) => (evQ O q ρ).bnd fun ρ1 t => (match nth ρ1 i with
      | some (.lst l) => if l.length < 1000000 then .ok (.nx (ρ1.set i (some (.lst (l ++ [t]))))) else .stk
      | _ => .stk)
    | _ => .stk
  | .appP p u, ρ => (R.of (nth ρ (rootP p))).bind fun t => (R.of (ofP O.fx p t ρ)).bind fun js => match getP t js, ofU u ρ with
    | some (.lst l), some d => if l.length < 1000000 then .ok (.nx (ρ.set (rootP p) (some (setP t js (.lst (l ++ [.v d])))))) else .stk
    | _, _ => .stk
  | .ext i e, ρ => match nth ρ i with
    | some (.lst _) => (evE O e ρ).bnd fun ρ1 d => (match nth ρ1 i, itx d with
      | some (.lst l), some m => if l.length + m.length ≤ 1000000 then .ok (.nx (ρ1.set i (some (.lst (l ++ m.map .v))))) else .stk
      | _, _ => .stk)
    | _ => .stk
  | .fld p f q, ρ => (evQ O q ρ).bnd fun ρ1 t1 => (R.of (nth ρ1 (rootP p))).bind fun t => (R.of (ofP O.fx p t ρ1)).bind fun js => match getP t js with
    | some (.ins c l) => (R.of (O.fx f c)).bind fun j => (R.of (putAt l j t1)).bind fun l' => if l.length < 900 then .ok (.nx (ρ1.set (rootP p) (some (setP t js (.ins c l'))))) else .stk
    | _ => .stk
  | .par i j l, ρ => (evQs O l ρ).bnd fun ρ1 ts => match ts with
    | [x, y] => .ok (.nx ((ρ1.set i (some x)).set j (some y)))
    | _ => .stk
  | .par3 i j k l, ρ => (evQs O l ρ).bnd fun ρ1 ts => match ts with
    | [x, y, z] => .ok (.nx (((ρ1.set i (some x)).set j (some y)).set k (some z)))
    | _ => .stk
  | .unp is l, ρ => (evQs O l ρ).bnd fun ρ1 ts => if ts.length ≤ 100 then (R.of (setAll is ts ρ1)).bind fun ρ2 => .ok (.nx ρ2) else .stk
def evSs (O : Or) : Sts → Env → R Flow
  | .nil, ρ => .ok (.nx ρ)
  | .cons s r, ρ => (evS O s ρ).bind fun f => match f with
    | .nx ρ1 => evSs O r ρ1
    | f => .ok f
end
/-- a def: how many parameters, how many names, what is lent for good, the body -/
structure Fn where
  n : Nat
  m : Nat
  pr : List Nat
  body : Sts
def runF (O : Or) (f : Fn) (ts : List T) : R (T × List (Option T)) := if ts.length = f.n then (evSs O f.body (startB f.m ts)).bind fun r => match r with
  | .nx ρ => if f.n ≤ ρ.length then .ok (.v .non, finB f.pr 0 f.n ρ) else .stk
  | .rt ρ t => if f.n ≤ ρ.length then .ok (t, finB f.pr 0 f.n ρ) else .stk
  | _ => .stk
  else .stk
def callJ (tb : Nat → Option Fn) (fx : Str → Nat → Option Nat) (fu : Nat) (kt : Kt → Kt → Option Bool) : Nat → Nat → List T → R (T × List (Option T))
  | 0, _, _ => .stk
  | k + 1, f, ts => match tb f with
    | some fn => runF ⟨callJ tb fx fu kt k, fx, fu, kt⟩ fn ts
    | none => .stk
end J

set_option Elab.async false
set_option linter.all false
set_option maxRecDepth 100000
set_option maxHeartbeats 4000000
namespace J
open PySem PySem.Spec PyProof.Rows L2

/-! ### weaker readings -/
section
variable {G : G0} {X : Cx} {e tg : Expr} {es : List Expr} {st : Stmt} {sts : List Stmt} {o : Option Expr} {ts : List Nat} {vw : Bool}
theorem DE.weak {w w' : WE} (h : DE G X e w) (i : ∀ ρ post, w' ρ post → w ρ post) : DE G X e w' := ⟨⟨fun pins s σ H Q Iv ⟨b, F, ρ, post, I, hw, q⟩ => h.run.run pins s σ H Q Iv ⟨b, F, ρ, post, I, i _ _ hw, q⟩⟩⟩
theorem DQ.weak {w w' : WQ} (h : DQ G X e w) (i : ∀ ρ post, w' ρ post → w ρ post) : DQ G X e w' := ⟨⟨fun pins s σ H Q Iv ⟨b, F, ρ, post, I, hw, q⟩ => h.run.run pins s σ H Q Iv ⟨b, F, ρ, post, I, i _ _ hw, q⟩⟩⟩
theorem DV.weak {w w' : WE} (h : DV G X e w) (i : ∀ ρ post, w' ρ post → w ρ post) : DV G X e w' := ⟨⟨fun pins s σ H Q Iv ⟨b, F, ρ, post, I, hw, q⟩ => h.run.run pins s σ H Q Iv ⟨b, F, ρ, post, I, i _ _ hw, q⟩⟩⟩
theorem DT.weak {w w' : WT} (h : DT G X e w) (i : ∀ ρ post, w' ρ post → w ρ post) : DT G X e w' := ⟨⟨fun pins s σ H Q Iv ⟨b, F, ρ, post, I, hw, q⟩ => h.run.run pins s σ H Q Iv ⟨b, F, ρ, post, I, i _ _ hw, q⟩⟩⟩
theorem DW.weak {w w' : WT} (h : DW G X e w) (i : ∀ ρ post, w' ρ post → w ρ post) : DW G X e w' := ⟨⟨fun wh pins s σ H Q Iv ⟨b, F, ρ, post, I, hw, q⟩ => h.run.run wh pins s σ H Q Iv ⟨b, F, ρ, post, I, i _ _ hw, q⟩⟩⟩
theorem DTs.weak {w w' : WT} (h : DTs G X es w) (i : ∀ ρ post, w' ρ post → w ρ post) : DTs G X es w' := ⟨⟨fun pins s σ H Q Iv ⟨b, F, ρ, post, I, hw, q⟩ => h.run.run pins s σ H Q Iv ⟨b, F, ρ, post, I, i _ _ hw, q⟩⟩⟩
theorem DO.weak {w w' : WOp} (h : DO G X o w) (i : ∀ ρ post, w' ρ post → w ρ post) : DO G X o w' := ⟨⟨fun pins s σ H Q Iv ⟨b, F, ρ, post, I, hw, q⟩ => h.run.run pins s σ H Q Iv ⟨b, F, ρ, post, I, i _ _ hw, q⟩⟩⟩
theorem DA.weak {w w' : WN} (h : DA G X es w) (i : ∀ ρ post, w' ρ post → w ρ post) : DA G X es w' := ⟨⟨fun pos pins s σ H Q Iv ⟨b, F, ρ, post, I, hw, q⟩ => h.run.run pos pins s σ H Q Iv ⟨b, F, ρ, post, I, i _ _ hw, q⟩⟩⟩
theorem DK.weak {kws : List Keyword} {w w' : WN} (h : DK G X kws w) (i : ∀ ρ post, w' ρ post → w ρ post) : DK G X kws w' := ⟨⟨fun pos pins s σ H Q Iv ⟨b, F, ρ, post, I, hw, q⟩ => h.run.run pos pins s σ H Q Iv ⟨b, F, ρ, post, I, i _ _ hw, q⟩⟩⟩
theorem DAv.weak {w w' : WN} (h : DAv G X vw es w) (i : ∀ ρ post, w' ρ post → w ρ post) : DAv G X vw es w' := ⟨⟨fun pos pins s σ H Q Iv ⟨b, F, ρ, post, I, hw, q⟩ => h.run.run pos pins s σ H Q Iv ⟨b, F, ρ, post, I, i _ _ hw, q⟩⟩⟩
theorem DAT.weak {w w' : WQs} (h : DAT G X es w) (i : ∀ ρ post, w' ρ post → w ρ post) : DAT G X es w' := ⟨⟨fun pos pins s σ H Q Iv ⟨b, F, ρ, post, I, hw, q⟩ => h.run.run pos pins s σ H Q Iv ⟨b, F, ρ, post, I, i _ _ hw, q⟩⟩⟩
theorem DI.weak {w w' : WN} (h : DI G X tg e w) (i : ∀ ρ post, w' ρ post → w ρ post) : DI G X tg e w' := ⟨⟨fun pins s σ H Q Iv ⟨b, F, ρ, post, I, hw, q⟩ => h.run.run pins s σ H Q Iv ⟨b, F, ρ, post, I, i _ _ hw, q⟩⟩⟩
theorem DG.weak {w w' : WG} (h : DG G X e ts w) (i : ∀ d ρ post, w' d ρ post → w d ρ post) : DG G X e ts w' := ⟨⟨fun pins s σ H v u Q Iv rv ⟨b, F, ρ, d, k, hI, ha, hw, q⟩ => h.run.run pins s σ H v u Q Iv rv ⟨b, F, ρ, d, k, hI, ha, i _ _ _ hw, q⟩⟩⟩
theorem DGs.weak {w w' : WGs} (h : DGs G X es ts w) (i : ∀ d ρ post, w' d ρ post → w d ρ post) : DGs G X es ts w' := ⟨⟨fun pins s σ H v u Q Iv rv ⟨b, F, ρ, d, k, hI, ha, hw, q⟩ => h.run.run pins s σ H v u Q Iv rv ⟨b, F, ρ, d, k, hI, ha, i _ _ _ hw, q⟩⟩⟩
theorem DS.weak {w w' : WS} (h : DS G X st w) (i : ∀ De ρ, w' De ρ → w De ρ) : DS G X st w' := ⟨⟨fun pins s σ H D Iv ⟨b, F, ρ, De, I, hw, m⟩ => h.run.run pins s σ H D Iv ⟨b, F, ρ, De, I, i _ _ hw, m⟩⟩⟩
theorem DSs.weak {w w' : WS} (h : DSs G X sts w) (i : ∀ De ρ, w' De ρ → w De ρ) : DSs G X sts w' := ⟨⟨fun pins s σ H D Iv ⟨b, F, ρ, De, I, hw, m⟩ => h.run.run pins s σ H D Iv ⟨b, F, ρ, De, I, i _ _ hw, m⟩⟩⟩
theorem DOp.weak {f : Value → Value → Sem Value} {w w' : R2D} (h : DOp G X f w) (i : ∀ x y post, w' x y post → w x y post) : DOp G X f w' := by
  obtain ⟨r, h1, h2⟩ := h.ex
  exact ⟨r, h1, fun F H x y d1 d2 post s a1 a2 hw Q q => h2 F H x y d1 d2 post s a1 a2 (i _ _ _ hw) Q q⟩
theorem DC.weak {f : Value} {w w' : List D → (D → Prop) → Prop} (h : DC G X f w) (i : ∀ ds post, w' ds post → w ds post) : DC G X f w' := by
  obtain ⟨r, h1, h2⟩ := h.ex
  exact ⟨r, h1, fun F H vs ds post s a hw Q q => h2 F H vs ds post s a (i _ _ hw) Q q⟩
end

/-! ### operators -/
def wO (f : D → D → R D) : R2D := fun x y post => ∃ d, f x y = .ok d ∧ post d
def wF (f : List D → R D) : List D → (D → Prop) → Prop := fun ds post => ∃ d, f ds = .ok d ∧ post d
def Bop.o : Bop → Operator
  | .add => .Add
  | .sub => .Sub
  | .mul => .Mult
  | .fdiv => .FloorDiv
  | .mod => .Mod
  | .pow => .Pow
  | .addT => .Add
  | .addS => .Add
def Cop.o : Cop → CmpOp
  | .lt => .Lt
  | .le => .LtE
  | .gt => .Gt
  | .ge => .GtE
  | .eq => .Eq
  | .ne => .NotEq
  | .eqI => .Eq
  | .neI => .NotEq
  | .isN => .Is
  | .notN => .IsNot
  | .inF => .In
  | .ninF => .NotIn
  | .inD => .In
  | .ninD => .NotIn
theorem if_ok {α : Type} {c : Prop} [Decidable c] {x y : α} : (if c then R.ok x else R.stk) = .ok y ↔ c ∧ x = y := by
  split
  · rename_i h
    exact ⟨fun e => (by cases e; exact ⟨h, rfl⟩), fun e => (by rw [e.2])⟩
  · rename_i h
    exact ⟨fun e => (by cases e), fun e => absurd e.1 h⟩
theorem i2_ok {g : Int → Int → D} {x y d : D} (e : i2 g x y = .ok d) : ∃ i j, x = .int i ∧ y = .int j ∧ d = g i j := by
  unfold i2 at e
  split at e
  · cases e
    exact ⟨_, _, rfl, rfl, rfl⟩
  · cases e
theorem i2c_ok {c : Int → Int → Bool} {g : Int → Int → D} {x y d : D} (e : i2c c g x y = .ok d) : ∃ i j, x = .int i ∧ y = .int j ∧ c i j = true ∧ d = g i j := by
  unfold i2c at e
  split at e
  · split at e
    · cases e
      exact ⟨_, _, rfl, rfl, by assumption, rfl⟩
    · cases e
  · cases e
theorem do_i2 {G : G0} {X : Cx} {f : Value → Value → Sem Value} {g : Int → Int → D} (h : DOp G X f (wI0 g)) : DOp G X f (wO (i2 g)) := h.weak fun x y post ⟨d, e, hp⟩ => by
  obtain ⟨i, j, rfl, rfl, rfl⟩ := i2_ok e
  exact hp
theorem do_i2c {G : G0} {X : Cx} {f : Value → Value → Sem Value} {C : Int → Int → Prop} {c : Int → Int → Bool} {g : Int → Int → D} (h : DOp G X f (wI C g)) (hc : ∀ i j, c i j = true → C i j) : DOp G X f (wO (i2c c g)) := h.weak fun x y post ⟨d, e, hp⟩ => by
  obtain ⟨i, j, rfl, rfl, h, rfl⟩ := i2c_ok e
  exact ⟨hc _ _ h, hp⟩
theorem do_bop {G : G0} {X : Cx} (o : Bop) : DOp G X (binaryOp o.o) (wO (opF o)) := by
  cases o
  · exact do_i2 do_add
  · exact do_i2 do_sub
  · exact do_i2c do_mul fun i j h => by simpa using h
  · exact do_i2c do_fdiv fun i j h => by simpa using h
  · exact do_i2c do_mod fun i j h => by simpa using h
  · exact do_i2c do_pow fun i j h => by simpa using h
  · refine do_addT.weak fun x y post ⟨d, e, hp⟩ => ?_
    have e' : addTF x y = .ok d := e
    unfold addTF at e'
    split at e'
    · obtain ⟨h, rfl⟩ := if_ok.mp e'
      exact ⟨h, hp⟩
    · cases e'
  · refine do_addS.weak fun x y post ⟨d, e, hp⟩ => ?_
    have e' : addSF x y = .ok d := e
    unfold addSF at e'
    split at e'
    · obtain ⟨h, rfl⟩ := if_ok.mp e'
      exact ⟨h, hp⟩
    · cases e'
theorem eqF_ok {x y d : D} (e : eqF x y = .ok d) : (shp x = true ∧ shp y = true) ∧ d = .bl (deq x y) := by
  unfold eqF at e
  split at e
  · rename_i h
    cases e
    exact ⟨by simpa using h, rfl⟩
  · cases e
theorem neF_ok {x y d : D} (e : neF x y = .ok d) : (shp x = true ∧ shp y = true) ∧ d = .bl (!deq x y) := by
  unfold neF at e
  split at e
  · rename_i h
    cases e
    exact ⟨by simpa using h, rfl⟩
  · cases e
theorem inFF_ok {neg : Bool} {x y d : D} (e : inFF neg x y = .ok d) : ∃ l, items y = some l ∧ (flat x = true ∧ l.all flat = true) ∧ d = .bl (if neg then !l.any fun z => eqFl z x else l.any fun z => eqFl z x) := by
  unfold inFF at e
  split at e
  · rename_i l el
    split at e
    · rename_i h
      cases e
      exact ⟨l, el, by simpa [Bool.and_eq_true] using h, rfl⟩
    · cases e
  · cases e
theorem inDF_ok {neg : Bool} {x y d : D} (e : inDF neg x y = .ok d) : ∃ l, y = .lst l ∧ (shp x = true ∧ shp (.lst l) = true) ∧ d = .bl (if neg then !l.any fun z => deq z x else l.any fun z => deq z x) := by
  unfold inDF at e
  split at e
  · rename_i l
    split at e
    · rename_i h
      cases e
      rw [Bool.and_eq_true] at h
      exact ⟨l, rfl, h, rfl⟩
    · cases e
  · cases e
theorem do_cop {G : G0} {X : Cx} (hu : X.A.units + 65 < cLine) (o : Cop) : DOp G X (compareOp o.o) (wO (cmpF o)) := by
  cases o
  case lt => exact do_i2 do_lt
  case le => exact do_i2 do_le
  case gt => exact do_i2 do_gt
  case ge => exact do_i2 do_ge
  case eqI => exact do_i2 do_eqI
  case neI => exact do_i2 do_neI
  case eq =>
    refine (do_eq (by omega)).weak fun x y post ⟨d, e, hp⟩ => ?_
    obtain ⟨h, rfl⟩ := eqF_ok e
    exact ⟨h, hp⟩
  case ne =>
    refine (do_ne (by omega)).weak fun x y post ⟨d, e, hp⟩ => ?_
    obtain ⟨h, rfl⟩ := neF_ok e
    exact ⟨h, hp⟩
  case isN =>
    refine do_isN.weak fun x y post ⟨d, e, hp⟩ => ?_
    have e' : isNF x y = .ok d := e
    unfold isNF at e'
    split at e'
    · cases e'
      exact hp
    · cases e'
  case notN =>
    refine do_notN.weak fun x y post ⟨d, e, hp⟩ => ?_
    have e' : notNF x y = .ok d := e
    unfold notNF at e'
    split at e'
    · cases e'
      exact hp
    · cases e'
  case inF =>
    refine do_inF.weak fun x y post ⟨d, e, hp⟩ => ?_
    obtain ⟨l, el, h, rfl⟩ := inFF_ok e
    unfold wInF
    simp only [el]
    exact ⟨h, hp⟩
  case ninF =>
    refine do_notInF.weak fun x y post ⟨d, e, hp⟩ => ?_
    obtain ⟨l, el, h, rfl⟩ := inFF_ok e
    unfold wInF
    simp only [el]
    exact ⟨h, hp⟩
  case inD =>
    refine (do_inD hu).weak fun x y post ⟨d, e, hp⟩ => ?_
    obtain ⟨l, rfl, h, rfl⟩ := inDF_ok e
    exact ⟨h, hp⟩
  case ninD =>
    refine (do_notInD hu).weak fun x y post ⟨d, e, hp⟩ => ?_
    obtain ⟨l, rfl, h, rfl⟩ := inDF_ok e
    exact ⟨h, hp⟩
def noSet : Expr → Bool
  | .Set _ _ _ => false
  | _ => true
theorem Cop.plain (o : Cop) {b : Expr} (h : noSet b = true) : behindInMarks o.o b = false := by
  cases b <;> first | (cases o <;> rfl) | cases h
theorem cmpF_bl {o : Cop} {x y d : D} (e : cmpF o x y = .ok d) : ∃ k, d = .bl k := by
  cases o
  case eq => exact ⟨_, (eqF_ok e).2⟩
  case ne => exact ⟨_, (neF_ok e).2⟩
  case isN =>
    have e' : isNF x y = .ok d := e
    unfold isNF at e'
    split at e' <;> cases e'
    exact ⟨_, rfl⟩
  case notN =>
    have e' : notNF x y = .ok d := e
    unfold notNF at e'
    split at e' <;> cases e'
    exact ⟨_, rfl⟩
  case inF => obtain ⟨l, _, _, rfl⟩ := inFF_ok e; exact ⟨_, rfl⟩
  case ninF => obtain ⟨l, _, _, rfl⟩ := inFF_ok e; exact ⟨_, rfl⟩
  case inD => obtain ⟨l, _, _, rfl⟩ := inDF_ok e; exact ⟨_, rfl⟩
  case ninD => obtain ⟨l, _, _, rfl⟩ := inDF_ok e; exact ⟨_, rfl⟩
  all_goals
    obtain ⟨i, j, _, _, rfl⟩ := i2_ok e
    exact ⟨_, rfl⟩
theorem flo_cop (o : Cop) : FlO (wO (cmpF o)) := fun x y post ⟨d, e, hp⟩ => by
  obtain ⟨k, rfl⟩ := cmpF_bl e
  exact ⟨_, e, rfl, hp⟩

/-! ### functions that are built in -/
def Bf.nm : Bf → Str
  | .len => "len"
  | .sum => "sum"
  | .max => "max"
  | .min => "min"
  | .all => "all"
  | .any => "any"
  | .abs => "abs"
  | .max2 => "max"
  | .min2 => "min"
  | .int => "int"
  | .tuple => "tuple"
  | .divmod => "divmod"
  | .bool => "bool"
theorem maxI_mem : ∀ (l : List Int) (m : Int), maxI m l = m ∨ maxI m l ∈ l
  | [], m => .inl rfl
  | x :: r, m => by
    unfold maxI
    rcases maxI_mem r (if x > m then x else m) with h | h
    · rw [h]
      split
      · exact .inr List.mem_cons_self
      · exact .inl rfl
    · exact .inr (List.mem_cons_of_mem _ h)
theorem maxI_le : ∀ (l : List Int) (m : Int), m ≤ maxI m l ∧ ∀ y ∈ l, y ≤ maxI m l
  | [], m => ⟨Int.le_refl _, by simp⟩
  | x :: r, m => by
    unfold maxI
    obtain ⟨h1, h2⟩ := maxI_le r (if x > m then x else m)
    refine ⟨?_, fun y hy => ?_⟩
    · split at h1 <;> rename_i c
      · have : m ≤ x := by omega
        rw [if_pos c]; omega
      · rw [if_neg c]; exact h1
    · rcases List.mem_cons.mp hy with rfl | hy
      · split at h1 <;> rename_i c
        · rw [if_pos c]; exact h1
        · rw [if_neg c]; omega
      · exact h2 y hy
theorem minI_mem : ∀ (l : List Int) (m : Int), minI m l = m ∨ minI m l ∈ l
  | [], m => .inl rfl
  | x :: r, m => by
    unfold minI
    rcases minI_mem r (if x < m then x else m) with h | h
    · rw [h]
      split
      · exact .inr List.mem_cons_self
      · exact .inl rfl
    · exact .inr (List.mem_cons_of_mem _ h)
theorem minI_le : ∀ (l : List Int) (m : Int), minI m l ≤ m ∧ ∀ y ∈ l, minI m l ≤ y
  | [], m => ⟨Int.le_refl _, by simp⟩
  | x :: r, m => by
    unfold minI
    obtain ⟨h1, h2⟩ := minI_le r (if x < m then x else m)
    refine ⟨?_, fun y hy => ?_⟩
    · split at h1 <;> rename_i c
      · rw [if_pos c]; omega
      · rw [if_neg c]; exact h1
    · rcases List.mem_cons.mp hy with rfl | hy
      · split at h1 <;> rename_i c
        · rw [if_pos c]; exact h1
        · rw [if_neg c]; omega
      · exact h2 y hy
theorem wItems_of {f : List D → (D → Prop) → Prop} {d : D} {l : List D} {post : D → Prop} (e : items d = some l) (h : f l post) : wItems f d post := by
  unfold wItems
  rw [e]
  exact h
theorem wInts_of {f : List Int → (D → Prop) → Prop} {d : D} {ns : List Int} {post : D → Prop} (e : intsF d = .ok ns) (h : f ns post) : wInts f d post := by
  unfold intsF at e
  split at e
  · rename_i l
    have e' := of_ok.mp e
    unfold wInts
    simp only [e']
    exact h
  · cases e
theorem wBls_of {f : List Bool → (D → Prop) → Prop} {d : D} {ns : List Bool} {post : D → Prop} (e : blsF d = .ok ns) (h : f ns post) : wBls f d post := by
  unfold blsF at e
  split at e
  · rename_i l
    have e' := of_ok.mp e
    unfold wBls
    simp only [e']
    exact h
  · cases e
theorem on1_ok {f : D → R D} {l : List D} {d : D} (e : on1 f l = .ok d) : ∃ x, l = [x] ∧ f x = .ok d := by
  unfold on1 at e
  split at e
  · exact ⟨_, rfl, e⟩
  · cases e
theorem on2_ok {f : D → D → R D} {l : List D} {d : D} (e : on2 f l = .ok d) : ∃ x y, l = [x, y] ∧ f x y = .ok d := by
  unfold on2 at e
  split at e
  · exact ⟨_, _, rfl, e⟩
  · cases e
def Bf.ty : Bf → Bool
  | .int => true
  | .tuple => true
  | .bool => true
  | _ => false
theorem dc_bf {G : G0} {X : Cx} (f : Bf) (hf : f.ty = false) (hc : X.calm = true) : ∃ id : String, bootBuiltins f.nm = some (.builtin id) ∧ DC G X (.builtin id) (wF (bfF f)) := by
  cases f
  case len =>
    refine ⟨_, by decide +kernel, dc_len.weak fun ds post ⟨d, ed, hp⟩ => ?_⟩
    obtain ⟨x, rfl, ed⟩ := on1_ok ed
    obtain ⟨l, e1, e2⟩ := bind_ok.mp ed
    cases e2
    exact wItems_of (f := fun l post => post (.int l.length)) (of_ok.mp e1) hp
  case sum =>
    refine ⟨_, by decide +kernel, (dc_sum hc).weak fun ds post ⟨d, ed, hp⟩ => ?_⟩
    obtain ⟨x, rfl, ed⟩ := on1_ok ed
    obtain ⟨l, e1, e2⟩ := bind_ok.mp ed
    cases e2
    exact wInts_of (f := fun ns post => post (.int ns.sum)) e1 hp
  case max =>
    refine ⟨_, by decide +kernel, (dc_max hc).weak fun ds post ⟨d, ed, hp⟩ => ?_⟩
    obtain ⟨x, rfl, ed⟩ := on1_ok ed
    obtain ⟨l, e1, e2⟩ := bind_ok.mp ed
    split at e2
    · cases e2
    · rename_i n r
      cases e2
      refine wInts_of (f := fun ns post => 0 < ns.length ∧ ∀ m, m ∈ ns → (∀ y, y ∈ ns → y ≤ m) → post (.int m)) e1 ⟨Nat.succ_pos _, fun m m1 m2 => ?_⟩
      have k1 := maxI_le r n
      have k2 : m = maxI n r := by
        have a1 : m ≤ maxI n r := by
          rcases List.mem_cons.mp m1 with rfl | m1
          · exact k1.1
          · exact k1.2 m m1
        have a2 : maxI n r ≤ m := by
          rcases maxI_mem r n with h | h
          · rw [h]; exact m2 n List.mem_cons_self
          · exact m2 _ (List.mem_cons_of_mem _ h)
        omega
      rw [k2]
      exact hp
  case min =>
    refine ⟨_, by decide +kernel, (dc_min hc).weak fun ds post ⟨d, ed, hp⟩ => ?_⟩
    obtain ⟨x, rfl, ed⟩ := on1_ok ed
    obtain ⟨l, e1, e2⟩ := bind_ok.mp ed
    split at e2
    · cases e2
    · rename_i n r
      cases e2
      refine wInts_of (f := fun ns post => 0 < ns.length ∧ ∀ m, m ∈ ns → (∀ y, y ∈ ns → m ≤ y) → post (.int m)) e1 ⟨Nat.succ_pos _, fun m m1 m2 => ?_⟩
      have k1 := minI_le r n
      have k2 : m = minI n r := by
        have a1 : minI n r ≤ m := by
          rcases List.mem_cons.mp m1 with rfl | m1
          · exact k1.1
          · exact k1.2 m m1
        have a2 : m ≤ minI n r := by
          rcases minI_mem r n with h | h
          · rw [h]; exact m2 n List.mem_cons_self
          · exact m2 _ (List.mem_cons_of_mem _ h)
        omega
      rw [k2]
      exact hp
  case all =>
    refine ⟨_, by decide +kernel, (dc_all hc).weak fun ds post ⟨d, ed, hp⟩ => ?_⟩
    obtain ⟨x, rfl, ed⟩ := on1_ok ed
    obtain ⟨l, e1, e2⟩ := bind_ok.mp ed
    cases e2
    exact wBls_of (f := fun ns post => post (.bl (ns.all id))) e1 hp
  case any =>
    refine ⟨_, by decide +kernel, (dc_any hc).weak fun ds post ⟨d, ed, hp⟩ => ?_⟩
    obtain ⟨x, rfl, ed⟩ := on1_ok ed
    obtain ⟨l, e1, e2⟩ := bind_ok.mp ed
    cases e2
    exact wBls_of (f := fun ns post => post (.bl (ns.any id))) e1 hp
  case abs =>
    refine ⟨_, by decide +kernel, dc_abs.weak fun ds post ⟨d, ed, hp⟩ => ?_⟩
    obtain ⟨x, rfl, ed⟩ := on1_ok ed
    have ed : absF x = .ok d := ed
    unfold absF at ed
    split at ed <;> cases ed
    exact hp
  case max2 =>
    refine ⟨_, by decide +kernel, (dc_max2 hc).weak fun ds post ⟨d, ed, hp⟩ => ?_⟩
    obtain ⟨x, y, rfl, ed⟩ := on2_ok ed
    obtain ⟨i, j, rfl, rfl, rfl⟩ := i2_ok ed
    exact hp
  case min2 =>
    refine ⟨_, by decide +kernel, (dc_min2 hc).weak fun ds post ⟨d, ed, hp⟩ => ?_⟩
    obtain ⟨x, y, rfl, ed⟩ := on2_ok ed
    obtain ⟨i, j, rfl, rfl, rfl⟩ := i2_ok ed
    exact hp
  case divmod =>
    refine ⟨_, by decide +kernel, dc_divmod.weak fun ds post ⟨d, ed, hp⟩ => ?_⟩
    obtain ⟨x, y, rfl, ed⟩ := on2_ok ed
    obtain ⟨i, j, rfl, rfl, h, rfl⟩ := i2c_ok ed
    exact ⟨by simpa using h, hp⟩
  case int => cases hf
  case bool => cases hf
  case tuple => cases hf
theorem dc_ty {G : G0} {X : Cx} (f : Bf) (hf : f.ty = true) : ∃ T : String, bootBuiltins f.nm = some (.type T) ∧ DC G X (.type T) (wF (bfF f)) := by
  cases f <;> first | cases hf | skip
  case int =>
    refine ⟨_, by decide +kernel, dc_int.weak fun ds post ⟨d, ed, hp⟩ => ?_⟩
    obtain ⟨x, rfl, ed⟩ := on1_ok ed
    have ed : intF x = .ok d := ed
    unfold intF at ed
    split at ed <;> cases ed
    · exact hp
    · exact hp
  case tuple =>
    refine ⟨_, by decide +kernel, dc_tuple.weak fun ds post ⟨d, ed, hp⟩ => ?_⟩
    obtain ⟨x, rfl, ed⟩ := on1_ok ed
    obtain ⟨l, e1, e2⟩ := bind_ok.mp ed
    cases e2
    exact wItems_of (f := fun l post => post (.tup l)) (of_ok.mp e1) hp
  case bool =>
    refine ⟨_, by decide +kernel, dc_bool.weak fun ds post ⟨d, ed, hp⟩ => ?_⟩
    obtain ⟨x, rfl, ed⟩ := on1_ok ed
    have ed : boolF x = .ok d := ed
    unfold boolF at ed
    split at ed <;> cases ed
    · exact hp
    · exact hp
theorem Bf.ne (f : Bf) : f.nm ≠ "__name__" ∧ (f.nm == ("__debug__" : Str)) = false := by cases f <;> exact ⟨by decide, by decide⟩
section
variable {G : G0} {X : Cx} {p pos : Pos} {e : Expr} {es : List Expr} {wa : WN}
/-- f(e, ..) -/
theorem d_bf (f : Bf) (hc : X.calm = true) (hg : Gl X f.nm) (hm : X.mg f.nm = none) (ha : DA G X (e :: es) wa) (he : starEach (e :: es) X.env = (false, eval e X.env) :: starEach es X.env) (hpl : (backTo pos (starEach es X.env)).any (·.1) = false) :
    DE G X (.Call (.Name f.nm p) (e :: es) [] pos) (wCB (wF (bfF f)) wa) := by
  cases hf : f.ty with
  | false =>
    obtain ⟨id, h1, h2⟩ := dc_bf (G := G) f hf hc
    exact d_callB h2 hg hm h1 ha f.ne.1 f.ne.2 he hpl
  | true =>
    obtain ⟨id, h1, h2⟩ := dc_ty (G := G) (X := X) f hf
    exact d_callT h2 hg hm h1 ha f.ne.1 f.ne.2 he hpl
end
/-- which functions of one argument answer something flat -/
def Bf.fl : Bf → Bool
  | .len => true
  | .sum => true
  | .max => true
  | .min => true
  | .all => true
  | .any => true
  | .abs => true
  | _ => false
theorem flc_bf {f : Bf} (hf : f.fl = true) : FlC (wF (bfF f)) := fun ds post ⟨d, e, hp⟩ => by
  refine ⟨d, e, ?_, hp⟩
  cases f <;> first | cases hf | skip
  all_goals
    obtain ⟨x, rfl, ed⟩ := on1_ok e
    first
      | (obtain ⟨l, e1, e2⟩ := bind_ok.mp ed
         first | (cases e2; rfl) | (split at e2 <;> cases e2; rfl))
      | (have ed : absF x = .ok d := ed; unfold absF at ed; split at ed <;> cases ed; rfl)
end J

set_option Elab.async false
set_option linter.all false
set_option maxRecDepth 100000
set_option maxHeartbeats 4000000
namespace J
open PySem PySem.Spec PyProof.Rows L2

/-! ### forms of expressions -/
def noStar : Expr → Bool
  | .Starred _ _ => false
  | _ => true
def noStars : List Expr → Bool
  | [] => true
  | e :: r => noStar e && noStars r
theorem star_plain {e : Expr} {es : List Expr} {env : PySem.Env} (h : noStar e = true) : starEach (e :: es) env = (false, eval e env) :: starEach es env := by
  cases e <;> first | rfl | cases h
theorem back_plain {pos : Pos} : ∀ {es : List Expr} {env : PySem.Env}, noStars es = true → (backTo pos (starEach es env)).any (·.1) = false
  | [], _, _ => rfl
  | e :: r, env, h => by
    have h' : noStar e = true ∧ noStars r = true := by simpa [noStars] using h
    rw [star_plain h'.1]
    have ih := back_plain (pos := pos) (env := env) h'.2
    show (false || (backTo pos (starEach r env)).any (·.1)) = false
    rw [ih]
    rfl
def noSlice : Expr → Bool
  | .Slice _ _ _ _ => false
  | _ => true
theorem ix_plain {b : Expr} (h : noSlice b = true) : PlainIx b := fun o i => by
  cases b <;> first | rfl | cases h
def noCall : Expr → Bool
  | .Call _ _ _ _ => false
  | _ => true
theorem att_plain {o : Expr} {f : Str} {env : PySem.Env} {w : Sem Value} (h : noCall o = true) : attributeBase o f env w = w := by
  cases o <;> first | rfl | cases h
def plainTest : Expr → Bool
  | .UnaryOp _ _ _ => false
  | .BoolOp _ _ _ => false
  | .IfExp _ _ _ _ => false
  | .Compare _ _ _ _ => false
  | _ => true
theorem test_plain {e : Expr} {env : PySem.Env} (h : plainTest e = true) : ∀ whole, isTrue e env whole = (do let v ← whole; standAt e.pos; holding [v] (truthy v)) := fun _ => by
  cases e <;> first | rfl | cases h
theorem fold_plain {e : Expr} (h : noSet e = true) : ∀ (env : PySem.Env) x, foldedSetIterable e env x = pure x := fun _ _ => by
  cases e <;> first | rfl | cases h
def noComp : Expr → Bool
  | .ListComp _ _ _ _ => false
  | .SetComp _ _ _ _ => false
  | .DictComp _ _ _ _ _ => false
  | _ => true
theorem swap_plain {e : Expr} {t : Option Expr} {n : Nat} {env : PySem.Env} (h : noComp e = true) : swapsWith e t n env = pure false := by
  cases e <;> first | rfl | cases h
theorem asg_plain {e : Expr} {es : List Expr} {env : PySem.Env} (h : noStar e = true) : assignEach (e :: es) env = (false, assign e env) :: assignEach es env := by
  cases e <;> first | rfl | cases h
theorem asg_len : ∀ {es : List Expr} {env : PySem.Env}, noStars es = true → (assignEach es env).length = es.length
  | [], _, _ => rfl
  | e :: r, env, h => by
    have h' : noStar e = true ∧ noStars r = true := by simpa [noStars] using h
    rw [asg_plain h'.1, List.length_cons, List.length_cons, asg_len h'.2]
theorem asg_find : ∀ {es : List Expr} {env : PySem.Env}, noStars es = true → (assignEach es env).findIdx? (·.1) = none
  | [], _, _ => rfl
  | e :: r, env, h => by
    have h' : noStar e = true ∧ noStars r = true := by simpa [noStars] using h
    rw [asg_plain h'.1, List.findIdx?_cons, asg_find h'.2]
    rfl
theorem asg_map {e : Expr} {es : List Expr} {env : PySem.Env} (h : noStar e = true) : (assignEach (e :: es) env).map (·.2) = assign e env :: (assignEach es env).map (·.2) := by
  rw [asg_plain h]
  rfl

/-! ### what is known of a frame -/
structure Gm where
  N : List Str
  sc : Scope
  fs : Scope
  pr : List Nat
  cons : List (Str × D)
  blts : List Str
  fns : List (Str × Nat × List D)
  mks : List (Str × Nat × Nat × List D)
  kfs : List (Str × Nat × Nat × List Str × List Pm × List D)
  kms : List (Str × Nat × Nat × Nat × List Str × List Pm × List D)
  cls : List (Str × Nat)
def Gm.blk (Γ : Gm) (scope : Scope) : Gm := { Γ with sc := relS Γ.sc scope, fs := scope }
def kdB (Γ : Gm) (x : Str) (k : NameKind) : Bool := decide (Γ.sc.names.lookup x = some k)
def odd (x : Str) : Bool := decide (x = "__debug__") || decide (x = "__classdict__")
def visB (Γ : Gm) (x : Str) : Bool := (kdB Γ x .local || kdB Γ x .cell || kdB Γ x .free) && !odd x
def okN (Γ : Gm) (i : Nat) (x : Str) : Bool := decide (Γ.N[i]? = some x) && visB Γ x
def okL (Γ : Gm) (i : Nat) (x : Str) : Bool := decide (Γ.N[i]? = some x) && (kdB Γ x .local || (kdB Γ x .cell && decide (Γ.fs.names.lookup x = some .cell))) && !memN i Γ.pr
def glB (Γ : Gm) (x : Str) : Bool := kdB Γ x .globalImplicit && !odd x
def memS (x : Str) : List Str → Bool
  | [] => false
  | y :: r => decide (x = y) || memS x r
theorem memS_iff {x : Str} : ∀ {l : List Str}, memS x l = true → x ∈ l
  | [], h => by cases h
  | y :: r, h => by
    unfold memS at h
    rw [Bool.or_eq_true] at h
    rcases h with h | h
    · have : x = y := by simpa using h
      subst this
      exact List.mem_cons_self
    · exact List.mem_cons_of_mem _ (memS_iff h)
def okB (Γ : Gm) (x : Str) : Bool := glB Γ x && memS x Γ.blts
mutual
def dEq : D → D → Bool
  | .non, .non => true
  | .bl a, .bl b => a == b
  | .int a, .int b => decide (a = b)
  | .str a, .str b => decide (a = b)
  | .tup a, .tup b => dEqs a b
  | .lst a, .lst b => dEqs a b
  | _, _ => false
def dEqs : List D → List D → Bool
  | [], [] => true
  | a :: r, b :: s => dEq a b && dEqs r s
  | _, _ => false
end
mutual
theorem dEq_eq : ∀ (a b : D), dEq a b = true → a = b
  | .non, b, h => by cases b <;> first | rfl | cases h
  | .bl a, b, h => by
    cases b <;> first | cases h | skip
    have : (a == _) = true := h
    rw [beq_iff_eq.mp this]
  | .int a, b, h => by
    cases b <;> first | cases h | skip
    rw [of_decide_eq_true h]
  | .str a, b, h => by
    cases b <;> first | cases h | skip
    rw [of_decide_eq_true h]
  | .tup a, b, h => by
    cases b <;> first | cases h | skip
    rw [dEqs_eq a _ h]
  | .lst a, b, h => by
    cases b <;> first | cases h | skip
    rw [dEqs_eq a _ h]
  | .dic _ _, b, h => by cases b <;> cases h
  | .obj _ _, b, h => by cases b <;> cases h
  | .scr _, b, h => by cases b <;> cases h
theorem dEqs_eq : ∀ (a b : List D), dEqs a b = true → a = b
  | [], b, h => by cases b <;> first | rfl | cases h
  | a :: r, b, h => by
    cases b with
    | nil => cases h
    | cons b s =>
      have h' : dEq a b = true ∧ dEqs r s = true := by simpa [dEqs] using h
      rw [dEq_eq a b h'.1, dEqs_eq r s h'.2]
end
/-- a def that is known: for one count of what is given -/
structure FnE (O : Or) (G : G0) (X : Cx) (x : Str) (id : Nat) (dd : List D) : Prop where
  ex : ∃ (k n : Nat) (f : Addr) (fd : FuncData) (ps : List Str) (dvs : List V) (ds : List Value), FnOk X.prog X.w X.K X.mg X.base CX0 k f fd ps (spOf ⟨X.K, G.ca, G.cf⟩ n fun ts post => ∃ t us, O.cf id ts = .ok (t, us) ∧ post t us) ∧
    (∀ ts r, O.cf id ts = .ok r → ts.length = n) ∧ Room k X.A ∧ X.mg x = some (.ref f) ∧ PySem.W.keepIn X.K (.ref f) = true ∧ Binds X.K fd ps ds ∧ Vals dvs ds ∧ ∀ F, AtL (gx X G) F dd dvs
structure MkE (O : Or) (G : G0) (X : Cx) (x : Str) (c id : Nat) (dd : List D) : Prop where
  ex : ∃ (k n : Nat) (f : Addr) (fd : FuncData) (ps : List Str) (dvs : List V) (ds : List Value), FnOk X.prog X.w X.K X.mg X.base CX0 k f fd ps (spOf ⟨X.K, G.ca, G.cf⟩ n fun ts post => ∃ t us, O.cf id ts = .ok (t, us) ∧ post t us) ∧
    (∀ ts r, O.cf id ts = .ok r → ts.length = n) ∧ Room (k + 1) X.A ∧ Mk X.K (G.ca c) f ∧ X.mg x = some (.ref (G.ca c)) ∧ Binds X.K fd ps ds ∧ Vals dvs ds ∧ ∀ F, AtL (gx X G) F dd dvs
/-- a call with keywords: n values are given ahead of the names ks -/
structure KfE (O : Or) (G : G0) (X : Cx) (x : Str) (id n : Nat) (ks : List Str) (pm : List Pm) (dd : List D) : Prop where
  ex : ∃ (k np : Nat) (f : Addr) (fd : FuncData) (ps : List Str) (dvs : List V) (g : List Value → List Value → List Value), FnOk X.prog X.w X.K X.mg X.base CX0 k f fd ps (spOf ⟨X.K, G.ca, G.cf⟩ np fun ts post => ∃ t us, O.cf id ts = .ok (t, us) ∧ post t us) ∧
    (∀ ts r, O.cf id ts = .ok r → ts.length = np) ∧ Room k X.A ∧ X.mg x = some (.ref f) ∧ PySem.W.keepIn X.K (.ref f) = true ∧ KBn X.K fd ps n ks g (fun vs zs => arr pm dvs (vs ++ zs)) ∧ ∀ F, AtL (gx X G) F dd dvs
structure KmE (O : Or) (G : G0) (X : Cx) (x : Str) (c id n : Nat) (ks : List Str) (pm : List Pm) (dd : List D) : Prop where
  ex : ∃ (k np : Nat) (f : Addr) (fd : FuncData) (ps : List Str) (dvs : List V) (g : List Value → List Value → List Value) (gV : List V → List V → List V), FnOk X.prog X.w X.K X.mg X.base CX0 k f fd ps (spOf ⟨X.K, G.ca, G.cf⟩ np fun ts post => ∃ t us, O.cf id ts = .ok (t, us) ∧ post t us) ∧
    (∀ ts r, O.cf id ts = .ok r → ts.length = np) ∧ Room (k + 1) X.A ∧ Mk X.K (G.ca c) f ∧ X.mg x = some (.ref (G.ca c)) ∧ KBn X.K fd ps (n + 1) ks g gV ∧ (∀ v vs zs, gV (v :: vs) zs = v :: arr pm dvs (vs ++ zs)) ∧ ∀ F, AtL (gx X G) F dd dvs
structure Fit (O : Or) (G : G0) (X : Cx) (Γ : Gm) : Prop where
  N : X.N = Γ.N
  nd : X.N.Nodup
  sc : X.env.scope = Γ.sc
  kd : Γ.sc.kind = .function
  fn : ∀ x, Γ.fs.names.lookup x = some .cell → X.fn x = true
  pr : G.pr = Γ.pr
  calm : X.calm = true
  hu : X.A.units + 65 < cLine
  cons : ∀ x d, Γ.cons.lookup x = some d → ∃ v u, X.mg x = some u ∧ RelV v u ∧ ∀ F, At (gx X G) F d v
  blts : ∀ x ∈ Γ.blts, X.mg x = none
  fns : ∀ e ∈ Γ.fns, FnE O G X e.1 e.2.1 e.2.2
  mks : ∀ e ∈ Γ.mks, MkE O G X e.1 e.2.1 e.2.2.1 e.2.2.2
  fld : ∀ f c j, O.fx f c = some j → Cls X.K (G.ca c) ∧ NoAttr X.K (G.ca c) f ∧ firstAt (G.cf c) f j = true
  kfs : ∀ e ∈ Γ.kfs, KfE O G X e.1 e.2.1 e.2.2.1 e.2.2.2.1 e.2.2.2.2.1 e.2.2.2.2.2
  kms : ∀ e ∈ Γ.kms, KmE O G X e.1 e.2.1 e.2.2.1 e.2.2.2.1 e.2.2.2.2.1 e.2.2.2.2.2.1 e.2.2.2.2.2.2
  cls : ∀ e ∈ Γ.cls, X.mg e.1 = some (.ref (G.ca e.2))
  kt : ∀ a b k, O.kt a b = some k → PySem.W.kitOne X.K (ktV G.ca a) (ktV G.ca b) = some k
  ki : ∀ c b k, O.kt (.c c) b = some k → InsC X.K (G.ca c)
section
variable {O : Or} {G : G0} {X : Cx} {Γ : Gm}
theorem kdB_iff {x : Str} {k : NameKind} : kdB Γ x k = true ↔ Γ.sc.names.lookup x = some k := by unfold kdB; exact decide_eq_true_iff
theorem odd_no {x : Str} (h : odd x = false) : (x == ("__debug__" : Str)) = false ∧ (x == ("__classdict__" : Str)) = false := by
  unfold odd at h
  rw [Bool.or_eq_false_iff] at h
  have h1 := of_decide_eq_false h.1
  have h2 := of_decide_eq_false h.2
  exact ⟨by simpa using h1, by simpa using h2⟩
theorem Fit.vis (Φ : Fit O G X Γ) {x : Str} (h : visB Γ x = true) : Vis X.env.scope x ∧ (x == ("__debug__" : Str)) = false ∧ (x == ("__classdict__" : Str)) = false := by
  unfold visB at h
  simp only [Bool.and_eq_true, Bool.or_eq_true, kdB_iff, Bool.not_eq_true'] at h
  refine ⟨?_, odd_no h.2⟩
  unfold Vis
  rw [Φ.sc]
  rcases h.1 with (h | h) | h
  · exact .inl h
  · exact .inr (.inl h)
  · exact .inr (.inr h)
theorem Fit.okN (Φ : Fit O G X Γ) {i : Nat} {x : Str} (h : okN Γ i x = true) : X.N[i]? = some x ∧ Vis X.env.scope x ∧ (x == ("__debug__" : Str)) = false ∧ (x == ("__classdict__" : Str)) = false := by
  unfold J.okN at h
  rw [Bool.and_eq_true, decide_eq_true_iff] at h
  exact ⟨by rw [Φ.N]; exact h.1, Φ.vis h.2⟩
theorem Fit.okL (Φ : Fit O G X Γ) {i : Nat} {x : Str} (h : okL Γ i x = true) : i ∉ G.pr ∧ X.N[i]? = some x ∧ Loc X.env.scope x ∧ (X.fn x = true ∨ X.env.scope.names.lookup x = some .local) := by
  unfold J.okL at h
  simp only [Bool.and_eq_true, Bool.or_eq_true, kdB_iff, Bool.not_eq_true', decide_eq_true_iff] at h
  refine ⟨fun m => ?_, by rw [Φ.N]; exact h.1.1, ?_, ?_⟩
  · rw [Φ.pr] at m
    rw [memN_iff.mpr m] at h
    cases h.2
  · unfold L2.Loc
    rw [Φ.sc]
    rcases h.1.2 with z | z
    · exact .inl z
    · exact .inr z.1
  · rw [Φ.sc]
    rcases h.1.2 with z | z
    · exact .inr z
    · exact .inl (Φ.fn x z.2)
theorem Fit.glB (Φ : Fit O G X Γ) {x : Str} (h : glB Γ x = true) : Gl X x ∧ (x == ("__debug__" : Str)) = false := by
  unfold J.glB at h
  simp only [Bool.and_eq_true, kdB_iff, Bool.not_eq_true'] at h
  refine ⟨?_, (odd_no h.2).1⟩
  show X.env.scope.names.lookup x = some .globalImplicit
  rw [Φ.sc]
  exact h.1
theorem Fit.okB (Φ : Fit O G X Γ) {x : Str} (h : okB Γ x = true) : Gl X x ∧ X.mg x = none := by
  unfold J.okB at h
  rw [Bool.and_eq_true] at h
  exact ⟨(Φ.glB h.1).1, Φ.blts x (memS_iff h.2)⟩
theorem relab {scope : Scope} {env : PySem.Env} {sc : Scope} (h : env.scope = sc) : relabel scope env = relS scope sc := by
  subst h
  rfl
/-- inside a comprehension -/
theorem Fit.blk (Φ : Fit O G X Γ) {scope : Scope} (hk : scope.kind = .function) (s : Shared) (H : Hp) (C : Addr) (cl : List (Str × Addr)) (fp : List Addr) : Fit O G (X.blk s H scope (compEnvC scope cl C X.env) fp) { Γ with sc := relS scope Γ.sc, fs := scope } :=
  ⟨Φ.N, Φ.nd, relab Φ.sc, hk, fun x h => by
    show (scope.names.lookup x == some NameKind.cell) = true
    rw [show scope.names.lookup x = some .cell from h]
    rfl, Φ.pr, Φ.calm, Φ.hu, Φ.cons, Φ.blts, fun e m => by
    obtain ⟨k, n, f, fd, ps, dvs, ds, h⟩ := (Φ.fns e m).ex
    exact ⟨k, n, f, fd, ps, dvs, ds, h⟩, fun e m => by
    obtain ⟨k, n, f, fd, ps, dvs, ds, h⟩ := (Φ.mks e m).ex
    exact ⟨k, n, f, fd, ps, dvs, ds, h⟩, Φ.fld, fun e m => by
    obtain ⟨k, n, f, fd, ps, dvs, ds, h⟩ := (Φ.kfs e m).ex
    exact ⟨k, n, f, fd, ps, dvs, ds, h⟩, fun e m => by
    obtain ⟨k, n, f, fd, ps, dvs, ds, gV, h⟩ := (Φ.kms e m).ex
    exact ⟨k, n, f, fd, ps, dvs, ds, gV, h⟩, Φ.cls, Φ.kt, Φ.ki⟩
end

/-! ### the checks: what changes nothing, places, targets -/
def okU (Γ : Gm) : Ux → Expr → Bool
  | .var i, e => match e with
    | .Name x _ => okN Γ i x
    | _ => false
  | .int i, e => match e with
    | .Constant (.int j) _ _ => decide (i = j)
    | _ => false
  | .str s, e => match e with
    | .Constant (.str t) _ _ => decide (s = t)
    | _ => false
  | .nil, e => match e with
    | .List [] _ => true
    | _ => false
  | .neg a, e => match e with
    | .UnaryOp .USub x _ => okU Γ a x
    | _ => false
  | .add a b, e => match e with
    | .BinOp x .Add y _ => okU Γ a x && okU Γ b y
    | _ => false
  | .sub a b, e => match e with
    | .BinOp x .Sub y _ => okU Γ a x && okU Γ b y
    | _ => false
def okP (Γ : Gm) : Px → Expr → Bool
  | .var i, e => match e with
    | .Name x _ => okN Γ i x
    | _ => false
  | .ix p u, e => match e with
    | .Subscript a b _ => okP Γ p a && okU Γ u b && noSlice b
    | _ => false
  | .fld p f, e => match e with
    | .Attribute a g _ => decide (f = g) && okP Γ p a && noCall a
    | _ => false
def noSliceS : Expr → Bool
  | .Slice _ _ none _ => false
  | _ => true
mutual
def okG (Γ : Gm) : Tg → Expr → Bool
  | .nm i, e => match e with
    | .Name x _ => okL Γ i x
    | _ => false
  | .tup l, e => match e with
    | .Tuple es _ _ => okGs Γ l es && noStars es
    | _ => false
  | .set p u, e => match e with
    | .Subscript a b _ => okP Γ p a && okU Γ u b && noSlice b
    | _ => false
  | .fld p f, e => match e with
    | .Attribute a g _ => decide (f = g) && okP Γ p a && noCall a
    | _ => false
def okGs (Γ : Gm) : Tgs → List Expr → Bool
  | .nil, es => match es with
    | [] => true
    | _ => false
  | .cons g r, es => match es with
    | e :: es => okG Γ g e && okGs Γ r es
    | _ => false
end
mutual
def tsG : Tg → List Nat
  | .nm i => [i]
  | .tup l => tsGs l
  | _ => []
def tsGs : Tgs → List Nat
  | .nil => []
  | .cons g r => tsG g ++ tsGs r
end
def wGr (ev : D → Env → R Env) : WG := fun d ρ k => ∃ ρ1, ev d ρ = .ok ρ1 ∧ k ρ1
def wGsr (ev : List D → Env → R Env) : WGs := fun d ρ k => ∃ ρ1, ev d ρ = .ok ρ1 ∧ k ρ1
section
variable {O : Or} {G : G0} {X : Cx} {Γ : Gm}
theorem sU (Φ : Fit O G X Γ) : ∀ (u : Ux) (e : Expr), okU Γ u e = true → DPu G X e (ofU u)
  | .var i, e, h => by
    unfold okU at h
    split at h
    · obtain ⟨h1, h2, h3, h4⟩ := Φ.okN h
      exact du_var i h1 h2 h3 h4
    · cases h
  | .int i, e, h => by
    unfold okU at h
    split at h
    · cases of_decide_eq_true h
      exact du_int
    · cases h
  | .str i, e, h => by
    unfold okU at h
    split at h
    · cases of_decide_eq_true h
      exact du_str
    · cases h
  | .nil, e, h => by
    unfold okU at h
    split at h
    · exact du_nil
    · cases h
  | .neg a, e, h => by
    unfold okU at h
    split at h
    · exact du_neg (sU Φ a _ h)
    · cases h
  | .add a b, e, h => by
    unfold okU at h
    split at h
    · rw [Bool.and_eq_true] at h
      exact du_op op_add (sU Φ a _ h.1) (sU Φ b _ h.2)
    · cases h
  | .sub a b, e, h => by
    unfold okU at h
    split at h
    · rw [Bool.and_eq_true] at h
      exact du_op op_sub (sU Φ a _ h.1) (sU Φ b _ h.2)
    · cases h
theorem sP (Φ : Fit O G X Γ) : ∀ (p : Px) (e : Expr), okP Γ p e = true → DPth G X e (rootP p) (ofP O.fx p)
  | .var i, e, h => by
    unfold okP at h
    split at h
    · obtain ⟨h1, h2, h3, h4⟩ := Φ.okN h
      exact dp_var i h1 h2 h3 h4
    · cases h
  | .ix p u, e, h => by
    unfold okP at h
    split at h
    · simp only [Bool.and_eq_true] at h
      exact dp_ix (sP Φ p _ h.1.1) (sU Φ u _ h.1.2) (ix_plain h.2)
    · cases h
  | .fld p f, e, h => by
    unfold okP at h
    split at h
    · simp only [Bool.and_eq_true, decide_eq_true_eq] at h
      obtain ⟨⟨rfl, h1⟩, h2⟩ := h
      exact dp_fld (Φ.fld f) (sP Φ p _ h1) (att_plain h2)
    · cases h
theorem sub_plain {o e : Expr} {pos : Pos} {env : PySem.Env} (h : noSlice e = true) (v : Value) : assign (.Subscript o e pos) env v = (do
      let ov ← holding [v] (eval o env)
      let iv ← holding [v, ov] (eval e env)
      standAt pos
      holding [v, ov, iv] (setItem ov iv v)
      release [v, ov, iv] []) := by
  cases e <;> first | rfl | cases h
def lenTgs : Tgs → Nat
  | .nil => 0
  | .cons _ r => lenTgs r + 1
theorem evGs_len {fx : Str → Nat → Option Nat} : ∀ {g : Tgs} {ds : List D} {ρ ρ1 : Env}, evGs fx g ds ρ = .ok ρ1 → ds.length = lenTgs g
  | .nil, ds, ρ, ρ1, h => by
    cases ds with
    | nil => rfl
    | cons _ _ => cases h
  | .cons g r, ds, ρ, ρ1, h => by
    cases ds with
    | nil => cases h
    | cons d ds =>
      simp only [evGs, bind_ok] at h
      obtain ⟨ρ2, e1, e2⟩ := h
      show ds.length + 1 = lenTgs r + 1
      rw [evGs_len e2]
theorem okG_star {g : Tg} {e : Expr} (h : okG Γ g e = true) : noStar e = true := by
    cases e <;> first | rfl | (cases g <;> cases h)
theorem okGs_len : ∀ {g : Tgs} {es : List Expr}, okGs Γ g es = true → es.length = lenTgs g
  | .nil, es, h => by
    cases es with
    | nil => rfl
    | cons _ _ => cases h
  | .cons g r, es, h => by
    cases es with
    | nil => cases h
    | cons e es =>
      have h' : okG Γ g e = true ∧ okGs Γ r es = true := by simpa [okGs] using h
      show es.length + 1 = lenTgs r + 1
      rw [okGs_len h'.2]
mutual
theorem sG (Φ : Fit O G X Γ) : ∀ (g : Tg) (e : Expr), okG Γ g e = true → DG G X e (tsG g) (wGr (evG O.fx g))
  | .nm i, e, h => by
    unfold okG at h
    split at h
    · obtain ⟨h1, h2, h3, h4⟩ := Φ.okL h
      refine (dg_name i h1 Φ.nd h2 h3 h4).weak fun d ρ k ⟨ρ1, ev, hk⟩ => ?_
      cases ev
      exact hk
    · cases h
  | .tup l, e, h => by
    unfold okG at h
    split at h
    · simp only [Bool.and_eq_true] at h
      refine (dg_tup Φ.calm (sGs Φ l _ h.1) (asg_len h.2) (asg_find h.2)).weak fun d ρ k ⟨ρ1, ev, hk⟩ => ?_
      unfold evG at ev
      split at ev
      · rename_i ds
        exact ⟨by rw [okGs_len h.1]; exact evGs_len ev, ρ1, ev, hk⟩
      · cases ev
    · cases h
  | .set p u, e, h => by
    unfold okG at h
    split at h
    · simp only [Bool.and_eq_true] at h
      refine (dg_set (sP Φ p _ h.1.1) (sU Φ u _ h.1.2) (fun v => sub_plain h.2 v)).weak fun d ρ k ⟨ρ1, ev, hk⟩ => ?_
      simp only [evG, bind_ok, of_ok] at ev
      obtain ⟨t, e1, js, e2, ev⟩ := ev
      unfold gSet
      try simp only [e1, e2]
      split at ev
      · rename_i l n e3 e4
        simp only [bind_ok, of_ok] at ev
        obtain ⟨j, e5, ev⟩ := ev
        cases ev
        try simp only [e3, e4, e5]
        exact hk
      · cases ev
    · cases h
  | .fld p f, e, h => by
    unfold okG at h
    split at h
    · simp only [Bool.and_eq_true, decide_eq_true_eq] at h
      obtain ⟨⟨rfl, h1⟩, h2⟩ := h
      refine (dg_fld (Φ.fld f) (sP Φ p _ h1)).weak fun d ρ k ⟨ρ1, ev, hk⟩ => ?_
      simp only [evG, bind_ok, of_ok] at ev
      obtain ⟨t, e1, js, e2, ev⟩ := ev
      unfold gFld
      try simp only [e1, e2]
      split at ev
      · rename_i c l e3
        simp only [bind_ok, of_ok] at ev
        obtain ⟨j, e4, l', e5, ev⟩ := ev
        obtain ⟨hl, rfl⟩ := if_ok.mp ev
        try simp only [e3, e4, e5]
        exact ⟨hl, hk⟩
      · cases ev
    · cases h
theorem sGs (Φ : Fit O G X Γ) : ∀ (g : Tgs) (es : List Expr), okGs Γ g es = true → DGs G X es (tsGs g) (wGsr (evGs O.fx g))
  | .nil, es, h => by
    unfold okGs at h
    split at h
    · refine dgs_nil.weak fun d ρ k ⟨ρ1, ev, hk⟩ => ?_
      cases d with
      | nil => cases ev; exact hk
      | cons _ _ => cases ev
    · cases h
  | .cons g r, es, h => by
    unfold okGs at h
    split at h
    · rename_i e es
      rw [Bool.and_eq_true] at h
      refine (dgs_cons (sG Φ g _ h.1) (sGs Φ r _ h.2) (asg_map (okG_star h.1))).weak fun d ρ k ⟨ρ1, ev, hk⟩ => ?_
      cases d with
      | nil => cases ev
      | cons d ds =>
        simp only [evGs, bind_ok] at ev
        obtain ⟨ρ2, e1, e2⟩ := ev
        exact ⟨ρ2, e1, ρ1, e2, hk⟩
    · cases h
end
end
end J

set_option Elab.async false
set_option linter.all false
set_option maxRecDepth 100000
set_option maxHeartbeats 4000000
namespace J
open PySem PySem.Spec PyProof.Rows L2

/-! ### the checks of expressions -/
def memF (x : Str) (f : Nat) (dd : List D) : List (Str × Nat × List D) → Bool
  | [] => false
  | (y, g, ds) :: r => (decide (x = y) && decide (f = g) && dEqs dd ds) || memF x f dd r
def memM (x : Str) (c f : Nat) (dd : List D) : List (Str × Nat × Nat × List D) → Bool
  | [] => false
  | (y, c', g, ds) :: r => (decide (x = y) && decide (c = c') && decide (f = g) && dEqs dd ds) || memM x c f dd r
theorem memF_iff {x : Str} {f : Nat} {dd : List D} : ∀ {l : List (Str × Nat × List D)}, memF x f dd l = true → (x, f, dd) ∈ l
  | [], h => by cases h
  | (y, g, ds) :: r, h => by
    unfold memF at h
    simp only [Bool.or_eq_true, Bool.and_eq_true, decide_eq_true_eq] at h
    rcases h with ⟨⟨rfl, rfl⟩, h⟩ | h
    · rw [dEqs_eq _ _ h]
      exact List.mem_cons_self
    · exact List.mem_cons_of_mem _ (memF_iff h)
theorem memM_iff {x : Str} {c f : Nat} {dd : List D} : ∀ {l : List (Str × Nat × Nat × List D)}, memM x c f dd l = true → (x, c, f, dd) ∈ l
  | [], h => by cases h
  | (y, c', g, ds) :: r, h => by
    unfold memM at h
    simp only [Bool.or_eq_true, Bool.and_eq_true, decide_eq_true_eq] at h
    rcases h with ⟨⟨⟨rfl, rfl⟩, rfl⟩, h⟩ | h
    · rw [dEqs_eq _ _ h]
      exact List.mem_cons_self
    · exact List.mem_cons_of_mem _ (memM_iff h)
def memK (x : Str) (f n : Nat) (ks : List Str) (pm : List Pm) (dd : List D) : List (Str × Nat × Nat × List Str × List Pm × List D) → Bool
  | [] => false
  | (y, g, m, ks', pm', ds) :: r => (decide (x = y) && decide (f = g) && decide (n = m) && decide (ks = ks') && decide (pm = pm') && dEqs dd ds) || memK x f n ks pm dd r
def memKm (x : Str) (c f n : Nat) (ks : List Str) (pm : List Pm) (dd : List D) : List (Str × Nat × Nat × Nat × List Str × List Pm × List D) → Bool
  | [] => false
  | (y, c', g, m, ks', pm', ds) :: r => (decide (x = y) && decide (c = c') && decide (f = g) && decide (n = m) && decide (ks = ks') && decide (pm = pm') && dEqs dd ds) || memKm x c f n ks pm dd r
theorem memK_iff {x : Str} {f n : Nat} {ks : List Str} {pm : List Pm} {dd : List D} : ∀ {l : List (Str × Nat × Nat × List Str × List Pm × List D)}, memK x f n ks pm dd l = true → (x, f, n, ks, pm, dd) ∈ l
  | [], h => by cases h
  | (y, g, m, ks', pm', ds) :: r, h => by
    unfold memK at h
    simp only [Bool.or_eq_true, Bool.and_eq_true, decide_eq_true_eq] at h
    rcases h with ⟨⟨⟨⟨⟨rfl, rfl⟩, rfl⟩, rfl⟩, rfl⟩, h⟩ | h
    · rw [dEqs_eq _ _ h]
      exact List.mem_cons_self
    · exact List.mem_cons_of_mem _ (memK_iff h)
theorem memKm_iff {x : Str} {c f n : Nat} {ks : List Str} {pm : List Pm} {dd : List D} : ∀ {l : List (Str × Nat × Nat × Nat × List Str × List Pm × List D)}, memKm x c f n ks pm dd l = true → (x, c, f, n, ks, pm, dd) ∈ l
  | [], h => by cases h
  | (y, c', g, m, ks', pm', ds) :: r, h => by
    unfold memKm at h
    simp only [Bool.or_eq_true, Bool.and_eq_true, decide_eq_true_eq] at h
    rcases h with ⟨⟨⟨⟨⟨⟨rfl, rfl⟩, rfl⟩, rfl⟩, rfl⟩, rfl⟩, h⟩ | h
    · rw [dEqs_eq _ _ h]
      exact List.mem_cons_self
    · exact List.mem_cons_of_mem _ (memKm_iff h)
def memC (x : Str) (c : Nat) : List (Str × Nat) → Bool
  | [] => false
  | (y, d) :: r => (decide (x = y) && decide (c = d)) || memC x c r
theorem memC_iff {x : Str} {c : Nat} : ∀ {l : List (Str × Nat)}, memC x c l = true → (x, c) ∈ l
  | [], h => by cases h
  | (y, d) :: r, h => by
    unfold memC at h
    simp only [Bool.or_eq_true, Bool.and_eq_true, decide_eq_true_eq] at h
    rcases h with ⟨rfl, rfl⟩ | h
    · exact List.mem_cons_self
    · exact List.mem_cons_of_mem _ (memC_iff h)
def Ty8.st : Ty8 → Str
  | .non => "NoneType"
  | .bl => "bool"
  | .int => "int"
  | .str => "str"
  | .tup => "tuple"
  | .lst => "list"
/-- a name of a type -/
def okTy (Γ : Gm) : Kt → Str → Bool
  | .b t, x => decide (t ≠ .non) && decide (x = t.st) && okB Γ x
  | .c c, x => glB Γ x && memC x c Γ.cls
theorem Fit.okTy {O : Or} {G : G0} {X : Cx} {Γ : Gm} (Φ : Fit O G X Γ) {t : Kt} {x : Str} (h : okTy Γ t x = true) : (∃ v, TyName X G.ca x t v) ∧ (x == ("__debug__" : Str)) = false := by
  cases t with
  | b t =>
    unfold J.okTy at h
    simp only [Bool.and_eq_true, decide_eq_true_eq] at h
    obtain ⟨⟨h1, rfl⟩, h2⟩ := h
    obtain ⟨g1, g2⟩ := Φ.okB h2
    unfold J.okB at h2
    rw [Bool.and_eq_true] at h2
    refine ⟨⟨_, .b g1 g2 ?_ ?_⟩, (Φ.glB h2.1).2⟩
    · cases t <;> first | exact absurd rfl h1 | decide +kernel
    · cases t <;> decide
  | c c =>
    unfold J.okTy at h
    simp only [Bool.and_eq_true] at h
    obtain ⟨g1, g2⟩ := Φ.glB h.1
    exact ⟨⟨_, .c g1 (Φ.cls _ (memC_iff h.2))⟩, g2⟩
def isTup : Expr → Bool
  | .Tuple _ _ _ => true
  | _ => false
def offP (Γ : Gm) : List Nat → Bool
  | [] => true
  | v :: r => !memN v Γ.pr && offP Γ r
def subN : List Nat → List Nat → Bool
  | [], _ => true
  | v :: r, vs => memN v vs && subN r vs
theorem offP_iff {Γ : Gm} : ∀ {l : List Nat}, offP Γ l = true → ∀ v ∈ l, v ∉ Γ.pr
  | [], _, v, m => by simp at m
  | x :: r, h, v, m => by
    unfold offP at h
    rw [Bool.and_eq_true] at h
    rcases List.mem_cons.mp m with rfl | m
    · intro z
      rw [memN_iff.mpr z] at h
      cases h.1
    · exact offP_iff h.2 v m
theorem subN_iff : ∀ {l vs : List Nat}, subN l vs = true → ∀ v ∈ l, v ∈ vs
  | [], _, _, v, m => by simp at m
  | x :: r, vs, h, v, m => by
    unfold subN at h
    rw [Bool.and_eq_true] at h
    rcases List.mem_cons.mp m with rfl | m
    · exact memN_iff.mp h.1
    · exact subN_iff h.2 v m
/-- the names of keywords -/
def knames : List Keyword → List Str
  | [] => []
  | ⟨some n, _, _⟩ :: r => n :: knames r
  | _ :: r => knames r
def allKw : List Keyword → Bool
  | [] => true
  | ⟨some _, _, _⟩ :: r => allKw r
  | _ :: _ => false
theorem kw_all {pos : Pos} {env : PySem.Env} : ∀ {kws : List Keyword}, allKw kws = true → (backToKw pos (keywordEach kws env)).all (·.1.isSome) = true ∧ (backToKw pos (keywordEach kws env)).filterMap (·.1) = knames kws ∧ (backToKw pos (keywordEach kws env)).any (·.1.isNone) = false
  | [], _ => ⟨rfl, rfl, rfl⟩
  | ⟨some n, e, p⟩ :: r, h => by
    obtain ⟨h1, h2, h3⟩ := kw_all (pos := pos) (env := env) (kws := r) h
    refine ⟨?_, ?_, ?_⟩
    · show ((true : Bool) && (backToKw pos (keywordEach r env)).all (·.1.isSome)) = true
      rw [h1]; rfl
    · show n :: (backToKw pos (keywordEach r env)).filterMap (·.1) = n :: knames r
      rw [h2]
    · show (false || (backToKw pos (keywordEach r env)).any (·.1.isNone)) = false
      rw [h3]; rfl
  | ⟨none, _, _⟩ :: r, h => by cases h
/-- a call with arguments is fine ahead of a dot -/
def noCall2 : Expr → Bool
  | .Call _ [] _ _ => false
  | _ => true
theorem att_plain2 {o : Expr} {f : Str} {env : PySem.Env} {w : Sem Value} (h : noCall2 o = true) : attributeBase o f env w = w := by
  cases o <;> first | rfl | skip
  rename_i f0 as ks p
  cases as with
  | nil => cases h
  | cons a r => cases f0 <;> rfl
mutual
def okE (Γ : Gm) : Ex → Expr → Bool
  | .var i, e => match e with
    | .Name x _ => okN Γ i x
    | _ => false
  | .con d, e => match e with
    | .Constant (.int i) _ _ => dEq d (.int i)
    | .Constant (.bool i) _ _ => dEq d (.bl i)
    | .Constant (.str i) _ _ => dEq d (.str i)
    | .Constant .none _ _ => dEq d .non
    | .Name x _ => glB Γ x && (match Γ.cons.lookup x with
      | some d' => dEq d d'
      | none => false)
    | _ => false
  | .op o a b, e => match e with
    | .BinOp x p y _ => decide (o.o = p) && okE Γ a x && okE Γ b y
    | _ => false
  | .cmp o a b, e => match e with
    | .Compare x [p] [y] _ => decide (o.o = p) && okE Γ a x && okE Γ b y && noSet y
    | _ => false
  | .chn o o' a b c, e => match e with
    | .Compare x [p, p'] [y, z] _ => decide (o.o = p) && decide (o'.o = p') && okE Γ a x && okE Γ b y && okE Γ c z && noSet z
    | _ => false
  | .neg a, e => match e with
    | .UnaryOp .USub x _ => okE Γ a x
    | _ => false
  | .band a b, e => match e with
    | .BoolOp .And (x :: y :: r) pos => okE Γ a x && okE Γ b (.BoolOp .And (y :: r) pos)
    | _ => false
  | .bor a b, e => match e with
    | .BoolOp .Or (x :: y :: r) pos => okE Γ a x && okE Γ b (.BoolOp .Or (y :: r) pos)
    | _ => false
  | .bone a, e => match e with
    | .BoolOp _ [x] _ => okE Γ a x
    | _ => false
  | .bnot a, e => match e with
    | .UnaryOp .Not x _ => okE Γ a x
    | _ => false
  | .ife t a b, e => match e with
    | .IfExp c x y _ => okT Γ t c && okE Γ a x && okE Γ b y
    | _ => false
  | .fz q, e => okQ Γ q e
  | .tup l, e => match e with
    | .Tuple es _ _ => okA Γ l es
    | _ => false
  | .cb f l, e => match e with
    | .Call (.Name x _) (y :: es) [] _ => decide (x = f.nm) && okB Γ x && noStars (y :: es) && okA Γ l (y :: es)
    | _ => false
  | .cbv f v, e => match e with
    | .Call (.Name x _) [y] [] _ => decide (x = f.nm) && f.fl && okB Γ x && noStar y && okV Γ v y
    | _ => false
  | .cmpv o a v, e => match e with
    | .Compare x [p] [y] _ => decide (o.o = p) && okE Γ a x && okV Γ v y && noSet y
    | _ => false
  | .cmpl o v u, e => match e with
    | .Compare x [p] [y] _ => decide (o.o = p) && okV Γ v x && okU Γ u y && noSet y
    | _ => false
  | .ix a b, e => match e with
    | .Subscript x y _ => okE Γ a x && okE Γ b y && noSlice y
    | _ => false
  | .slt a lo hi, e => match e with
    | .Subscript x (.Slice l h none _) _ => okE Γ a x && okO Γ lo l && okO Γ hi h
    | _ => false
  | .fld a f, e => match e with
    | .Attribute x g _ => decide (f = g) && okE Γ a x && noCall x
    | _ => false
  | .pth p, e => okP Γ p e
  | .popAt i a, e => match e with
    | .Call (.Attribute (.Name x _) m ap) [y] [] pos => decide (m = "pop") && okN Γ i x && okE Γ a y && noStar y && (ap.endLine == pos.line)
    | _ => false
  | .remI i a, e => match e with
    | .Call (.Attribute (.Name x _) m ap) [y] [] pos => decide (m = "remove") && okN Γ i x && okE Γ a y && noStar y && (ap.endLine == pos.line)
    | _ => false
  | .isi a t, e => match e with
    | .Call (.Name x _) [y, .Name z _] [] _ => decide (x = "isinstance") && okB Γ x && noStar y && okE Γ a y && okTy Γ t z
    | _ => false
  | .isi2 a t t2, e => match e with
    | .Call (.Name x _) [y, .Tuple [.Name z _, .Name z2 _] _ _] [] _ => decide (x = "isinstance") && okB Γ x && noStar y && okE Γ a y && okTy Γ t z && okTy Γ t2 z2
    | _ => false
  | .idx o a, e => match e with
    | .Call (.Attribute x m ap) [y] [] pos => decide (m = "index") && noCall x && okE Γ o x && okE Γ a y && noStar y && (ap.endLine == pos.line)
    | _ => false
  | .cnt o a, e => match e with
    | .Call (.Attribute x m ap) [y] [] pos => decide (m = "count") && noCall2 x && okE Γ o x && okE Γ a y && noStar y && (ap.endLine == pos.line)
    | _ => false
def okQ (Γ : Gm) : Qx → Expr → Bool
  | .v a, e => okE Γ a e
  | .dsp l, e => match e with
    | .List es _ => okQs Γ l es
    | _ => false
  | .lst l, e => match e with
    | .List es _ => okA Γ l es
    | _ => false
  | .lc it g ifs el own, e => match e with
    | .ListComp x [⟨tg, iter, fs, 0⟩] scope _ => noSet iter && okI Γ it tg iter && decide (scope.kind = .function) && blkC Γ.N Γ.sc scope own && offP Γ (ownV own) && subN (tsG g) (ownV own) &&
      okG { Γ with sc := relS scope Γ.sc, fs := scope } g tg && okTs { Γ with sc := relS scope Γ.sc, fs := scope } ifs fs && okQ { Γ with sc := relS scope Γ.sc, fs := scope } el x
    | _ => false
  | .lc2 it g ifs it1 g1 ifs1 el own vs1, e => match e with
    | .ListComp x [⟨tg, iter, fs, 0⟩, ⟨tg1, iter1, fs1, 0⟩] scope _ => noSet iter && noSet iter1 && okI Γ it tg iter && decide (scope.kind = .function) && blkC Γ.N Γ.sc scope own && offP Γ (ownV own) && subN vs1 (ownV own) && subN (tsG g) (ownV own) && subN (tsG g1) vs1 &&
      okG { Γ with sc := relS scope Γ.sc, fs := scope } g tg && okTs { Γ with sc := relS scope Γ.sc, fs := scope } ifs fs && okI { Γ with sc := relS scope Γ.sc, fs := scope } it1 tg1 iter1 && okG { Γ with sc := relS scope Γ.sc, fs := scope } g1 tg1 &&
      okTs { Γ with sc := relS scope Γ.sc, fs := scope } ifs1 fs1 && okQ { Γ with sc := relS scope Γ.sc, fs := scope } el x
    | _ => false
  | .call vw f l dd, e => match e with
    | .Call (.Name x _) (y :: es) [] _ => glB Γ x && memF x f dd Γ.fns && noStars (y :: es) && okAv Γ vw l (y :: es)
    | _ => false
  | .callM i f l dd, e => match e with
    | .Call (.Name x _) (.Name y _ :: es) [] _ => glB Γ x && memF x f dd Γ.fns && okN Γ i y && noStars es && okA Γ l es
    | _ => false
  | .make vw c f l dd, e => match e with
    | .Call (.Name x _) (y :: es) [] _ => glB Γ x && memM x c f dd Γ.mks && noStars (y :: es) && okAv Γ vw l (y :: es)
    | _ => false
  | .list l, e => match e with
    | .Call (.Name x _) [y] [] _ => decide (x = "list") && okB Γ x && noStar y && okA Γ l [y]
    | _ => false
  | .lrng a, e => match e with
    | .Call (.Name x _) [.Call (.Name z _) [y] [] _] [] _ => decide (x = "list") && decide (z = "range") && okB Γ x && okB Γ z && noStar y && okE Γ a y
    | _ => false
  | .sll a lo hi, e => match e with
    | .Subscript x (.Slice l h none _) _ => okE Γ a x && okO Γ lo l && okO Γ hi h
    | _ => false
  | .cat a b, e => match e with
    | .BinOp x .Add y _ => okE Γ a x && okE Γ b y
    | _ => false
  | .rep a b, e => match e with
    | .BinOp x .Mult y _ => okE Γ a x && okE Γ b y
    | _ => false
  | .callK f l kw pm dd, e => match e with
    | .Call (.Name x _) (y :: es) kws _ => glB Γ x && memK x f (es.length + 1) (knames kws) pm dd Γ.kfs && noStars (y :: es) && okA Γ l (y :: es) && allKw kws && okKw Γ kw kws
    | _ => false
  | .makeK c f l kw pm dd, e => match e with
    | .Call (.Name x _) (y :: es) kws _ => glB Γ x && memKm x c f (es.length + 1) (knames kws) pm dd Γ.kms && noStars (y :: es) && okA Γ l (y :: es) && allKw kws && okKw Γ kw kws
    | _ => false
  | .lrng2 a b, e => match e with
    | .Call (.Name x _) [.Call (.Name z _) [y, w] [] _] [] _ => decide (x = "list") && decide (z = "range") && okB Γ x && okB Γ z && noStar y && noStar w && okE Γ a y && okE Γ b w
    | _ => false
def okT (Γ : Gm) : Tx → Expr → Bool
  | .cmp o a b, e => match e with
    | .Compare x [p] [y] _ => decide (o.o = p) && okE Γ a x && okE Γ b y && noSet y
    | _ => false
  | .chn o o' a b c, e => match e with
    | .Compare x [p, p'] [y, z] _ => decide (o.o = p) && decide (o'.o = p') && okE Γ a x && okE Γ b y && okE Γ c z && noSet z
    | _ => false
  | .val a, e => plainTest e && okE Γ a e
  | .not t, e => match e with
    | .UnaryOp .Not x _ => okT Γ t x
    | _ => false
  | .bw w, e => okW Γ w e
  | .cmpv o a v, e => match e with
    | .Compare x [p] [y] _ => decide (o.o = p) && okE Γ a x && okV Γ v y && noSet y
    | _ => false
  | .cmpl o v u, e => match e with
    | .Compare x [p] [y] _ => decide (o.o = p) && okV Γ v x && okU Γ u y && noSet y
    | _ => false
def okW (Γ : Gm) : Wx → Expr → Bool
  | .and1 t, e => match e with
    | .BoolOp .And [x] _ => okT Γ t x
    | _ => false
  | .or1 t, e => match e with
    | .BoolOp .Or [x] _ => okT Γ t x
    | _ => false
  | .and t w, e => match e with
    | .BoolOp .And (x :: y :: r) pos => okT Γ t x && okW Γ w (.BoolOp .And (y :: r) pos)
    | _ => false
  | .or t w, e => match e with
    | .BoolOp .Or (x :: y :: r) pos => okT Γ t x && okW Γ w (.BoolOp .Or (y :: r) pos)
    | _ => false
def okO (Γ : Gm) : Ox → Option Expr → Bool
  | .no, e => match e with
    | none => true
    | _ => false
  | .so a, e => match e with
    | some x => okE Γ a x
    | _ => false
def okA (Γ : Gm) : As → List Expr → Bool
  | .nil, es => match es with
    | [] => true
    | _ => false
  | .cons a r, es => match es with
    | e :: es => noStar e && okE Γ a e && okA Γ r es
    | _ => false
  | .star a r, es => match es with
    | .Starred e _ :: es => okE Γ a e && okA Γ r es
    | _ => false
def okKw (Γ : Gm) : As → List Keyword → Bool
  | .nil, es => match es with
    | [] => true
    | _ => false
  | .cons a r, es => match es with
    | ⟨_, e, _⟩ :: es => okE Γ a e && okKw Γ r es
    | _ => false
  | .star _ _, _ => false
def okAv (Γ : Gm) (vw : Bool) : Av → List Expr → Bool
  | .nil, es => match es with
    | [] => true
    | _ => false
  | .cons a r, es => match es with
    | e :: es => noStar e && okE Γ a e && okAv Γ vw r es
    | _ => false
  | .vw i r, es => match es with
    | .Name x _ :: es => vw && okN Γ i x && okAv Γ vw r es
    | _ => false
def okQs (Γ : Gm) : Qs → List Expr → Bool
  | .nil, es => match es with
    | [] => true
    | _ => false
  | .cons q r, es => match es with
    | e :: es => noStar e && okQ Γ q e && okQs Γ r es
    | _ => false
def okV (Γ : Gm) : Vx → Expr → Bool
  | .e a, e => okE Γ a e
  | .p p, e => okP Γ p e
def okI (Γ : Gm) : Ix → Expr → Expr → Bool
  | .sq a, _, e => okE Γ a e
  | .zip l, tg, e => match e with
    | .Call (.Name x _) [a, b] [] _ => decide (x = "zip") && isTup tg && okB Γ x && noStars [a, b] && okA Γ l [a, b]
    | _ => false
  | .zip3 l, tg, e => match e with
    | .Call (.Name x _) [a, b, c] [] _ => decide (x = "zip") && isTup tg && okB Γ x && noStars [a, b, c] && okA Γ l [a, b, c]
    | _ => false
  | .enum l, tg, e => match e with
    | .Call (.Name x _) [a] [] _ => decide (x = "enumerate") && isTup tg && okB Γ x && noStar a && okA Γ l [a]
    | _ => false
  | .rng1 l, _, e => match e with
    | .Call (.Name x _) [a] [] _ => decide (x = "range") && okB Γ x && noStar a && okA Γ l [a]
    | _ => false
  | .rng2 l, _, e => match e with
    | .Call (.Name x _) [a, b] [] _ => decide (x = "range") && okB Γ x && noStars [a, b] && okA Γ l [a, b]
    | _ => false
def okTs (Γ : Gm) : Ts → List Expr → Bool
  | .nil, es => match es with
    | [] => true
    | _ => false
  | .one t, es => match es with
    | [e] => okT Γ t e
    | _ => false
end

/-! ### the loops of comprehensions -/
theorem drop_at {α : Type} {l : List α} {i : Nat} {d : α} (h : l[i]? = some d) : l.drop i = d :: l.drop (i + 1) := by
  obtain ⟨hi, e⟩ := List.getElem?_eq_some_iff.mp h
  rw [List.drop_eq_getElem_cons hi, e]
theorem lc_go {vs : List Nat} {g : D → Env → R Env} {tt : Env → R (Env × Bool)} {te : Env → R (Env × T)} {ds : List D} {ρ1 ρ2 : Env} {acc : List T} {post : Env → T → Prop} (h : lcJ vs g tt te ds [] (wipeB ρ1 vs) = .ok (ρ2, acc)) (hp : post (mrg 0 vs ρ1 ρ2) (.lst acc)) :
    ∃ Iv : Nat → List T → Env → Prop, Iv 0 [] (wipeB ρ1 vs) ∧ (∀ i d acc ρ, ds[i]? = some d → Iv i acc ρ → wGr g d ρ fun ρ2 => wR tt ρ2 fun ρ3 k => match k with
      | true => wR te ρ3 fun ρ4 x => Iv (i + 1) (acc ++ [x]) (wipeB ρ4 vs)
      | false => Iv (i + 1) acc (wipeB ρ3 vs)) ∧ ∀ acc ρ, Iv ds.length acc ρ → post (mrg 0 vs ρ1 ρ) (.lst acc) := by
  refine ⟨fun i a r => lcJ vs g tt te (ds.drop i) a r = .ok (ρ2, acc), by simpa using h, fun i d a r e hi => ?_, fun a r hi => ?_⟩
  · dsimp only at hi
    rw [drop_at e] at hi
    simp only [lcJ, bind_ok, bnd_ok] at hi
    obtain ⟨r2, e1, r3, k, e2, hi⟩ := hi
    refine ⟨r2, e1, r3, k, e2, ?_⟩
    cases k with
    | true =>
      simp only [bnd_ok] at hi
      obtain ⟨r4, x, e3, hi⟩ := hi
      exact ⟨r4, x, e3, hi⟩
    | false => exact hi
  · dsimp only at hi
    rw [List.drop_length] at hi
    cases hi
    exact hp
theorem lc2_go {vs vs1 : List Nat} {g g1 : D → Env → R Env} {tt tt1 : Env → R (Env × Bool)} {it1 : Env → R (Env × List D)} {te : Env → R (Env × T)} {ds : List D} {ρ1 ρ2 : Env} {acc : List T} {post : Env → T → Prop} (h : lcJ2 vs g tt it1 vs1 g1 tt1 te ds [] (wipeB ρ1 vs) = .ok (ρ2, acc)) (hp : post (mrg 0 vs ρ1 ρ2) (.lst acc)) :
    ∃ Iv : Nat → List T → Env → Prop, Iv 0 [] (wipeB ρ1 vs) ∧ (∀ i d acc ρ, ds[i]? = some d → Iv i acc ρ → wGr g d ρ fun ρ2 => wR tt ρ2 fun ρ3 k => match k with
      | true => wR it1 ρ3 fun ρ4 es => ∃ Iw : Nat → List T → Env → Prop, Iw 0 acc (wipeB ρ4 vs1) ∧
        (∀ j e acc ρ, es[j]? = some e → Iw j acc ρ → wGr g1 e ρ fun ρ5 => wR tt1 ρ5 fun ρ6 k => match k with
          | true => wR te ρ6 fun ρ7 x => acc.length < 1000000 ∧ Iw (j + 1) (acc ++ [x]) (wipeB ρ7 vs1)
          | false => Iw (j + 1) acc (wipeB ρ6 vs1)) ∧
        ∀ acc ρ, Iw es.length acc ρ → Iv (i + 1) acc (wipeB ρ vs)
      | false => Iv (i + 1) acc (wipeB ρ3 vs)) ∧ ∀ acc ρ, Iv ds.length acc ρ → post (mrg 0 vs ρ1 ρ) (.lst acc) := by
  refine ⟨fun i a r => lcJ2 vs g tt it1 vs1 g1 tt1 te (ds.drop i) a r = .ok (ρ2, acc), by simpa using h, fun i d a r e hi => ?_, fun a r hi => ?_⟩
  · dsimp only at hi
    rw [drop_at e] at hi
    simp only [lcJ2, bind_ok, bnd_ok] at hi
    obtain ⟨r2, e1, r3, k, e2, hi⟩ := hi
    refine ⟨r2, e1, r3, k, e2, ?_⟩
    cases k with
    | true =>
      simp only [bnd_ok] at hi
      obtain ⟨r4, es, e3, r5, a1, e4, hi⟩ := hi
      refine ⟨r4, es, e3, fun j a r => lcI vs1 g1 tt1 te (es.drop j) a r = .ok (r5, a1), by simpa using e4, fun j e' a' r' ej hj => ?_, fun a' r' hj => ?_⟩
      · dsimp only at hj
        rw [drop_at ej] at hj
        simp only [lcI, bind_ok, bnd_ok] at hj
        obtain ⟨r6, e5, r7, k, e6, hj⟩ := hj
        refine ⟨r6, e5, r7, k, e6, ?_⟩
        cases k with
        | true =>
          simp only [bnd_ok] at hj
          obtain ⟨r8, x, e7, hj⟩ := hj
          refine ⟨r8, x, e7, ?_⟩
          split at hj
          · rename_i hl
            exact ⟨hl, hj⟩
          · cases hj
        | false => exact hj
      · dsimp only at hj
        rw [List.drop_length] at hj
        cases hj
        exact hi
    | false => exact hi
  · dsimp only at hi
    rw [List.drop_length] at hi
    cases hi
    exact hp
theorem evV_wv {i : Nat} {ρ : Env} {post : Env → D → Prop} (h : wR (evV i) ρ post) : wv i ρ post := by
  obtain ⟨ρ1, d, e, hp⟩ := h
  unfold evV at e
  unfold wv
  split at e
  · rename_i d' en
    cases e
    rw [en]
    have : ρ.set i (some (.v d)) = ρ := by
      have h' := nth_some en
      obtain ⟨hi, h''⟩ := List.getElem?_eq_some_iff.mp h'
      rw [← h'', List.set_getElem_self]
    show post (ρ.set i (some (.v (toD (.v d))))) (toD (.v d))
    simp only [toD]
    rw [this]
    exact hp
  · rename_i t hn en
    cases e
    rw [en]
    exact hp
  · cases e
theorem setP_id : ∀ {js : List Nat} {t s : T}, getP t js = some s → setP t js s = t
  | [], t, s, h => by cases h; rfl
  | j :: js, t, s, h => by
    unfold getP at h
    split at h
    · rename_i l ek
      split at h
      · rename_i u eu
        show (match kids t with
          | some l => (match l[j]? with
            | some u => withKids t (l.set j (setP u js s))
            | none => t)
          | none => t) = t
        simp only [ek, eu]
        rw [setP_id (js := js) h]
        have : l.set j u = l := by
          obtain ⟨hi, h''⟩ := List.getElem?_eq_some_iff.mp eu
          rw [← h'', List.set_getElem_self]
        rw [this]
        cases t <;> cases ek <;> rfl
      · cases h
    · cases h
theorem evP_wPth {fx : Str → Nat → Option Nat} {p : Px} {ρ : Env} {post : Env → D → Prop} (h : wR (evP fx p) ρ post) : wPth (rootP p) (ofP fx p) ρ post := by
  obtain ⟨ρ1, d, e, hp⟩ := h
  simp only [evP, bind_ok, of_ok] at e
  obtain ⟨t, e1, js, e2, s, e3, e⟩ := e
  unfold wPth
  try simp only [e1, e2, e3]
  split at e
  · rename_i d'
    cases e
    have : ρ.set (rootP p) (some t) = ρ := by
      have h' := nth_some e1
      obtain ⟨hi, h''⟩ := List.getElem?_eq_some_iff.mp h'
      rw [← h'', List.set_getElem_self]
    simp only [toD]
    rw [setP_id e3, this]
    exact hp
  · cases e
    exact hp
end J

set_option Elab.async false
set_option linter.all false
set_option maxRecDepth 100000
set_option maxHeartbeats 4000000
namespace J
open PySem PySem.Spec PyProof.Rows L2
theorem band3 {a b c : Bool} : (a && b && c) = true ↔ (a = true ∧ b = true) ∧ c = true := by simp
theorem noStars_cons {e : Expr} {r : List Expr} (h : noStars (e :: r) = true) : noStar e = true ∧ noStars r = true := by simpa [noStars] using h
theorem noStars_two {e f : Expr} (h : noStars [e, f] = true) : noStar e = true ∧ noStar f = true := by simpa [noStars] using h
theorem lt_of {vw : Bool} {t : T} (z : vw = true) (c : ¬(vw = true ∧ noLt t = false)) : noLt t = true := by
  cases hh : noLt t with
  | true => rfl
  | false => exact absurd ⟨z, hh⟩ c
theorem findIx_ok {y : D} : ∀ {l : List D} {k j : Nat}, findIx y l k = some j → ∃ i z, j = k + i ∧ l[i]? = some z ∧ deq z y = true ∧ ∀ (m : Nat) (z' : D), m < i → l[m]? = some z' → deq z' y = false
  | [], _, _, h => by cases h
  | x :: r, k, j, h => by
    unfold findIx at h
    split at h
    · rename_i hx
      cases h
      exact ⟨0, x, rfl, rfl, hx, fun m z' hm => absurd hm (Nat.not_lt_zero _)⟩
    · rename_i hx
      obtain ⟨i, z, e1, e2, e3, e4⟩ := findIx_ok h
      refine ⟨i + 1, z, by omega, by simpa using e2, e3, fun m z' hm hz => ?_⟩
      cases m with
      | zero =>
        simp at hz
        subst hz
        exact hx
      | succ m => exact e4 m z' (by omega) (by simpa using hz)
theorem few1 {e : Expr} {pos : Pos} {env : PySem.Env} (h : noStar e = true) : ((backTo pos (starEach [e] env)).all (fun x => !x.1) && (backToKw pos (keywordEach [] env)).all (fun x => x.1.isSome)
      && decide ([e].length + ([] : List Keyword).length + (if ([] : List Keyword).isEmpty then 0 else 1) < 30)) = true := by
  rw [star_plain h]
  rfl
theorem evA_len {O : Or} {Γ : Gm} : ∀ {l : As} {es : List Expr} {ρ ρ1 : Env} {ds : List D}, okA Γ l es = true → noStars es = true → evA O l ρ = .ok (ρ1, ds) → ds.length = es.length
  | .nil, es, ρ, ρ1, ds, h, _, ev => by
    cases es with
    | nil => cases ev; rfl
    | cons _ _ => cases h
  | .cons a r, es, ρ, ρ1, ds, h, hs, ev => by
    cases es with
    | nil => cases h
    | cons e es =>
      have h' : (noStar e = true ∧ okE Γ a e = true) ∧ okA Γ r es = true := by simpa [okA] using h
      simp only [evA, bnd_ok] at ev
      obtain ⟨ρ2, d, e1, ρ3, l, e2, e3⟩ := ev
      cases e3
      rw [List.length_cons, List.length_cons, evA_len h'.2 (noStars_cons hs).2 e2]
  | .star a r, es, ρ, ρ1, ds, h, hs, ev => by
    cases es with
    | nil => cases h
    | cons e es => cases e <;> first | (cases h; done) | (cases hs; done)
theorem kw_len {O : Or} {Γ : Gm} : ∀ {l : As} {kws : List Keyword} {ρ ρ1 : Env} {ds : List D}, allKw kws = true → okKw Γ l kws = true → evA O l ρ = .ok (ρ1, ds) → ds.length = (knames kws).length
  | .nil, kws, ρ, ρ1, ds, _, h, ev => by
    cases kws with
    | nil => cases ev; rfl
    | cons _ _ => cases h
  | .cons a r, kws, ρ, ρ1, ds, hk, h, ev => by
    cases kws with
    | nil => cases h
    | cons k kws =>
      obtain ⟨nm, e, p⟩ := k
      have h' : okE Γ a e = true ∧ okKw Γ r kws = true := by simpa [okKw] using h
      simp only [evA, bnd_ok] at ev
      obtain ⟨ρ2, d, e1, ρ3, l, e2, e3⟩ := ev
      cases e3
      cases nm with
      | none => cases hk
      | some n =>
        have hk' : allKw kws = true := hk
        show l.length + 1 = (knames kws).length + 1
        rw [kw_len hk' h'.2 e2]
  | .star a r, kws, ρ, ρ1, ds, _, h, ev => by cases h
/-! ### the checks are sound -/
mutual
theorem sE (O : Or) (G : G0) : ∀ (c : Ex) (X : Cx) (Γ : Gm), Fit O G X Γ → ∀ e : Expr, okE Γ c e = true → DE G X e (wR (evE O c))
  | .var i, X, Γ, Φ, e, h => by
    unfold okE at h
    split at h
    · obtain ⟨h1, h2, h3, h4⟩ := Φ.okN h
      exact (dv i h1 h2 h3 h4).weak fun ρ post hw => evV_wv hw
    · cases h
  | .con d, X, Γ, Φ, e, h => by
    unfold okE at h
    split at h
    · rw [dEq_eq _ _ h]
      exact d_int.weak fun ρ post ⟨ρ1, d, ev, hp⟩ => by cases ev; exact hp
    · rw [dEq_eq _ _ h]
      exact d_bl.weak fun ρ post ⟨ρ1, d, ev, hp⟩ => by cases ev; exact hp
    · rw [dEq_eq _ _ h]
      exact d_str.weak fun ρ post ⟨ρ1, d, ev, hp⟩ => by cases ev; exact hp
    · rw [dEq_eq _ _ h]
      exact d_non.weak fun ρ post ⟨ρ1, d, ev, hp⟩ => by cases ev; exact hp
    · rename_i x p
      rw [Bool.and_eq_true] at h
      obtain ⟨h1, h2⟩ := h
      obtain ⟨g1, g2⟩ := Φ.glB h1
      split at h2
      · rename_i d' el
        rw [dEq_eq _ _ h2]
        obtain ⟨v, u, hm, r, ha⟩ := Φ.cons _ _ el
        exact (d_glV g1 hm r ha g2).weak fun ρ post ⟨ρ1, d, ev, hp⟩ => by cases ev; exact hp
      · cases h2
    · cases h
  | .op o a b, X, Γ, Φ, e, h => by
    unfold okE at h
    split at h
    · simp only [Bool.and_eq_true, decide_eq_true_eq] at h
      obtain ⟨⟨rfl, h1⟩, h2⟩ := h
      refine (d_op (do_bop o) (sE O G a X Γ Φ _ h1) (sE O G b X Γ Φ _ h2)).weak fun ρ post ⟨ρ', z, ev, hp⟩ => ?_
      simp only [evE, bind_ok, bnd_ok] at ev
      obtain ⟨ρ1, x, e1, ρ2, y, e2, d, e3, e4⟩ := ev
      cases e4
      exact ⟨ρ1, x, e1, _, y, e2, _, e3, hp⟩
    · cases h
  | .cmp o a b, X, Γ, Φ, e, h => by
    unfold okE at h
    split at h
    · simp only [Bool.and_eq_true, decide_eq_true_eq] at h
      obtain ⟨⟨⟨rfl, h1⟩, h2⟩, hs⟩ := h
      refine (d_cmp (do_cop Φ.hu o) (sE O G a X Γ Φ _ h1) (sE O G b X Γ Φ _ h2) (o.plain hs)).weak fun ρ post ⟨ρ', z, ev, hp⟩ => ?_
      simp only [evE, bind_ok, bnd_ok] at ev
      obtain ⟨ρ1, x, e1, ρ2, y, e2, d, e3, e4⟩ := ev
      cases e4
      exact ⟨ρ1, x, e1, _, y, e2, _, e3, hp⟩
    · cases h
  | .chn o o' a b c, X, Γ, Φ, e, h => by
    unfold okE at h
    split at h
    · simp only [Bool.and_eq_true, decide_eq_true_eq] at h
      obtain ⟨⟨⟨⟨⟨rfl, rfl⟩, h1⟩, h2⟩, h3⟩, hs⟩ := h
      refine (d_chain (do_cop Φ.hu o) (do_cop Φ.hu o') (sE O G a X Γ Φ _ h1) (sE O G b X Γ Φ _ h2) (sE O G c X Γ Φ _ h3) (o'.plain hs)).weak fun ρ post ⟨ρ', z, ev, hp⟩ => ?_
      simp only [evE, bind_ok, bnd_ok] at ev
      obtain ⟨ρ1, x, e1, ρ2, y, e2, d, e3, e4⟩ := ev
      refine ⟨ρ1, x, e1, ρ2, y, e2, d, e3, ?_⟩
      split at e4
      · simp only [bind_ok, bnd_ok] at e4
        obtain ⟨ρ3, w, e5, d', e6, e7⟩ := e4
        cases e7
        exact ⟨_, w, e5, _, e6, hp⟩
      · cases e4
        exact hp
      · cases e4
    · cases h
  | .neg a, X, Γ, Φ, e, h => by
    unfold okE at h
    split at h
    · refine (d_neg (sE O G a X Γ Φ _ h)).weak fun ρ post ⟨ρ', z, ev, hp⟩ => ?_
      simp only [evE, bnd_ok] at ev
      obtain ⟨ρ1, x, e1, e2⟩ := ev
      refine ⟨ρ1, x, e1, ?_⟩
      split at e2
      · cases e2
        exact hp
      · cases e2
    · cases h
  | .band a b, X, Γ, Φ, e, h => by
    unfold okE at h
    split at h
    · simp only [Bool.and_eq_true] at h
      refine (d_and (sE O G a X Γ Φ _ h.1) (sE O G b X Γ Φ _ h.2)).weak fun ρ post ⟨ρ', z, ev, hp⟩ => ?_
      simp only [evE, bnd_ok] at ev
      obtain ⟨ρ1, x, e1, e2⟩ := ev
      refine ⟨ρ1, x, e1, ?_⟩
      split at e2
      · exact ⟨ρ', z, e2, hp⟩
      · cases e2
        exact hp
      · cases e2
    · cases h
  | .bor a b, X, Γ, Φ, e, h => by
    unfold okE at h
    split at h
    · simp only [Bool.and_eq_true] at h
      refine (d_or (sE O G a X Γ Φ _ h.1) (sE O G b X Γ Φ _ h.2)).weak fun ρ post ⟨ρ', z, ev, hp⟩ => ?_
      simp only [evE, bnd_ok] at ev
      obtain ⟨ρ1, x, e1, e2⟩ := ev
      refine ⟨ρ1, x, e1, ?_⟩
      split at e2
      · cases e2
        exact hp
      · exact ⟨ρ', z, e2, hp⟩
      · cases e2
    · cases h
  | .bone a, X, Γ, Φ, e, h => by
    unfold okE at h
    split at h
    · exact (d_one (sE O G a X Γ Φ _ h)).weak fun ρ post ⟨ρ', z, ev, hp⟩ => ⟨ρ', z, ev, hp⟩
    · cases h
  | .bnot a, X, Γ, Φ, e, h => by
    unfold okE at h
    split at h
    · refine (d_not (sE O G a X Γ Φ _ h)).weak fun ρ post ⟨ρ', z, ev, hp⟩ => ?_
      simp only [evE, bnd_ok] at ev
      obtain ⟨ρ1, x, e1, e2⟩ := ev
      refine ⟨ρ1, x, e1, ?_⟩
      split at e2
      · cases e2
        exact hp
      · cases e2
    · cases h
  | .ife t a b, X, Γ, Φ, e, h => by
    unfold okE at h
    split at h
    · simp only [Bool.and_eq_true] at h
      refine (d_if (sT O G t X Γ Φ _ h.1.1) (sE O G a X Γ Φ _ h.1.2) (sE O G b X Γ Φ _ h.2)).weak fun ρ post ⟨ρ', z, ev, hp⟩ => ?_
      simp only [evE, bnd_ok] at ev
      obtain ⟨ρ1, k, e1, e2⟩ := ev
      refine ⟨ρ1, k, e1, ?_⟩
      cases k with
      | true => exact ⟨ρ', z, e2, hp⟩
      | false => exact ⟨ρ', z, e2, hp⟩
    · cases h
  | .fz q, X, Γ, Φ, e, h => by
    have h' : okQ Γ q e = true := h
    refine (dq_e (sQ O G q X Γ Φ e h')).weak fun ρ post ⟨ρ', z, ev, hp⟩ => ?_
    simp only [evE, bnd_ok] at ev
    obtain ⟨ρ1, t, e1, e2⟩ := ev
    cases e2
    exact ⟨_, t, e1, hp⟩
  | .tup l, X, Γ, Φ, e, h => by
    unfold okE at h
    split at h
    · refine (d_tup (sA O G l X Γ Φ _ h)).weak fun ρ post ⟨ρ', z, ev, hp⟩ => ?_
      simp only [evE, bnd_ok] at ev
      obtain ⟨ρ1, ds, e1, e2⟩ := ev
      obtain ⟨hl, e3⟩ := if_ok.mp e2
      cases e3
      exact ⟨_, ds, e1, hl, hp⟩
    · cases h
  | .cb f l, X, Γ, Φ, e, h => by
    unfold okE at h
    split at h
    · simp only [Bool.and_eq_true, decide_eq_true_eq] at h
      obtain ⟨⟨⟨rfl, h1⟩, h2⟩, h3⟩ := h
      obtain ⟨g1, g2⟩ := Φ.okB h1
      have h4 := noStars_cons h2
      refine (d_bf f Φ.calm g1 g2 (sA O G l X Γ Φ _ h3) (star_plain h4.1) (back_plain h4.2)).weak fun ρ post ⟨ρ', z, ev, hp⟩ => ?_
      simp only [evE, bind_ok, bnd_ok] at ev
      obtain ⟨ρ1, ds, e1, d, e2, e3⟩ := ev
      cases e3
      exact ⟨_, ds, e1, _, e2, hp⟩
    · cases h
  | .cbv f v, X, Γ, Φ, e, h => by
    unfold okE at h
    split at h
    · simp only [Bool.and_eq_true, decide_eq_true_eq] at h
      obtain ⟨⟨⟨⟨rfl, h0⟩, h1⟩, h2⟩, h3⟩ := h
      obtain ⟨g1, g2⟩ := Φ.okB h1
      obtain ⟨id, k1, k2⟩ := dc_bf (G := G) f (by cases f <;> first | rfl | cases h0) Φ.calm
      refine (d_cbV k2 (flc_bf h0) g1 g2 k1 (sV O G v X Γ Φ _ h3) f.ne.1 f.ne.2 (star_plain h2) rfl).weak fun ρ post ⟨ρ', z, ev, hp⟩ => ?_
      simp only [evE, bind_ok, bnd_ok] at ev
      obtain ⟨ρ1, x, e1, d, e2, e3⟩ := ev
      cases e3
      exact ⟨_, x, e1, _, e2, hp⟩
    · cases h
  | .cmpv o a v, X, Γ, Φ, e, h => by
    unfold okE at h
    split at h
    · simp only [Bool.and_eq_true, decide_eq_true_eq] at h
      obtain ⟨⟨⟨rfl, h1⟩, h2⟩, hs⟩ := h
      refine (d_cmpV (do_cop Φ.hu o) (flo_cop o) (sE O G a X Γ Φ _ h1) (sV O G v X Γ Φ _ h2) (o.plain hs)).weak fun ρ post ⟨ρ', z, ev, hp⟩ => ?_
      simp only [evE, bind_ok, bnd_ok] at ev
      obtain ⟨ρ1, x, e1, ρ2, y, e2, d, e3, e4⟩ := ev
      cases e4
      exact ⟨ρ1, x, e1, _, y, e2, _, e3, hp⟩
    · cases h
  | .cmpl o v u, X, Γ, Φ, e, h => by
    unfold okE at h
    split at h
    · simp only [Bool.and_eq_true, decide_eq_true_eq] at h
      obtain ⟨⟨⟨rfl, h1⟩, h2⟩, hs⟩ := h
      refine (d_cmpL (do_cop Φ.hu o) (flo_cop o) (sV O G v X Γ Φ _ h1) (sU Φ u _ h2) (o.plain hs)).weak fun ρ post ⟨ρ', z, ev, hp⟩ => ?_
      simp only [evE, bind_ok, bnd_ok, of_ok] at ev
      obtain ⟨ρ1, x, e1, y, e2, d, e3, e4⟩ := ev
      cases e4
      refine ⟨_, x, e1, ?_⟩
      try simp only [e2]
      exact ⟨_, e3, hp⟩
    · cases h
  | .ix a b, X, Γ, Φ, e, h => by
    unfold okE at h
    split at h
    · simp only [Bool.and_eq_true] at h
      refine (d_ix (sE O G a X Γ Φ _ h.1.1) (sE O G b X Γ Φ _ h.1.2) (ix_plain h.2)).weak fun ρ post ⟨ρ', z, ev, hp⟩ => ?_
      simp only [evE, bind_ok, bnd_ok, of_ok] at ev
      obtain ⟨ρ1, x, e1, ρ2, y, e2, l, e3, e4⟩ := ev
      refine ⟨ρ1, x, e1, ρ2, y, e2, ?_⟩
      unfold wIx
      try simp only [e3]
      split at e4
      · simp only [bind_ok, of_ok] at e4
        obtain ⟨d, e5, e6⟩ := e4
        cases e6
        try simp only [e5]
        exact hp
      · cases e4
    · cases h
  | .slt a lo hi, X, Γ, Φ, e, h => by
    unfold okE at h
    split at h
    · simp only [Bool.and_eq_true] at h
      refine (d_sliceT (sE O G a X Γ Φ _ h.1.1) (sO O G lo X Γ Φ _ h.1.2) (sO O G hi X Γ Φ _ h.2)).weak fun ρ post ⟨ρ', z, ev, hp⟩ => ?_
      simp only [evE, bind_ok, bnd_ok, of_ok] at ev
      obtain ⟨ρ1, x, e1, ρ2, l, e2, ρ3, u, e3, e4⟩ := ev
      refine ⟨ρ1, x, e1, ρ2, l, e2, ρ3, u, e3, ?_⟩
      split at e4
      · cases e4
        exact hp
      · cases e4
    · cases h
  | .fld a f, X, Γ, Φ, e, h => by
    unfold okE at h
    split at h
    · simp only [Bool.and_eq_true, decide_eq_true_eq] at h
      obtain ⟨⟨rfl, h1⟩, h2⟩ := h
      refine (d_fld (Φ.fld f) (sE O G a X Γ Φ _ h1) (att_plain h2)).weak fun ρ post ⟨ρ', z, ev, hp⟩ => ?_
      simp only [evE, bind_ok, bnd_ok, of_ok] at ev
      obtain ⟨ρ1, x, e1, e2⟩ := ev
      refine ⟨ρ1, x, e1, ?_⟩
      split at e2
      · simp only [bind_ok, of_ok] at e2
        obtain ⟨j, e3, d, e4, e5⟩ := e2
        cases e5
        try simp only [e3, e4]
        exact hp
      · cases e2
    · cases h
  | .pth p, X, Γ, Φ, e, h => by
    have h' : okP Γ p e = true := h
    exact (d_pth (sP Φ p e h')).weak fun ρ post hw => evP_wPth hw
  | .popAt i a, X, Γ, Φ, e, h => by
    unfold okE at h
    split at h
    · simp only [Bool.and_eq_true, decide_eq_true_eq] at h
      obtain ⟨⟨⟨⟨rfl, h1⟩, h2⟩, h3⟩, h4⟩ := h
      obtain ⟨g1, g2, g3, g4⟩ := Φ.okN h1
      refine (d_popAt i (sE O G a X Γ Φ _ h2) g1 g2 g3 g4 rfl (few1 h3) h4 (star_plain h3) rfl).weak fun ρ post ⟨ρ', z, ev, hp⟩ => ?_
      unfold evE at ev
      unfold wPopAt
      split at ev
      · rename_i l0 e0
        simp only [bnd_ok] at ev
        obtain ⟨ρ1, d, e1, e2⟩ := ev
        try simp only [e0]
        refine ⟨ρ1, d, e1, ?_⟩
        split at e2
        · rename_i l k e3
          simp only [bind_ok, of_ok] at e2
          obtain ⟨j, e4, e5⟩ := e2
          try simp only [e3, e4]
          split at e5
          · rename_i x e6
            obtain ⟨hk, e7⟩ := if_ok.mp e5
            cases e7
            try simp only [e6]
            exact ⟨hk, hp⟩
          · cases e5
        · cases e2
      · cases ev
    · cases h
  | .remI i a, X, Γ, Φ, e, h => by
    unfold okE at h
    split at h
    · simp only [Bool.and_eq_true, decide_eq_true_eq] at h
      obtain ⟨⟨⟨⟨rfl, h1⟩, h2⟩, h3⟩, h4⟩ := h
      obtain ⟨g1, g2, g3, g4⟩ := Φ.okN h1
      refine (d_remI i (sE O G a X Γ Φ _ h2) g1 g2 g3 g4 rfl (few1 h3) h4 (star_plain h3) rfl).weak fun ρ post ⟨ρ', z, ev, hp⟩ => ?_
      unfold evE at ev
      unfold wRemI
      split at ev
      · rename_i l0 e0
        simp only [bnd_ok] at ev
        obtain ⟨ρ1, d, e1, e2⟩ := ev
        try simp only [e0]
        refine ⟨ρ1, d, e1, ?_⟩
        split at e2
        · rename_i l k e3
          simp only [bind_ok, of_ok] at e2
          obtain ⟨ns, e4, e5⟩ := e2
          obtain ⟨hk, e7⟩ := if_ok.mp e5
          cases e7
          try simp only [e3, e4]
          exact ⟨hk, hp⟩
        · cases e2
      · cases ev
    · cases h
  | .isi a t, X, Γ, Φ, e, h => by
    unfold okE at h
    split at h
    · simp only [Bool.and_eq_true, decide_eq_true_eq] at h
      obtain ⟨⟨⟨⟨rfl, h1⟩, h2⟩, h3⟩, h4⟩ := h
      obtain ⟨g1, g2⟩ := Φ.okB h1
      obtain ⟨⟨v, hT⟩, hd⟩ := Φ.okTy h4
      refine (d_isi Φ.kt Φ.ki g1 g2 hT (sE O G a X Γ Φ _ h3) hd (star_plain h2) rfl rfl).weak fun ρ post ⟨ρ', z, ev, hp⟩ => ?_
      simp only [evE, isiF, bind_ok, bnd_ok, of_ok] at ev
      obtain ⟨ρ1, d, e1, z', ⟨a', e2, k, e3, e4⟩, e5⟩ := ev
      cases e4
      cases e5
      refine ⟨_, d, e1, ?_⟩
      try simp only [e2, e3]
      exact hp
    · cases h
  | .isi2 a t t2, X, Γ, Φ, e, h => by
    unfold okE at h
    split at h
    · simp only [Bool.and_eq_true, decide_eq_true_eq] at h
      obtain ⟨⟨⟨⟨⟨rfl, h1⟩, h2⟩, h3⟩, h4⟩, h5⟩ := h
      obtain ⟨g1, g2⟩ := Φ.okB h1
      obtain ⟨⟨v, hT⟩, hd⟩ := Φ.okTy h4
      obtain ⟨⟨v2, hT2⟩, hd2⟩ := Φ.okTy h5
      refine (d_isi2 Φ.kt Φ.ki g1 g2 hT hT2 (sE O G a X Γ Φ _ h3) hd hd2 (star_plain h2)).weak fun ρ post ⟨ρ', z, ev, hp⟩ => ?_
      simp only [evE, isi2F, bind_ok, bnd_ok, of_ok] at ev
      obtain ⟨ρ1, d, e1, z', ⟨a', e2, k, e3, k2, e4, e5⟩, e6⟩ := ev
      cases e5
      cases e6
      refine ⟨_, d, e1, ?_⟩
      try simp only [e2, e3, e4]
      exact hp
    · cases h
  | .idx o a, X, Γ, Φ, e, h => by
    unfold okE at h
    split at h
    · simp only [Bool.and_eq_true, decide_eq_true_eq] at h
      obtain ⟨⟨⟨⟨⟨rfl, h1⟩, h2⟩, h3⟩, h4⟩, h5⟩ := h
      refine (d_indexD Φ.hu (sE O G o X Γ Φ _ h2) (sE O G a X Γ Φ _ h3) (att_plain h1) (few1 h4) h5 (star_plain h4) rfl).weak fun ρ post ⟨ρ', z, ev, hp⟩ => ?_
      simp only [evE, bnd_ok] at ev
      obtain ⟨ρ1, x, e1, e2⟩ := ev
      refine ⟨ρ1, x, e1, ?_⟩
      split at e2
      · simp only [bind_ok, bnd_ok] at e2
        obtain ⟨ρ2, y, e3, z', e4, e5⟩ := e2
        cases e5
        refine ⟨_, y, e3, ?_⟩
        unfold idxF at e4
        split at e4
        · rename_i hsh
          simp only [bind_ok, of_ok] at e4
          obtain ⟨j, e6, e7⟩ := e4
          cases e7
          obtain ⟨i, z, rfl, k1, k2, k3⟩ := findIx_ok e6
          rw [Nat.zero_add] at hp
          exact ⟨by simpa using hsh, i, z, ⟨k1, k2, k3⟩, hp⟩
        · cases e4
      · cases e2
    · cases h
  | .cnt o a, X, Γ, Φ, e, h => by
    unfold okE at h
    split at h
    · simp only [Bool.and_eq_true, decide_eq_true_eq] at h
      obtain ⟨⟨⟨⟨⟨rfl, h1⟩, h2⟩, h3⟩, h4⟩, h5⟩ := h
      refine (d_countD Φ.hu (sE O G o X Γ Φ _ h2) (sE O G a X Γ Φ _ h3) (att_plain2 h1) (few1 h4) h5 (star_plain h4) rfl).weak fun ρ post ⟨ρ', z, ev, hp⟩ => ?_
      simp only [evE, bnd_ok] at ev
      obtain ⟨ρ1, x, e1, e2⟩ := ev
      refine ⟨ρ1, x, e1, ?_⟩
      split at e2
      · simp only [bind_ok, bnd_ok] at e2
        obtain ⟨ρ2, y, e3, z', e4, e5⟩ := e2
        cases e5
        refine ⟨_, y, e3, ?_⟩
        unfold cntF at e4
        split at e4
        · rename_i hsh
          cases e4
          exact ⟨by simpa using hsh, hp⟩
        · cases e4
      · cases e2
    · cases h
theorem sQ (O : Or) (G : G0) : ∀ (c : Qx) (X : Cx) (Γ : Gm), Fit O G X Γ → ∀ e : Expr, okQ Γ c e = true → DQ G X e (wR (evQ O c))
  | .v a, X, Γ, Φ, e, h => by
    have h' : okE Γ a e = true := h
    refine (de_q (sE O G a X Γ Φ e h')).weak fun ρ post ⟨ρ', z, ev, hp⟩ => ?_
    simp only [evQ, bnd_ok] at ev
    obtain ⟨ρ1, d, e1, e2⟩ := ev
    cases e2
    exact ⟨_, d, e1, hp⟩
  | .dsp l, X, Γ, Φ, e, h => by
    unfold okQ at h
    split at h
    · refine (dq_lst (sQs O G l X Γ Φ _ h)).weak fun ρ post ⟨ρ', z, ev, hp⟩ => ?_
      simp only [evQ, bnd_ok] at ev
      obtain ⟨ρ1, ts, e1, e2⟩ := ev
      obtain ⟨hl, e3⟩ := if_ok.mp e2
      cases e3
      exact ⟨_, ts, e1, hl, hp⟩
    · cases h
  | .lst l, X, Γ, Φ, e, h => by
    unfold okQ at h
    split at h
    · refine DQ.weak (dn_lst (sA O G l X Γ Φ _ h)) fun ρ post ⟨ρ', z, ev, hp⟩ => ?_
      simp only [evQ, bnd_ok] at ev
      obtain ⟨ρ1, ts, e1, e2⟩ := ev
      obtain ⟨hl, e3⟩ := if_ok.mp e2
      cases e3
      exact ⟨_, ts, e1, hl, hp⟩
    · cases h
  | .lc it g ifs el own, X, Γ, Φ, e, h => by
    unfold okQ at h
    split at h
    · rename_i x tg iter fs scope pos
      simp only [Bool.and_eq_true, decide_eq_true_eq] at h
      obtain ⟨⟨⟨⟨⟨⟨⟨⟨h1, h2⟩, h3⟩, h4⟩, h5⟩, h6⟩, h7⟩, h8⟩, h9⟩ := h
      have bk : BlkOk X.N X.env.scope scope own := by
        rw [Φ.N, Φ.sc]
        exact blkOk_by h4
      refine (dq_lc own (fun v m => by rw [Φ.pr]; exact offP_iff h5 v m) Φ.calm Φ.nd (sI O G it X Γ Φ tg _ h2) bk (subN_iff h6) (fun s H C cl fp => sG (Φ.blk h3 s H C cl fp) g _ h7) (fun s H C cl fp => sTs O G ifs _ _ (Φ.blk h3 s H C cl fp) _ h8)
        (fun s H C cl fp => sQ O G el _ _ (Φ.blk h3 s H C cl fp) _ h9) (fold_plain h1 _)).weak fun ρ post ⟨ρ', z, ev, hp⟩ => ?_
      simp only [evQ, bnd_ok] at ev
      obtain ⟨ρ1, ds, e1, ρ2, acc, e2, e3⟩ := ev
      cases e3
      exact ⟨ρ1, ds, e1, lc_go e2 hp⟩
    · cases h
  | .lc2 it g ifs it1 g1 ifs1 el own vs1, X, Γ, Φ, e, h => by
    unfold okQ at h
    split at h
    · rename_i x tg iter fs tg1 iter1 fs1 scope pos
      simp only [Bool.and_eq_true, decide_eq_true_eq] at h
      obtain ⟨⟨⟨⟨⟨⟨⟨⟨⟨⟨⟨⟨⟨⟨h0, h0'⟩, h2⟩, h3⟩, h4⟩, h5⟩, h6⟩, h7⟩, h8⟩, k1⟩, k2⟩, k3⟩, k4⟩, k5⟩, k6⟩ := h
      have bk : BlkOk X.N X.env.scope scope own := by
        rw [Φ.N, Φ.sc]
        exact blkOk_by h4
      refine (dq_lc2 own vs1 (fun v m => by rw [Φ.pr]; exact offP_iff h5 v m) Φ.calm Φ.nd (sI O G it X Γ Φ tg _ h2) bk (subN_iff h6) (subN_iff h7) (subN_iff h8) (fun s H C cl fp => sG (Φ.blk h3 s H C cl fp) g _ k1) (fun s H C cl fp => sTs O G ifs _ _ (Φ.blk h3 s H C cl fp) _ k2)
        (fun s H C cl fp => sI O G it1 _ _ (Φ.blk h3 s H C cl fp) tg1 _ k3) (fun s H C cl fp => sG (Φ.blk h3 s H C cl fp) g1 _ k4) (fun s H C cl fp => sTs O G ifs1 _ _ (Φ.blk h3 s H C cl fp) _ k5)
        (fun s H C cl fp => sQ O G el _ _ (Φ.blk h3 s H C cl fp) _ k6) (fold_plain h0 _) (fold_plain h0')).weak fun ρ post ⟨ρ', z, ev, hp⟩ => ?_
      simp only [evQ, bnd_ok] at ev
      obtain ⟨ρ1, ds, e1, ρ2, acc, e2, e3⟩ := ev
      cases e3
      exact ⟨ρ1, ds, e1, lc2_go e2 hp⟩
    · cases h
  | .call vw f l dd, X, Γ, Φ, e, h => by
    unfold okQ at h
    split at h
    · simp only [Bool.and_eq_true] at h
      obtain ⟨⟨⟨h1, h2⟩, h3⟩, h4⟩ := h
      obtain ⟨g1, g2⟩ := Φ.glB h1
      have h5 := noStars_cons h3
      obtain ⟨k, n, fa, fd, ps, dvs, ds, F, hn, hr, hm, hk, hb, hd, hdd⟩ := (Φ.fns _ (memF_iff h2)).ex
      refine (dq_call (E := E0) F hr g1 hm hk hb hd hdd pass0 (sAv O G vw l X Γ Φ _ h4) g2 (star_plain h5.1) (back_plain h5.2)).weak fun ρ post ⟨ρ', z, ev, hp⟩ => ?_
      simp only [evQ, bnd_ok] at ev
      obtain ⟨ρ1, ds, e1, t, us, e2, e3⟩ := ev
      refine ⟨ρ1, ds, e1, by simpa using hn _ _ e2, t, us, e2, ?_⟩
      split at e3
      · cases e3
      · rename_i c
        cases e3
        refine ⟨fun z => ?_, hp⟩
        exact lt_of z c
    · cases h
  | .callM i f l dd, X, Γ, Φ, e, h => by
    unfold okQ at h
    split at h
    · simp only [Bool.and_eq_true] at h
      obtain ⟨⟨⟨⟨h1, h2⟩, h3⟩, h4⟩, h5⟩ := h
      obtain ⟨g1, g2⟩ := Φ.glB h1
      obtain ⟨q1, q2, q3, q4⟩ := Φ.okN h3
      obtain ⟨k, n, fa, fd, ps, dvs, ds, F, hn, hr, hm, hk, hb, hd, hdd⟩ := (Φ.fns _ (memF_iff h2)).ex
      refine (dq_callM (E := E0) i F hr g1 hm hk hb hd hdd pass0 (sA O G l X Γ Φ _ h5) q1 q2 q3 q4 g2 (star_plain rfl) (back_plain h4)).weak fun ρ post ⟨ρ', z, ev, hp⟩ => ?_
      unfold evQ at ev
      unfold wCallM
      split at ev
      · rename_i t0 e0
        simp only [bind_ok, bnd_ok, of_ok] at ev
        obtain ⟨ρ1, ds, e1, t, e2, r, us, e3, e4⟩ := ev
        try simp only [e0]
        refine ⟨ρ1, ds, e1, ?_⟩
        try simp only [e2]
        refine ⟨by simpa using hn _ _ e3, r, us, e3, ?_⟩
        split at e4
        · cases e4
          exact hp
        · cases e4
      · cases ev
    · cases h
  | .make vw c f l dd, X, Γ, Φ, e, h => by
    unfold okQ at h
    split at h
    · simp only [Bool.and_eq_true] at h
      obtain ⟨⟨⟨h1, h2⟩, h3⟩, h4⟩ := h
      obtain ⟨g1, g2⟩ := Φ.glB h1
      have h5 := noStars_cons h3
      obtain ⟨k, n, fa, fd, ps, dvs, ds, F, hn, hr, hM, hm, hb, hd, hdd⟩ := (Φ.mks _ (memM_iff h2)).ex
      refine (dq_make (E := E0) hM F hr g1 hm hb hd hdd pass0 (sAv O G vw l X Γ Φ _ h4) g2 (star_plain h5.1) (back_plain h5.2)).weak fun ρ post ⟨ρ', z, ev, hp⟩ => ?_
      simp only [evQ, bnd_ok] at ev
      obtain ⟨ρ1, ds, e1, t, us, e2, e3⟩ := ev
      refine ⟨ρ1, ds, e1, by simpa using hn _ _ e2, t, us, e2, ?_⟩
      split at e3
      · split at e3
        · cases e3
        · rename_i t' us' c
          cases e3
          refine ⟨fun z => ?_, hp⟩
          exact lt_of z c
      · cases e3
    · cases h
  | .list l, X, Γ, Φ, e, h => by
    unfold okQ at h
    split at h
    · simp only [Bool.and_eq_true, decide_eq_true_eq] at h
      obtain ⟨⟨⟨rfl, h1⟩, h2⟩, h3⟩ := h
      obtain ⟨g1, g2⟩ := Φ.okB h1
      refine DQ.weak (dn_callT (x := "list") dcn_list g1 g2 (by decide +kernel) (sA O G l X Γ Φ _ h3) (by decide) (by decide) (star_plain h2) rfl) fun ρ post ⟨ρ', z, ev, hp⟩ => ?_
      simp only [evQ, bnd_ok] at ev
      obtain ⟨ρ1, ds, e1, e2⟩ := ev
      refine ⟨ρ1, ds, e1, ?_⟩
      split at e2
      · simp only [bind_ok, of_ok] at e2
        obtain ⟨l', e3, e4⟩ := e2
        cases e4
        unfold wLstOf w1N
        try simp only [e3]
        exact hp
      · cases e2
    · cases h
  | .lrng a, X, Γ, Φ, e, h => by
    unfold okQ at h
    split at h
    · simp only [Bool.and_eq_true, decide_eq_true_eq] at h
      obtain ⟨⟨⟨⟨⟨rfl, rfl⟩, h1⟩, h2⟩, h3⟩, h4⟩ := h
      obtain ⟨g1, g2⟩ := Φ.okB h1
      obtain ⟨g3, g4⟩ := Φ.okB h2
      refine DQ.weak (dn_listR1 Φ.calm g1 g2 g3 g4 (sE O G a X Γ Φ _ h4) rfl (star_plain h3)) fun ρ post ⟨ρ', z, ev, hp⟩ => ?_
      simp only [evQ, bnd_ok] at ev
      obtain ⟨ρ1, d, e1, e2⟩ := ev
      refine ⟨ρ1, d, e1, ?_⟩
      split at e2
      · obtain ⟨hl, e3⟩ := if_ok.mp e2
        cases e3
        exact ⟨hl.1, hl.2, hp⟩
      · cases e2
    · cases h
  | .sll a lo hi, X, Γ, Φ, e, h => by
    unfold okQ at h
    split at h
    · simp only [Bool.and_eq_true] at h
      refine DQ.weak (dn_sliceL (sE O G a X Γ Φ _ h.1.1) (sO O G lo X Γ Φ _ h.1.2) (sO O G hi X Γ Φ _ h.2)) fun ρ post ⟨ρ', z, ev, hp⟩ => ?_
      simp only [evQ, bnd_ok] at ev
      obtain ⟨ρ1, x, e1, ρ2, l, e2, ρ3, u, e3, e4⟩ := ev
      refine ⟨ρ1, x, e1, ρ2, l, e2, ρ3, u, e3, ?_⟩
      split at e4
      · cases e4
        exact hp
      · cases e4
        exact hp
      · cases e4
    · cases h
  | .cat a b, X, Γ, Φ, e, h => by
    unfold okQ at h
    split at h
    · simp only [Bool.and_eq_true] at h
      refine DQ.weak (dn_cat (sE O G a X Γ Φ _ h.1) (sE O G b X Γ Φ _ h.2)) fun ρ post ⟨ρ', z, ev, hp⟩ => ?_
      simp only [evQ, bnd_ok] at ev
      obtain ⟨ρ1, x, e1, ρ2, y, e2, e3⟩ := ev
      refine ⟨ρ1, x, e1, ρ2, y, e2, ?_⟩
      split at e3
      · obtain ⟨hl, e4⟩ := if_ok.mp e3
        cases e4
        exact ⟨hl, hp⟩
      · cases e3
    · cases h
  | .rep a b, X, Γ, Φ, e, h => by
    unfold okQ at h
    split at h
    · simp only [Bool.and_eq_true] at h
      refine DQ.weak (dn_rep (sE O G a X Γ Φ _ h.1) (sE O G b X Γ Φ _ h.2)) fun ρ post ⟨ρ', z, ev, hp⟩ => ?_
      simp only [evQ, bnd_ok] at ev
      obtain ⟨ρ1, x, e1, ρ2, y, e2, e3⟩ := ev
      refine ⟨ρ1, x, e1, ρ2, y, e2, ?_⟩
      split at e3
      · obtain ⟨hl, e4⟩ := if_ok.mp e3
        cases e4
        exact ⟨hl, hp⟩
      · cases e3
    · cases h
  | .callK f l kw pm dd, X, Γ, Φ, e, h => by
    unfold okQ at h
    split at h
    · simp only [Bool.and_eq_true] at h
      obtain ⟨⟨⟨⟨⟨h1, h2⟩, h3⟩, h4⟩, h5⟩, h6⟩ := h
      obtain ⟨g1, g2⟩ := Φ.glB h1
      have h7 := noStars_cons h3
      obtain ⟨k, np, fa, fd, ps, dvs, g, F, hn, hr, hm, hk, hb, hdd⟩ := (Φ.kfs _ (memK_iff h2)).ex
      obtain ⟨k1, k2, k3⟩ := kw_all h5
      refine (dq_callN (E := E0) F hr g1 hm hk hb hdd pass0 (sA O G l X Γ Φ _ h4) (sKw O G kw X Γ Φ _ h6) k1 k2 g2 (star_plain h7.1) (by rw [back_plain h3, k3]; rfl)).weak fun ρ post ⟨ρ', z, ev, hp⟩ => ?_
      simp only [evQ, bnd_ok] at ev
      obtain ⟨ρ1, ds, e1, ρ2, zs, e2, t, us, e3, e4⟩ := ev
      cases e4
      refine ⟨ρ1, ds, e1, _, zs, e2, ⟨?_, ?_, by simpa using hn _ _ e3⟩, _, us, e3, hp⟩
      · rw [evA_len h4 h3 e1]; rfl
      · rw [kw_len h5 h6 e2]
    · cases h
  | .makeK c f l kw pm dd, X, Γ, Φ, e, h => by
    unfold okQ at h
    split at h
    · simp only [Bool.and_eq_true] at h
      obtain ⟨⟨⟨⟨⟨h1, h2⟩, h3⟩, h4⟩, h5⟩, h6⟩ := h
      obtain ⟨g1, g2⟩ := Φ.glB h1
      have h7 := noStars_cons h3
      obtain ⟨k, np, fa, fd, ps, dvs, g, gV, F, hn, hr, hM, hm, hb, hgV, hdd⟩ := (Φ.kms _ (memKm_iff h2)).ex
      obtain ⟨k1, k2, k3⟩ := kw_all h5
      refine (dq_makeN (E := E0) hM F hr g1 hm hb hgV hdd pass0 (sA O G l X Γ Φ _ h4) (sKw O G kw X Γ Φ _ h6) k1 k2 g2 (star_plain h7.1) (by rw [back_plain h3, k3]; rfl)).weak fun ρ post ⟨ρ', z, ev, hp⟩ => ?_
      simp only [evQ, bnd_ok] at ev
      obtain ⟨ρ1, ds, e1, ρ2, zs, e2, t, us, e3, e4⟩ := ev
      refine ⟨ρ1, ds, e1, ρ2, zs, e2, ⟨?_, ?_, by simpa using hn _ _ e3⟩, _, us, e3, ?_⟩
      · rw [evA_len h4 h3 e1]; rfl
      · rw [kw_len h5 h6 e2]
      · split at e4
        · cases e4
          exact hp
        · cases e4
    · cases h
  | .lrng2 a b, X, Γ, Φ, e, h => by
    unfold okQ at h
    split at h
    · simp only [Bool.and_eq_true, decide_eq_true_eq] at h
      obtain ⟨⟨⟨⟨⟨⟨⟨rfl, rfl⟩, h1⟩, h2⟩, h3⟩, h3'⟩, h4⟩, h5⟩ := h
      obtain ⟨g1, g2⟩ := Φ.okB h1
      obtain ⟨g3, g4⟩ := Φ.okB h2
      refine DQ.weak (dn_listR2 Φ.calm g1 g2 g3 g4 (sE O G a X Γ Φ _ h4) (sE O G b X Γ Φ _ h5) (star_plain h3) (star_plain h3') (back_plain (by simp [noStars, h3']))) fun ρ post ⟨ρ', z, ev, hp⟩ => ?_
      simp only [evQ, bnd_ok] at ev
      obtain ⟨ρ1, d, e1, ρ2, d2, e2, e3⟩ := ev
      refine ⟨ρ1, d, e1, ρ2, d2, e2, ?_⟩
      split at e3
      · obtain ⟨hl, e4⟩ := if_ok.mp e3
        cases e4
        exact ⟨hl, hp⟩
      · cases e3
    · cases h
theorem sT (O : Or) (G : G0) : ∀ (c : Tx) (X : Cx) (Γ : Gm), Fit O G X Γ → ∀ e : Expr, okT Γ c e = true → DT G X e (wR (evT O c))
  | .cmp o a b, X, Γ, Φ, e, h => by
    unfold okT at h
    split at h
    · simp only [Bool.and_eq_true, decide_eq_true_eq] at h
      obtain ⟨⟨⟨rfl, h1⟩, h2⟩, hs⟩ := h
      refine (dt_cmp (do_cop Φ.hu o) (sE O G a X Γ Φ _ h1) (sE O G b X Γ Φ _ h2) (o.plain hs)).weak fun ρ post ⟨ρ', z, ev, hp⟩ => ?_
      simp only [evT, bind_ok, bnd_ok] at ev
      obtain ⟨ρ1, x, e1, ρ2, y, e2, d, e3, e4⟩ := ev
      refine ⟨ρ1, x, e1, ρ2, y, e2, d, e3, ?_⟩
      split at e4
      · cases e4
        exact hp
      · cases e4
    · cases h
  | .chn o o' a b c, X, Γ, Φ, e, h => by
    unfold okT at h
    split at h
    · simp only [Bool.and_eq_true, decide_eq_true_eq] at h
      obtain ⟨⟨⟨⟨⟨rfl, rfl⟩, h1⟩, h2⟩, h3⟩, hs⟩ := h
      refine (dt_chain (do_cop Φ.hu o) (do_cop Φ.hu o') (sE O G a X Γ Φ _ h1) (sE O G b X Γ Φ _ h2) (sE O G c X Γ Φ _ h3) (o'.plain hs)).weak fun ρ post ⟨ρ', z, ev, hp⟩ => ?_
      simp only [evT, bind_ok, bnd_ok] at ev
      obtain ⟨ρ1, x, e1, ρ2, y, e2, d, e3, e4⟩ := ev
      refine ⟨ρ1, x, e1, ρ2, y, e2, d, e3, ?_⟩
      split at e4
      · simp only [bind_ok, bnd_ok] at e4
        obtain ⟨ρ3, w, e5, d', e6, e7⟩ := e4
        refine ⟨ρ3, w, e5, d', e6, ?_⟩
        split at e7
        · cases e7
          exact hp
        · cases e7
      · cases e4
        exact hp
      · cases e4
    · cases h
  | .val a, X, Γ, Φ, e, h => by
    have h' : plainTest e = true ∧ okE Γ a e = true := by simpa [okT] using h
    refine (dt_val (sE O G a X Γ Φ _ h'.2) (test_plain h'.1)).weak fun ρ post ⟨ρ', z, ev, hp⟩ => ?_
    simp only [evT, bnd_ok] at ev
    obtain ⟨ρ1, x, e1, e2⟩ := ev
    refine ⟨ρ1, x, e1, ?_⟩
    split at e2
    · cases e2
      exact hp
    · cases e2
  | .not t, X, Γ, Φ, e, h => by
    unfold okT at h
    split at h
    · refine (dt_not (sT O G t X Γ Φ _ h)).weak fun ρ post ⟨ρ', z, ev, hp⟩ => ?_
      simp only [evT, bnd_ok] at ev
      obtain ⟨ρ1, k, e1, e2⟩ := ev
      cases e2
      exact ⟨_, k, e1, hp⟩
    · cases h
  | .bw w, X, Γ, Φ, e, h => by
    have h' : okW Γ w e = true := h
    exact (DW.dt (sW O G w X Γ Φ e h')).weak fun ρ post ⟨ρ', z, ev, hp⟩ => ⟨ρ', z, ev, hp⟩
  | .cmpv o a v, X, Γ, Φ, e, h => by
    unfold okT at h
    split at h
    · simp only [Bool.and_eq_true, decide_eq_true_eq] at h
      obtain ⟨⟨⟨rfl, h1⟩, h2⟩, hs⟩ := h
      refine (dt_cmpV (do_cop Φ.hu o) (flo_cop o) (sE O G a X Γ Φ _ h1) (sV O G v X Γ Φ _ h2) (o.plain hs)).weak fun ρ post ⟨ρ', z, ev, hp⟩ => ?_
      simp only [evT, bind_ok, bnd_ok] at ev
      obtain ⟨ρ1, x, e1, ρ2, y, e2, d, e3, e4⟩ := ev
      refine ⟨ρ1, x, e1, ρ2, y, e2, d, e3, ?_⟩
      split at e4
      · cases e4
        exact hp
      · cases e4
    · cases h
  | .cmpl o v u, X, Γ, Φ, e, h => by
    unfold okT at h
    split at h
    · simp only [Bool.and_eq_true, decide_eq_true_eq] at h
      obtain ⟨⟨⟨rfl, h1⟩, h2⟩, hs⟩ := h
      refine (dt_cmpL (do_cop Φ.hu o) (flo_cop o) (sV O G v X Γ Φ _ h1) (sU Φ u _ h2) (o.plain hs)).weak fun ρ post ⟨ρ', z, ev, hp⟩ => ?_
      simp only [evT, bind_ok, bnd_ok, of_ok] at ev
      obtain ⟨ρ1, x, e1, y, e2, d, e3, e4⟩ := ev
      refine ⟨ρ1, x, e1, ?_⟩
      try simp only [e2]
      refine ⟨d, e3, ?_⟩
      split at e4
      · cases e4
        exact hp
      · cases e4
    · cases h
theorem sW (O : Or) (G : G0) : ∀ (c : Wx) (X : Cx) (Γ : Gm), Fit O G X Γ → ∀ e : Expr, okW Γ c e = true → DW G X e (wR (evW O c))
  | .and1 t, X, Γ, Φ, e, h => by
    unfold okW at h
    split at h
    · exact (dw_and1 (sT O G t X Γ Φ _ h)).weak fun ρ post ⟨ρ', z, ev, hp⟩ => ⟨ρ', z, ev, hp⟩
    · cases h
  | .or1 t, X, Γ, Φ, e, h => by
    unfold okW at h
    split at h
    · exact (dw_or1 (sT O G t X Γ Φ _ h)).weak fun ρ post ⟨ρ', z, ev, hp⟩ => ⟨ρ', z, ev, hp⟩
    · cases h
  | .and t w, X, Γ, Φ, e, h => by
    unfold okW at h
    split at h
    · rw [Bool.and_eq_true] at h
      refine (dw_and (sT O G t X Γ Φ _ h.1) (sW O G w X Γ Φ _ h.2)).weak fun ρ post ⟨ρ', z, ev, hp⟩ => ?_
      simp only [evW, bnd_ok] at ev
      obtain ⟨ρ1, k, e1, e2⟩ := ev
      refine ⟨ρ1, k, e1, ?_⟩
      cases k with
      | true => exact ⟨ρ', z, e2, hp⟩
      | false => cases e2; exact hp
    · cases h
  | .or t w, X, Γ, Φ, e, h => by
    unfold okW at h
    split at h
    · rw [Bool.and_eq_true] at h
      refine (dw_or (sT O G t X Γ Φ _ h.1) (sW O G w X Γ Φ _ h.2)).weak fun ρ post ⟨ρ', z, ev, hp⟩ => ?_
      simp only [evW, bnd_ok] at ev
      obtain ⟨ρ1, k, e1, e2⟩ := ev
      refine ⟨ρ1, k, e1, ?_⟩
      cases k with
      | true => cases e2; exact hp
      | false => exact ⟨ρ', z, e2, hp⟩
    · cases h
theorem sO (O : Or) (G : G0) : ∀ (c : Ox) (X : Cx) (Γ : Gm), Fit O G X Γ → ∀ e : Option Expr, okO Γ c e = true → DO G X e (wR (evO O c))
  | .no, X, Γ, Φ, e, h => by
    unfold okO at h
    split at h
    · exact do_none.weak fun ρ post ⟨ρ', z, ev, hp⟩ => by cases ev; exact hp
    · cases h
  | .so a, X, Γ, Φ, e, h => by
    unfold okO at h
    split at h
    · refine (do_some (sE O G a X Γ Φ _ h)).weak fun ρ post ⟨ρ', z, ev, hp⟩ => ?_
      simp only [evO, bnd_ok] at ev
      obtain ⟨ρ1, k, e1, e2⟩ := ev
      refine ⟨ρ1, k, e1, ?_⟩
      split at e2
      · cases e2
        exact hp
      · cases e2
    · cases h
theorem sA (O : Or) (G : G0) : ∀ (c : As) (X : Cx) (Γ : Gm), Fit O G X Γ → ∀ e : List Expr, okA Γ c e = true → DA G X e (wR (evA O c))
  | .nil, X, Γ, Φ, e, h => by
    unfold okA at h
    split at h
    · exact da_nil.weak fun ρ post ⟨ρ', z, ev, hp⟩ => by cases ev; exact hp
    · cases h
  | .cons a r, X, Γ, Φ, e, h => by
    unfold okA at h
    split at h
    · simp only [Bool.and_eq_true] at h
      refine (da_cons (sE O G a X Γ Φ _ h.1.2) (sA O G r X Γ Φ _ h.2) (star_plain h.1.1)).weak fun ρ post ⟨ρ', z, ev, hp⟩ => ?_
      simp only [evA, bnd_ok] at ev
      obtain ⟨ρ1, d, e1, ρ2, l, e2, e3⟩ := ev
      cases e3
      exact ⟨ρ1, d, e1, _, l, e2, hp⟩
    · cases h
  | .star a r, X, Γ, Φ, e, h => by
    unfold okA at h
    split at h
    · simp only [Bool.and_eq_true] at h
      refine (da_star (sE O G a X Γ Φ _ h.1) (sA O G r X Γ Φ _ h.2)).weak fun ρ post ⟨ρ', z, ev, hp⟩ => ?_
      simp only [evA, bind_ok, bnd_ok, of_ok] at ev
      obtain ⟨ρ1, d, e1, l1, e2, ρ2, l, e3, e4⟩ := ev
      cases e4
      refine ⟨ρ1, d, e1, ?_⟩
      try simp only [e2]
      exact ⟨_, l, e3, hp⟩
    · cases h
theorem sKw (O : Or) (G : G0) : ∀ (c : As) (X : Cx) (Γ : Gm), Fit O G X Γ → ∀ e : List Keyword, okKw Γ c e = true → DK G X e (wR (evA O c))
  | .nil, X, Γ, Φ, e, h => by
    unfold okKw at h
    split at h
    · exact dk_nil.weak fun ρ post ⟨ρ', z, ev, hp⟩ => by cases ev; exact hp
    · cases h
  | .cons a r, X, Γ, Φ, e, h => by
    unfold okKw at h
    split at h
    · simp only [Bool.and_eq_true] at h
      refine (dk_cons (sE O G a X Γ Φ _ h.1) (sKw O G r X Γ Φ _ h.2)).weak fun ρ post ⟨ρ', z, ev, hp⟩ => ?_
      simp only [evA, bnd_ok] at ev
      obtain ⟨ρ1, d, e1, ρ2, l, e2, e3⟩ := ev
      cases e3
      exact ⟨ρ1, d, e1, _, l, e2, hp⟩
    · cases h
  | .star a r, X, Γ, Φ, e, h => by cases h
theorem sAv (O : Or) (G : G0) (vw : Bool) : ∀ (c : Av) (X : Cx) (Γ : Gm), Fit O G X Γ → ∀ e : List Expr, okAv Γ vw c e = true → DAv G X vw e (wR (evAv O c))
  | .nil, X, Γ, Φ, e, h => by
    unfold okAv at h
    split at h
    · exact dav_nil.weak fun ρ post ⟨ρ', z, ev, hp⟩ => by cases ev; exact hp
    · cases h
  | .cons a r, X, Γ, Φ, e, h => by
    unfold okAv at h
    split at h
    · simp only [Bool.and_eq_true] at h
      refine (dav_cons (sE O G a X Γ Φ _ h.1.2) (sAv O G vw r X Γ Φ _ h.2) (star_plain h.1.1)).weak fun ρ post ⟨ρ', z, ev, hp⟩ => ?_
      simp only [evAv, bnd_ok] at ev
      obtain ⟨ρ1, d, e1, ρ2, l, e2, e3⟩ := ev
      cases e3
      exact ⟨ρ1, d, e1, _, l, e2, hp⟩
    · cases h
  | .vw i r, X, Γ, Φ, e, h => by
    unfold okAv at h
    split at h
    · simp only [Bool.and_eq_true] at h
      obtain ⟨⟨rfl, h1⟩, h2⟩ := h
      obtain ⟨q1, q2, q3, q4⟩ := Φ.okN h1
      refine (dav_vw i (sAv O G true r X Γ Φ _ h2) q1 q2 q3 q4 (star_plain rfl)).weak fun ρ post ⟨ρ', z, ev, hp⟩ => ?_
      unfold evAv at ev
      unfold wVw
      split at ev
      · rename_i t0 e0
        simp only [bind_ok, bnd_ok, of_ok] at ev
        obtain ⟨ρ2, l, e1, t, e2, e3⟩ := ev
        obtain ⟨hl, e4⟩ := if_ok.mp e3
        cases e4
        try simp only [e0]
        refine ⟨_, l, e1, ?_⟩
        try simp only [e2]
        exact ⟨hl, hp⟩
      · cases ev
    · cases h
theorem sQs (O : Or) (G : G0) : ∀ (c : Qs) (X : Cx) (Γ : Gm), Fit O G X Γ → ∀ e : List Expr, okQs Γ c e = true → DAT G X e (wR (evQs O c))
  | .nil, X, Γ, Φ, e, h => by
    unfold okQs at h
    split at h
    · exact dat_nil.weak fun ρ post ⟨ρ', z, ev, hp⟩ => by cases ev; exact hp
    · cases h
  | .cons a r, X, Γ, Φ, e, h => by
    unfold okQs at h
    split at h
    · simp only [Bool.and_eq_true] at h
      refine (dat_cons (sQ O G a X Γ Φ _ h.1.2) (sQs O G r X Γ Φ _ h.2) (star_plain h.1.1)).weak fun ρ post ⟨ρ', z, ev, hp⟩ => ?_
      simp only [evQs, bnd_ok] at ev
      obtain ⟨ρ1, d, e1, ρ2, l, e2, e3⟩ := ev
      cases e3
      exact ⟨ρ1, d, e1, _, l, e2, hp⟩
    · cases h
theorem sV (O : Or) (G : G0) : ∀ (c : Vx) (X : Cx) (Γ : Gm), Fit O G X Γ → ∀ e : Expr, okV Γ c e = true → DV G X e (wR (evVx O c))
  | .e a, X, Γ, Φ, e, h => by
    have h' : okE Γ a e = true := h
    exact (dv_e (sE O G a X Γ Φ e h')).weak fun ρ post ⟨ρ', z, ev, hp⟩ => ⟨ρ', z, ev, hp⟩
  | .p p, X, Γ, Φ, e, h => by
    have h' : okP Γ p e = true := h
    refine (dv_pth (sP Φ p e h')).weak fun ρ post ⟨ρ', z, ev, hp⟩ => ?_
    simp only [evVx, pkP, bind_ok, of_ok] at ev
    obtain ⟨t, e1, js, e2, s, e3, e4⟩ := ev
    cases e4
    unfold wPk
    try simp only [e1, e2, e3]
    exact hp
theorem sI (O : Or) (G : G0) : ∀ (c : Ix) (X : Cx) (Γ : Gm), Fit O G X Γ → ∀ tg e : Expr, okI Γ c tg e = true → DI G X tg e (wR (evI O c))
  | .sq a, X, Γ, Φ, tg, e, h => by
    have h' : okE Γ a e = true := h
    refine (di_seq (sE O G a X Γ Φ e h')).weak fun ρ post ⟨ρ', z, ev, hp⟩ => ?_
    simp only [evI, bind_ok, bnd_ok, of_ok] at ev
    obtain ⟨ρ1, d, e1, l, e2, e3⟩ := ev
    cases e3
    refine ⟨_, d, e1, ?_⟩
    try simp only [e2]
    exact hp
  | .zip l, X, Γ, Φ, tg, e, h => by
    unfold okI at h
    split at h
    · simp only [Bool.and_eq_true, decide_eq_true_eq] at h
      obtain ⟨⟨⟨⟨rfl, h0⟩, h1⟩, h2⟩, h3⟩ := h
      obtain ⟨g1, g2⟩ := Φ.okB h1
      have h5 := noStars_two h2
      unfold isTup at h0
      split at h0
      · refine (di_zip g1 g2 (sA O G l X Γ Φ _ h3) (star_plain h5.1) (back_plain (by simp [noStars, h5.2]))).weak fun ρ post ⟨ρ', z, ev, hp⟩ => ?_
        simp only [evI, bnd_ok] at ev
        obtain ⟨ρ1, ds, e1, e2⟩ := ev
        refine ⟨_, ds, e1, ?_⟩
        split at e2
        · simp only [bind_ok, of_ok] at e2
          obtain ⟨l1, e3, l2, e4, e5⟩ := e2
          cases e5
          try simp only [e3, e4]
          exact hp
        · cases e2
      · cases h0
    · cases h
  | .zip3 l, X, Γ, Φ, tg, e, h => by
    unfold okI at h
    split at h
    · simp only [Bool.and_eq_true, decide_eq_true_eq] at h
      obtain ⟨⟨⟨⟨rfl, h0⟩, h1⟩, h2⟩, h3⟩ := h
      obtain ⟨g1, g2⟩ := Φ.okB h1
      have h5 := noStars_cons h2
      unfold isTup at h0
      split at h0
      · refine (di_zip3 g1 g2 (sA O G l X Γ Φ _ h3) (star_plain h5.1) (back_plain h5.2)).weak fun ρ post ⟨ρ', z, ev, hp⟩ => ?_
        simp only [evI, bnd_ok] at ev
        obtain ⟨ρ1, ds, e1, e2⟩ := ev
        refine ⟨_, ds, e1, ?_⟩
        split at e2
        · simp only [bind_ok, of_ok] at e2
          obtain ⟨l1, e3, l2, e4, l3, e4', e5⟩ := e2
          cases e5
          simp only [e3, e4, e4']
          exact hp
        · cases e2
      · cases h0
    · cases h
  | .enum l, X, Γ, Φ, tg, e, h => by
    unfold okI at h
    split at h
    · simp only [Bool.and_eq_true, decide_eq_true_eq] at h
      obtain ⟨⟨⟨⟨rfl, h0⟩, h1⟩, h2⟩, h3⟩ := h
      obtain ⟨g1, g2⟩ := Φ.okB h1
      unfold isTup at h0
      split at h0
      · refine (di_enum g1 g2 (sA O G l X Γ Φ _ h3) (star_plain h2)).weak fun ρ post ⟨ρ', z, ev, hp⟩ => ?_
        simp only [evI, bnd_ok] at ev
        obtain ⟨ρ1, ds, e1, e2⟩ := ev
        refine ⟨_, ds, e1, ?_⟩
        split at e2
        · simp only [bind_ok, of_ok] at e2
          obtain ⟨l1, e3, e5⟩ := e2
          cases e5
          try simp only [e3]
          exact hp
        · cases e2
      · cases h0
    · cases h
  | .rng1 l, X, Γ, Φ, tg, e, h => by
    unfold okI at h
    split at h
    · simp only [Bool.and_eq_true, decide_eq_true_eq] at h
      obtain ⟨⟨⟨rfl, h1⟩, h2⟩, h3⟩ := h
      obtain ⟨g1, g2⟩ := Φ.okB h1
      refine (di_range1 g1 g2 (sA O G l X Γ Φ _ h3) (star_plain h2)).weak fun ρ post ⟨ρ', z, ev, hp⟩ => ?_
      simp only [evI, bnd_ok] at ev
      obtain ⟨ρ1, ds, e1, e2⟩ := ev
      refine ⟨_, ds, e1, ?_⟩
      split at e2
      · obtain ⟨hl, e3⟩ := if_ok.mp e2
        cases e3
        exact ⟨hl.1, hl.2, hp⟩
      · cases e2
    · cases h
  | .rng2 l, X, Γ, Φ, tg, e, h => by
    unfold okI at h
    split at h
    · simp only [Bool.and_eq_true, decide_eq_true_eq] at h
      obtain ⟨⟨⟨rfl, h1⟩, h2⟩, h3⟩ := h
      obtain ⟨g1, g2⟩ := Φ.okB h1
      have h5 := noStars_two h2
      have s2 : starEach [_] X.env = _ := star_plain (es := []) h5.2
      refine (di_range2 g1 g2 (sA O G l X Γ Φ _ h3) (by rw [star_plain h5.1, s2]; rfl) s2).weak fun ρ post ⟨ρ', z, ev, hp⟩ => ?_
      simp only [evI, bnd_ok] at ev
      obtain ⟨ρ1, ds, e1, e2⟩ := ev
      refine ⟨_, ds, e1, ?_⟩
      split at e2
      · obtain ⟨hl, e3⟩ := if_ok.mp e2
        cases e3
        exact ⟨hl, hp⟩
      · cases e2
    · cases h
theorem sTs (O : Or) (G : G0) : ∀ (c : Ts) (X : Cx) (Γ : Gm), Fit O G X Γ → ∀ e : List Expr, okTs Γ c e = true → DTs G X e (wR (evTs O c))
  | .nil, X, Γ, Φ, e, h => by
    unfold okTs at h
    split at h
    · exact dts_nil.weak fun ρ post ⟨ρ', z, ev, hp⟩ => by cases ev; exact hp
    · cases h
  | .one t, X, Γ, Φ, e, h => by
    unfold okTs at h
    split at h
    · exact (dts_one (sT O G t X Γ Φ _ h)).weak fun ρ post ⟨ρ', z, ev, hp⟩ => ⟨ρ', z, ev, hp⟩
    · cases h
end
end J

set_option Elab.async false
set_option linter.all false
set_option maxRecDepth 100000
set_option maxHeartbeats 4000000
namespace J
open PySem PySem.Spec PyProof.Rows L2

/-! ### comprehensions that are assigned -/
section
variable {G : G0} {X : Cx} {elt tg iter tg1 iter1 : Expr} {ifs ifs1 : List Expr} {scope : Scope} {own : List (Str × Nat)} {pos spos py : Pos} {y : Str} {wi wi1 : WN} {ts ts1 vs1 : List Nat} {g g1 : WG} {tt tt1 : WT} {te : WQ}
theorem ds_setLc (i : Nat) (own : List (Str × Nat)) (hi0 : i ∉ G.pr) (hy : X.N[i]? = some y) (hyl : X.env.scope.names.lookup y = some .local) (hsw : swapsWith (.ListComp elt [⟨tg, iter, ifs, 0⟩] scope pos) (some (.Name y py)) spos.line X.env = pure true)
    (hpr : ∀ v ∈ own.map (·.2), v ∉ G.pr) (hc : X.calm = true) (hN : X.N.Nodup) (hi : DI G X tg iter wi) (ok : BlkOk X.N X.env.scope scope own) (hts : ∀ i ∈ ts, i ∈ own.map (·.2))
    (hg : ∀ (s : Shared) (H : Hp) (C : Addr) (cl : List (Str × Addr)) (fp : List Addr), DG G (X.blk s H scope (compEnvC scope cl C X.env) fp) tg ts g) (ht : ∀ (s : Shared) (H : Hp) (C : Addr) (cl : List (Str × Addr)) (fp : List Addr), DTs G (X.blk s H scope (compEnvC scope cl C X.env) fp) ifs tt)
    (he : ∀ (s : Shared) (H : Hp) (C : Addr) (cl : List (Str × Addr)) (fp : List Addr), DQ G (X.blk s H scope (compEnvC scope cl C X.env) fp) elt te) (hs : ∀ x, foldedSetIterable iter X.env x = pure x) :
    DS G X (.Assign [.Name y py] (.ListComp elt [⟨tg, iter, ifs, 0⟩] scope pos) spos) (wSetQ i (wLc wi (own.map (·.2)) g tt te)) :=
  .of ⟨_, ps_setLc hc hN hy hyl hsw hi.run ok (fun s H C cl fp => (hg s H C cl fp).run) (fun s H C cl fp => (ht s H C cl fp).run) (fun s H C cl fp => (he s H C cl fp).run) hs,
    fun b σ H F ρ De D I hw m => snd_lc hpr hts b σ H F ρ _ I hw _ fun v H1 F1 ρ1 fps1 t fp s1 I1 a1 nd hf h => m.nx _ H1 F1 _ s1 (I1.setT hi0 a1 nd hf).ok h⟩
theorem ds_setLc2 (i : Nat) (own : List (Str × Nat)) (vs1 : List Nat) (hi0 : i ∉ G.pr) (hy : X.N[i]? = some y) (hyl : X.env.scope.names.lookup y = some .local) (hsw : swapsWith (.ListComp elt [⟨tg, iter, ifs, 0⟩, ⟨tg1, iter1, ifs1, 0⟩] scope pos) (some (.Name y py)) spos.line X.env = pure true)
    (hpr : ∀ v ∈ own.map (·.2), v ∉ G.pr) (hc : X.calm = true) (hN : X.N.Nodup) (hi : DI G X tg iter wi) (ok : BlkOk X.N X.env.scope scope own) (hv : ∀ i ∈ vs1, i ∈ own.map (·.2)) (hts : ∀ i ∈ ts, i ∈ own.map (·.2)) (hts1 : ∀ i ∈ ts1, i ∈ vs1)
    (hg : ∀ (s : Shared) (H : Hp) (C : Addr) (cl : List (Str × Addr)) (fp : List Addr), DG G (X.blk s H scope (compEnvC scope cl C X.env) fp) tg ts g) (ht : ∀ (s : Shared) (H : Hp) (C : Addr) (cl : List (Str × Addr)) (fp : List Addr), DTs G (X.blk s H scope (compEnvC scope cl C X.env) fp) ifs tt)
    (hi1 : ∀ (s : Shared) (H : Hp) (C : Addr) (cl : List (Str × Addr)) (fp : List Addr), DI G (X.blk s H scope (compEnvC scope cl C X.env) fp) tg1 iter1 wi1)
    (hg1 : ∀ (s : Shared) (H : Hp) (C : Addr) (cl : List (Str × Addr)) (fp : List Addr), DG G (X.blk s H scope (compEnvC scope cl C X.env) fp) tg1 ts1 g1) (ht1 : ∀ (s : Shared) (H : Hp) (C : Addr) (cl : List (Str × Addr)) (fp : List Addr), DTs G (X.blk s H scope (compEnvC scope cl C X.env) fp) ifs1 tt1)
    (he : ∀ (s : Shared) (H : Hp) (C : Addr) (cl : List (Str × Addr)) (fp : List Addr), DQ G (X.blk s H scope (compEnvC scope cl C X.env) fp) elt te) (hs : ∀ x, foldedSetIterable iter X.env x = pure x) (hs1 : ∀ env x, foldedSetIterable iter1 env x = pure x) :
    DS G X (.Assign [.Name y py] (.ListComp elt [⟨tg, iter, ifs, 0⟩, ⟨tg1, iter1, ifs1, 0⟩] scope pos) spos) (wSetQ i (wLc2 wi (own.map (·.2)) g tt wi1 vs1 g1 tt1 te)) :=
  .of ⟨_, ps_setLc2 hc hN hy hyl hsw hi.run ok hv (fun s H C cl fp => (hg s H C cl fp).run) (fun s H C cl fp => (ht s H C cl fp).run) (fun s H C cl fp => (hi1 s H C cl fp).run) (fun s H C cl fp => (hg1 s H C cl fp).run) (fun s H C cl fp => (ht1 s H C cl fp).run) (fun s H C cl fp => (he s H C cl fp).run) hs hs1,
    fun b σ H F ρ De D I hw m => snd_lc2 hpr hts hts1 hv b σ H F ρ _ I hw _ fun v H1 F1 ρ1 fps1 t fp s1 I1 a1 nd hf h => m.nx _ H1 F1 _ s1 (I1.setT hi0 a1 nd hf).ok h⟩
end

/-! ### how the stores go -/
def isFun (sc : Scope) : Bool := decide (sc.kind = .function)
def ownName (sc : Scope) (y : Str) : Bool := sc.names.any fun (n, k) => n == y && (k == .local || k == .cell)
theorem bk_fun {env : PySem.Env} {sc : Scope} (h : env.scope = sc) (hk : sc.kind = .function) : env.blockKind = .function := by
  unfold Env.blockKind
  rw [h, hk]
  rfl
theorem swap_own {e : Expr} {gs : List Comprehension} {scope : Scope} {pos py : Pos} {y : Str} {n : Nat} {env : PySem.Env} {sc : Scope} (h : env.scope = sc) (hk : sc.kind = .function) (hy : sc.names.lookup y = some .local) (hl : (py.line == pos.line) = true) (ho : ownName scope y = false) :
    swapsWith (.ListComp e gs scope pos) (some (.Name y py)) n env = pure true := by
  have hb := bk_fun h hk
  have hy' : env.kindOf y = some .local := by
    show env.scope.names.lookup y = _
    rw [h]; exact hy
  show pure (env.blockKind == .function && env.kindOf y == some .local && py.line == pos.line && !(scope.names.any fun (n, k) => n == y && (k == .local || k == .cell))) = pure true
  have ho' : (scope.names.any fun (n, k) => n == y && (k == .local || k == .cell)) = false := ho
  rw [hb, hy', hl, ho']
  rfl
theorem swap_cell {e : Expr} {py : Pos} {y : Str} {n : Nat} {env : PySem.Env} {sc : Scope} (h : env.scope = sc) (hy : sc.names.lookup y = some .cell) : swapsWith e (some (.Name y py)) n env = pure false := by
  have hy' : env.kindOf y = some .cell := by
    show env.scope.names.lookup y = _
    rw [h]; exact hy
  have key : ∀ (p : Pos) (scope : Scope), (pure (env.blockKind == .function && env.kindOf y == some .local && py.line == p.line && !(scope.names.any fun (n, k) => n == y && (k == .local || k == .cell))) : Sem Bool) = pure false := fun p scope => by
    rw [hy']
    cases (env.blockKind == ScopeKind.function) <;> rfl
  cases e <;> first | rfl | exact key _ _
theorem swp_par {x y : Str} {px py pt pt2 : Pos} {kt k2 : Nat} {e1 e2 : Expr} {env : PySem.Env} (hb : env.blockKind = .function) (hx : env.kindOf x = some .local) (hy : env.kindOf y = some .local) (hl : (py.line == px.line) = true) (hne : x ≠ y)
   (s1 : noStar e1 = true) (s2 : noStar e2 = true) (hc : [e1, e2].all (constantsAlone 8) = false) (hf : [e1, e2].all (foldedForSure 8) = false) : swappedStores [.Tuple [.Name x px, .Name y py] kt pt] (.Tuple [e1, e2] k2 pt2) env = pure (some [x, y]) := by
  have h1 : (y == x) = false := by simpa using fun h => hne h.symm
  unfold swappedStores
  simp only [hc, hf, hb]
  simp [hx, hy, hl, Expr.pos, List.filterMap, List.eraseDups, List.eraseDupsBy, List.eraseDupsBy.loop, h1]
  intro h
  exfalso
  rcases h with h | h
  · cases e1 <;> first | (cases h; done) | (cases s1; done)
  · cases e2 <;> first | (cases h; done) | (cases s2; done)
theorem swp_par3 {x y z : Str} {px py pz pt pt2 : Pos} {kt k2 : Nat} {e1 e2 e3 : Expr} {env : PySem.Env} (hb : env.blockKind = .function) (hx : env.kindOf x = some .local) (hy : env.kindOf y = some .local) (hz : env.kindOf z = some .local) (hl : (py.line == px.line) = true) (hl3 : (pz.line == px.line) = true)
   (hne : x ≠ y) (hne2 : x ≠ z) (hne3 : y ≠ z)
   (s1 : noStar e1 = true) (s2 : noStar e2 = true) (s3 : noStar e3 = true) (hc : [e1, e2, e3].all (constantsAlone 8) = false) (hf : [e1, e2, e3].all (foldedForSure 8) = false) : swappedStores [.Tuple [.Name x px, .Name y py, .Name z pz] kt pt] (.Tuple [e1, e2, e3] k2 pt2) env = pure (some [x, y, z]) := by
  have h1 : (y == x) = false := by simpa using fun h => hne h.symm
  have h2 : (z == x) = false := by simpa using fun h => hne2 h.symm
  have h3 : (z == y) = false := by simpa using fun h => hne3 h.symm
  unfold swappedStores
  simp only [hc, hf, hb]
  simp [hx, hy, hz, hl, hl3, Expr.pos, List.filterMap, List.eraseDups, List.eraseDupsBy, List.eraseDupsBy.loop, h1, h2, h3]
  intro h
  exfalso
  rcases h with h | h | h
  · cases e1 <;> first | (cases h; done) | (cases s1; done)
  · cases e2 <;> first | (cases h; done) | (cases s2; done)
  · cases e3 <;> first | (cases h; done) | (cases s3; done)
/-- a target that is a cell: the stores are not swapped -/
def cellN (sc : Scope) : List Expr → Bool
  | [] => false
  | .Name x _ :: r => decide (sc.names.lookup x = some .cell) || cellN sc r
  | _ :: r => cellN sc r
theorem fm_lt {f : Expr → Option Str} {sc : Scope} (hf : ∀ x p, sc.names.lookup x = some .cell → f (.Name x p) = none) : ∀ {l : List Expr}, cellN sc l = true → (l.filterMap f).length < l.length
  | [], h => by cases h
  | e :: r, h => by
    have hle : (r.filterMap f).length ≤ r.length := List.length_filterMap_le f r
    have one : (f e = none ∨ cellN sc r = true) := by
      cases e <;> first | exact .inr h | skip
      rename_i x p
      have h' : (decide (sc.names.lookup x = some .cell) || cellN sc r) = true := h
      rw [Bool.or_eq_true] at h'
      rcases h' with h' | h'
      · exact .inl (hf x p (of_decide_eq_true h'))
      · exact .inr h'
    rcases one with h' | h'
    · rw [List.filterMap_cons, h', List.length_cons]
      show (r.filterMap f).length < r.length + 1
      omega
    · have ih := fm_lt hf h'
      rw [List.filterMap_cons, List.length_cons]
      split
      · omega
      · rw [List.length_cons]; omega
theorem swp_cell {ts vs : List Expr} {k k2 : Nat} {pt pt2 : Pos} {env : PySem.Env} {sc : Scope} (he : env.scope = sc) (h : cellN sc ts = true) : swappedStores [.Tuple ts k pt] (.Tuple vs k2 pt2) env = pure none := by
  unfold swappedStores
  dsimp only
  split
  · rfl
  · split
    · rfl
    · have := fm_lt (l := ts) (sc := sc) (f := fun
        | .Name id pos => if env.kindOf id == some .local && pos.line == (ts.head?.map (·.pos.line)).getD 0 then some id else none
        | _ => none) (fun x p hx => by
          have : env.kindOf x = some .cell := by
            show env.scope.names.lookup x = _
            rw [he]; exact hx
          simp [this]) h
      rw [if_pos]
      simp only [Bool.or_eq_true, bne_iff_ne, ne_eq]
      exact .inl (Nat.ne_of_lt this)
theorem swp_none {tg e : Expr} {env : PySem.Env} (h : isTup e = false ∨ (match tg with | .Tuple _ _ _ => false | .List _ _ => false | _ => true) = true) : swappedStores [tg] e env = pure none := by
  rcases h with h | h
  · cases tg <;> cases e <;> first | rfl | cases h
  · cases tg <;> first | (cases e <;> rfl) | cases h
theorem swp_const {ts vs : List Expr} {k k2 : Nat} {pt pt2 : Pos} {env : PySem.Env} (h : vs.all (foldedForSure 8) = true) : swappedStores [.Tuple ts k pt] (.Tuple vs k2 pt2) env = pure none := by
  unfold swappedStores
  dsimp only
  split
  · rfl
  · split
    · rfl
    · split
      · rfl
      · rfl
theorem swap_att {e o : Expr} {f : Str} {p : Pos} {n : Nat} {env : PySem.Env} : swapsWith e (some (.Attribute o f p)) n env = pure false := by
  cases e <;> rfl
end J

set_option Elab.async false
set_option linter.all false
set_option maxRecDepth 100000
set_option maxHeartbeats 4000000
namespace J
open PySem PySem.Spec PyProof.Rows L2

/-! ### the checks of statements -/
def isLc : Qx → Bool
  | .lc _ _ _ _ _ => true
  | .lc2 _ _ _ _ _ _ _ _ _ => true
  | _ => false
def notSeq : Expr → Bool
  | .Tuple _ _ _ => false
  | .List _ _ => false
  | _ => true
def okLs (Γ : Gm) : List Nat → List Expr → Bool
  | [], es => match es with
    | [] => true
    | _ => false
  | i :: is, es => match es with
    | .Name x _ :: es => okL Γ i x && okLs Γ is es
    | _ => false
mutual
def okS (Γ : Gm) : St → Stmt → Bool
  | .set i a, s => match s with
    | .Assign [.Name x _] e _ => okL Γ i x && okE Γ a e && (noComp e || kdB Γ x .cell)
    | _ => false
  | .setq i q, s => match s with
    | .Assign [.Name x _] e _ => okL Γ i x && okQ Γ q e && (noComp e || kdB Γ x .cell)
    | _ => false
  | .setc i q, s => match s with
    | .Assign [.Name x px] (.ListComp el gs scope pos) _ => okL Γ i x && kdB Γ x .local && (px.line == pos.line) && !(ownName scope x) && isLc q && okQ Γ q (.ListComp el gs scope pos)
    | _ => false
  | .asg g a, s => match s with
    | .Assign [tg] e _ => okG Γ g tg && okE Γ a e && noComp e && (!isTup e || notSeq tg)
    | _ => false
  | .ret a, s => match s with
    | .Return (some e) _ => okE Γ a e
    | _ => false
  | .retq q, s => match s with
    | .Return (some e) _ => okQ Γ q e
    | _ => false
  | .retN, s => match s with
    | .Return none _ => true
    | _ => false
  | .exp a, s => match s with
    | .Expr e _ => okE Γ a e && noComp e
    | _ => false
  | .ite t a b, s => match s with
    | .If c x y _ => okT Γ t c && okSs Γ a x && okSs Γ b y
    | _ => false
  | .for it g b, s => match s with
    | .For tg iter body [] _ => okI Γ it tg iter && okG Γ g tg && okSs Γ b body && noSet iter
    | _ => false
  | .wh t b, s => match s with
    | .While c body [] _ => okT Γ t c && okSs Γ b body
    | _ => false
  | .pass, s => match s with
    | .Pass _ => true
    | _ => false
  | .brk, s => match s with
    | .Break _ => true
    | _ => false
  | .cnt, s => match s with
    | .Continue _ => true
    | _ => false
  | .never, _ => true
  | .app i q, s => match s with
    | .Expr (.Call (.Attribute (.Name x _) m ap) [e] [] pos) _ => decide (m = "append") && okN Γ i x && okQ Γ q e && noStar e && (ap.endLine == pos.line)
    | _ => false
  | .appP p u, s => match s with
    | .Expr (.Call (.Attribute o m ap) [e] [] pos) _ => decide (m = "append") && okP Γ p o && okU Γ u e && noStar e && (ap.endLine == pos.line) && noCall o
    | _ => false
  | .ext i a, s => match s with
    | .Expr (.Call (.Attribute (.Name x _) m ap) [e] [] pos) _ => decide (m = "extend") && okN Γ i x && okE Γ a e && noStar e && (ap.endLine == pos.line)
    | _ => false
  | .fld p f q, s => match s with
    | .Assign [.Attribute o g _] e _ => decide (f = g) && okP Γ p o && okQ Γ q e
    | _ => false
  | .par i j l, s => match s with
    | .Assign [.Tuple [.Name x px, .Name y py] _ _] (.Tuple [e1, e2] _ _) _ => okL Γ i x && okL Γ j y && kdB Γ x .local && kdB Γ y .local && decide (x ≠ y) && decide (i ≠ j) && (py.line == px.line) && noStars [e1, e2] && !([e1, e2].all (constantsAlone 8)) && !([e1, e2].all (foldedForSure 8)) && okQs Γ l [e1, e2]
    | _ => false
  | .par3 i j k l, s => match s with
    | .Assign [.Tuple [.Name x px, .Name y py, .Name z pz] _ _] (.Tuple [e1, e2, e3] _ _) _ => okL Γ i x && okL Γ j y && okL Γ k z && kdB Γ x .local && kdB Γ y .local && kdB Γ z .local && decide (x ≠ y) && decide (x ≠ z) && decide (y ≠ z) && decide (i ≠ j) && decide (i ≠ k) && decide (j ≠ k) &&
      (py.line == px.line) && (pz.line == px.line) && noStars [e1, e2, e3] && !([e1, e2, e3].all (constantsAlone 8)) && !([e1, e2, e3].all (foldedForSure 8)) && okQs Γ l [e1, e2, e3]
    | _ => false
  | .unp is l, s => match s with
    | .Assign [.Tuple ts _ _] (.Tuple es _ _) _ => okLs Γ is ts && noStars ts && (cellN Γ.sc ts || es.all (foldedForSure 8)) && okQs Γ l es
    | _ => false
def okSs (Γ : Gm) : Sts → List Stmt → Bool
  | .nil, ss => match ss with
    | [] => true
    | _ => false
  | .cons a r, ss => match ss with
    | s :: ss => okS Γ a s && okSs Γ r ss
    | _ => false
end
def endF (De : DEnds) : Flow → Prop
  | .nx ρ => De.nx ρ
  | .rt ρ t => De.rt ρ t
  | .bk ρ => De.bk ρ
  | .ct ρ => De.ct ρ
def wSr (ev : Env → R Flow) : WS := fun De ρ => ∃ f, ev ρ = .ok f ∧ endF De f
theorem for_go {g : D → Env → R Env} {b : Env → R Flow} {ds : List D} {ρ1 : Env} {f : Flow} {De : DEnds} (h : forJ g b ds ρ1 = .ok f) (hp : endF De f) : ∃ Iv : Nat → Env → Prop, Iv 0 ρ1 ∧
    (∀ i d ρ, ds[i]? = some d → Iv i ρ → wGr g d ρ fun ρ2 => wSr b { De with nx := Iv (i + 1), ct := Iv (i + 1), bk := De.nx } ρ2) ∧ ∀ ρ, Iv ds.length ρ → De.nx ρ := by
  refine ⟨fun i r => ∃ f, forJ g b (ds.drop i) r = .ok f ∧ endF De f, ⟨f, by simpa using h, hp⟩, fun i d r e hi => ?_, fun r hi => ?_⟩
  · dsimp only at hi
    rw [drop_at e] at hi
    obtain ⟨f', hi, hp'⟩ := hi
    simp only [forJ, bind_ok] at hi
    obtain ⟨r2, e1, f2, e2, hi⟩ := hi
    refine ⟨r2, e1, f2, e2, ?_⟩
    cases f2 with
    | nx r3 => exact ⟨f', hi, hp'⟩
    | ct r3 => exact ⟨f', hi, hp'⟩
    | bk r3 => cases hi; exact hp'
    | rt r3 t => cases hi; exact hp'
  · dsimp only at hi
    rw [List.drop_length] at hi
    obtain ⟨f', hi, hp'⟩ := hi
    cases hi
    exact hp'
theorem while_go {t : Env → R (Env × Bool)} {b : Env → R Flow} {n : Nat} {ρ1 : Env} {f : Flow} {De : DEnds} (h : whileJ t b n ρ1 = .ok f) (hp : endF De f) : wWhile (wR t) (wSr b) De ρ1 := by
  refine ⟨fun m r => ∃ f, whileJ t b m r = .ok f ∧ endF De f, ⟨n, f, h, hp⟩, fun m r ⟨f', hi, hp'⟩ => ?_⟩
  cases m with
  | zero => cases hi
  | succ m =>
    simp only [whileJ, bnd_ok] at hi
    obtain ⟨r1, k, e1, hi⟩ := hi
    refine ⟨r1, k, e1, ?_⟩
    cases k with
    | false => cases hi; exact hp'
    | true =>
      simp only [bind_ok] at hi
      obtain ⟨f2, e2, hi⟩ := hi
      refine ⟨f2, e2, ?_⟩
      cases f2 with
      | nx r3 => exact ⟨m, Nat.lt_succ_self m, f', hi, hp'⟩
      | ct r3 => exact ⟨m, Nat.lt_succ_self m, f', hi, hp'⟩
      | bk r3 => cases hi; exact hp'
      | rt r3 t => cases hi; exact hp'
section
variable {O : Or} {G : G0} {X : Cx} {Γ : Gm}
theorem Fit.loc (Φ : Fit O G X Γ) {x : Str} (h : kdB Γ x .local = true) : X.env.scope.names.lookup x = some .local := by rw [Φ.sc]; exact kdB_iff.mp h
theorem swap_or (Φ : Fit O G X Γ) {x : Str} {p : Pos} {e : Expr} {n : Nat} (h : (noComp e || kdB Γ x .cell) = true) : swapsWith e (some (.Name x p)) n X.env = pure false := by
  rw [Bool.or_eq_true] at h
  rcases h with h | h
  · exact swap_plain h
  · exact swap_cell Φ.sc (kdB_iff.mp h)
theorem sLs (Φ : Fit O G X Γ) : ∀ {is : List Nat} {es : List Expr}, okLs Γ is es = true → DNs X es is ∧ (∀ i ∈ is, i ∉ G.pr) ∧ es.length = is.length
  | [], es, h => by
    cases es with
    | nil => exact ⟨dns_nil, by simp, rfl⟩
    | cons _ _ => cases h
  | i :: is, es, h => by
    unfold okLs at h
    split at h
    · rw [Bool.and_eq_true] at h
      obtain ⟨h1, h2, h3, h4⟩ := Φ.okL h.1
      obtain ⟨k1, k2, k3⟩ := sLs Φ h.2
      refine ⟨dns_cons i Φ.nd k1 h2 h3 h4, fun j m => ?_, by rw [List.length_cons, List.length_cons, k3]⟩
      rcases List.mem_cons.mp m with rfl | m
      · exact h1
      · exact k2 j m
    · cases h
end
mutual
theorem sS (O : Or) (G : G0) (X : Cx) (Γ : Gm) (Φ : Fit O G X Γ) (own : PassesOwn (model X.prog X.w) X.A X.env X.xe) : ∀ (c : St) (s : Stmt), okS Γ c s = true → DS G X s (wSr (evS O c))
  | .set i a, s, h => by
    unfold okS at h
    split at h
    · simp only [Bool.and_eq_true] at h
      obtain ⟨h1, h2, h3, h4⟩ := Φ.okL h.1.1
      refine (ds_set i h1 Φ.nd (sE O G a X Γ Φ _ h.1.2) h2 h3 (swap_or Φ h.2) h4).weak fun De ρ ⟨f, ev, hp⟩ => ?_
      simp only [evS, bnd_ok] at ev
      obtain ⟨ρ1, d, e1, e2⟩ := ev
      cases e2
      exact ⟨ρ1, d, e1, hp⟩
    · cases h
  | .setq i q, s, h => by
    unfold okS at h
    split at h
    · simp only [Bool.and_eq_true] at h
      obtain ⟨h1, h2, h3, h4⟩ := Φ.okL h.1.1
      refine (ds_setQ i h1 Φ.nd (sQ O G q X Γ Φ _ h.1.2) h2 h3 (swap_or Φ h.2) h4).weak fun De ρ ⟨f, ev, hp⟩ => ?_
      simp only [evS, bnd_ok] at ev
      obtain ⟨ρ1, d, e1, e2⟩ := ev
      cases e2
      exact ⟨ρ1, d, e1, hp⟩
    · cases h
  | .setc i q, s, h => by
    unfold okS at h
    split at h
    · rename_i x px el gs scope pos spos
      simp only [Bool.and_eq_true, Bool.not_eq_true'] at h
      obtain ⟨⟨⟨⟨⟨h0, hl⟩, hp⟩, ho⟩, hc⟩, hq⟩ := h
      obtain ⟨h1, h2, h3, h4⟩ := Φ.okL h0
      have hsw : ∀ n, swapsWith (.ListComp el gs scope pos) (some (.Name x px)) n X.env = pure true := fun n => swap_own Φ.sc Φ.kd (kdB_iff.mp hl) hp ho
      cases q <;> first | (cases hc; done) | skip
      · rename_i it g ifs el' own'
        unfold okQ at hq
        split at hq
        · rename_i eq
          cases eq
          simp only [Bool.and_eq_true, decide_eq_true_eq] at hq
          obtain ⟨⟨⟨⟨⟨⟨⟨⟨q1, q2⟩, q3⟩, q4⟩, q5⟩, q6⟩, q7⟩, q8⟩, q9⟩ := hq
          have bk : BlkOk X.N X.env.scope scope own' := by
            rw [Φ.N, Φ.sc]
            exact blkOk_by q4
          refine (ds_setLc i own' h1 h2 (Φ.loc hl) (hsw _) (fun v m => by rw [Φ.pr]; exact offP_iff q5 v m) Φ.calm Φ.nd (sI O G it X Γ Φ _ _ q2) bk (subN_iff q6) (fun s H C cl fp => sG (Φ.blk q3 s H C cl fp) g _ q7) (fun s H C cl fp => sTs O G ifs _ _ (Φ.blk q3 s H C cl fp) _ q8)
            (fun s H C cl fp => sQ O G el' _ _ (Φ.blk q3 s H C cl fp) _ q9) (fold_plain q1 _)).weak fun De ρ ⟨f, ev, hp⟩ => ?_
          simp only [evS, evQ, bnd_ok] at ev
          obtain ⟨ρ3, t, ⟨ρ1, ds, e1, ρ2, acc, e2, e3⟩, e4⟩ := ev
          cases e3
          cases e4
          exact ⟨ρ1, ds, e1, lc_go (post := fun ρ t => De.nx (ρ.set i (some t))) e2 hp⟩
        · cases hq
      · rename_i it g ifs it1 g1 ifs1 el' own' vs1
        unfold okQ at hq
        split at hq
        · rename_i eq
          cases eq
          simp only [Bool.and_eq_true, decide_eq_true_eq] at hq
          obtain ⟨⟨⟨⟨⟨⟨⟨⟨⟨⟨⟨⟨⟨⟨q0, q0'⟩, q2⟩, q3⟩, q4⟩, q5⟩, q6⟩, q7⟩, q8⟩, k1⟩, k2⟩, k3⟩, k4⟩, k5⟩, k6⟩ := hq
          have bk : BlkOk X.N X.env.scope scope own' := by
            rw [Φ.N, Φ.sc]
            exact blkOk_by q4
          refine (ds_setLc2 i own' vs1 h1 h2 (Φ.loc hl) (hsw _) (fun v m => by rw [Φ.pr]; exact offP_iff q5 v m) Φ.calm Φ.nd (sI O G it X Γ Φ _ _ q2) bk (subN_iff q6) (subN_iff q7) (subN_iff q8) (fun s H C cl fp => sG (Φ.blk q3 s H C cl fp) g _ k1) (fun s H C cl fp => sTs O G ifs _ _ (Φ.blk q3 s H C cl fp) _ k2)
            (fun s H C cl fp => sI O G it1 _ _ (Φ.blk q3 s H C cl fp) _ _ k3) (fun s H C cl fp => sG (Φ.blk q3 s H C cl fp) g1 _ k4) (fun s H C cl fp => sTs O G ifs1 _ _ (Φ.blk q3 s H C cl fp) _ k5)
            (fun s H C cl fp => sQ O G el' _ _ (Φ.blk q3 s H C cl fp) _ k6) (fold_plain q0 _) (fold_plain q0')).weak fun De ρ ⟨f, ev, hp⟩ => ?_
          simp only [evS, evQ, bnd_ok] at ev
          obtain ⟨ρ3, t, ⟨ρ1, ds, e1, ρ2, acc, e2, e3⟩, e4⟩ := ev
          cases e3
          cases e4
          exact ⟨ρ1, ds, e1, lc2_go (post := fun ρ t => De.nx (ρ.set i (some t))) e2 hp⟩
        · cases hq
    · cases h
  | .asg g a, s, h => by
    unfold okS at h
    split at h
    · simp only [Bool.and_eq_true] at h
      obtain ⟨⟨⟨h1, h2⟩, h3⟩, h4⟩ := h
      refine (ds_asg (sE O G a X Γ Φ _ h2) (sG Φ g _ h1) (swap_plain h3) (swp_none ?_) ?_).weak fun De ρ ⟨f, ev, hp⟩ => ?_
      · rw [Bool.or_eq_true, Bool.not_eq_true'] at h4
        rcases h4 with z | z
        · exact .inl z
        · exact .inr z
      · rw [asg_plain (okG_star h1)]
        rfl
      · simp only [evS, bind_ok, bnd_ok] at ev
        obtain ⟨ρ1, d, e1, ρ2, e2, e3⟩ := ev
        cases e3
        exact ⟨ρ1, d, e1, ρ2, e2, hp⟩
    · cases h
  | .ret a, s, h => by
    unfold okS at h
    split at h
    · refine (ds_ret (sE O G a X Γ Φ _ h)).weak fun De ρ ⟨f, ev, hp⟩ => ?_
      simp only [evS, bnd_ok] at ev
      obtain ⟨ρ1, d, e1, e2⟩ := ev
      cases e2
      exact ⟨ρ1, d, e1, hp⟩
    · cases h
  | .retq q, s, h => by
    unfold okS at h
    split at h
    · refine (ds_retQ (sQ O G q X Γ Φ _ h)).weak fun De ρ ⟨f, ev, hp⟩ => ?_
      simp only [evS, bnd_ok] at ev
      obtain ⟨ρ1, d, e1, e2⟩ := ev
      cases e2
      exact ⟨ρ1, d, e1, hp⟩
    · cases h
  | .retN, s, h => by
    unfold okS at h
    split at h
    · refine ds_retN.weak fun De ρ ⟨f, ev, hp⟩ => ?_
      cases ev
      exact hp
    · cases h
  | .exp a, s, h => by
    unfold okS at h
    split at h
    · simp only [Bool.and_eq_true] at h
      refine (ds_exp (sE O G a X Γ Φ _ h.1) (swap_plain h.2)).weak fun De ρ ⟨f, ev, hp⟩ => ?_
      simp only [evS, bnd_ok] at ev
      obtain ⟨ρ1, d, e1, e2⟩ := ev
      cases e2
      exact ⟨ρ1, d, e1, hp⟩
    · cases h
  | .ite t a b, s, h => by
    unfold okS at h
    split at h
    · simp only [Bool.and_eq_true] at h
      refine (ds_if (sT O G t X Γ Φ _ h.1.1) (sSs O G X Γ Φ own a _ h.1.2) (sSs O G X Γ Φ own b _ h.2)).weak fun De ρ ⟨f, ev, hp⟩ => ?_
      simp only [evS, bnd_ok] at ev
      obtain ⟨ρ1, k, e1, e2⟩ := ev
      refine ⟨ρ1, k, e1, ?_⟩
      cases k with
      | true => exact ⟨f, e2, hp⟩
      | false => exact ⟨f, e2, hp⟩
    · cases h
  | .for it g b, s, h => by
    unfold okS at h
    split at h
    · simp only [Bool.and_eq_true] at h
      refine (ds_for own Φ.calm (sI O G it X Γ Φ _ _ h.1.1.1) (sG Φ g _ h.1.1.2) (sSs O G X Γ Φ own b _ h.1.2) (fold_plain h.2 _)).weak fun De ρ ⟨f, ev, hp⟩ => ?_
      simp only [evS, bnd_ok] at ev
      obtain ⟨ρ1, ds, e1, e2⟩ := ev
      exact ⟨ρ1, ds, e1, for_go e2 hp⟩
    · cases h
  | .wh t b, s, h => by
    unfold okS at h
    split at h
    · simp only [Bool.and_eq_true] at h
      refine (ds_while own (sT O G t X Γ Φ _ h.1) (sSs O G X Γ Φ own b _ h.2)).weak fun De ρ ⟨f, ev, hp⟩ => ?_
      exact while_go ev hp
    · cases h
  | .pass, s, h => by
    unfold okS at h
    split at h
    · exact ds_pass.weak fun De ρ ⟨f, ev, hp⟩ => by cases ev; exact hp
    · cases h
  | .brk, s, h => by
    unfold okS at h
    split at h
    · exact ds_break.weak fun De ρ ⟨f, ev, hp⟩ => by cases ev; exact hp
    · cases h
  | .cnt, s, h => by
    unfold okS at h
    split at h
    · exact ds_continue.weak fun De ρ ⟨f, ev, hp⟩ => by cases ev; exact hp
    · cases h
  | .never, s, h => ds_never.weak fun De ρ ⟨f, ev, hp⟩ => by cases ev
  | .app i q, s, h => by
    unfold okS at h
    split at h
    · simp only [Bool.and_eq_true, decide_eq_true_eq] at h
      obtain ⟨⟨⟨⟨rfl, h1⟩, h2⟩, h3⟩, h4⟩ := h
      obtain ⟨g1, g2, g3, g4⟩ := Φ.okN h1
      refine (ds_app i (sQ O G q X Γ Φ _ h2) g1 g2 g3 g4 rfl (few1 h3) h4 (star_plain h3) rfl rfl).weak fun De ρ ⟨f, ev, hp⟩ => ?_
      unfold evS at ev
      unfold wApp
      split at ev
      · rename_i l0 e0
        simp only [bnd_ok] at ev
        obtain ⟨ρ1, t, e1, e2⟩ := ev
        try simp only [e0]
        refine ⟨ρ1, t, e1, ?_⟩
        split at e2
        · rename_i l e3
          obtain ⟨hl, e4⟩ := if_ok.mp e2
          cases e4
          try simp only [e3]
          exact ⟨hl, hp⟩
        · cases e2
      · cases ev
    · cases h
  | .appP p u, s, h => by
    unfold okS at h
    split at h
    · simp only [Bool.and_eq_true, decide_eq_true_eq] at h
      obtain ⟨⟨⟨⟨⟨rfl, h1⟩, h2⟩, h3⟩, h4⟩, h5⟩ := h
      refine (ds_appP (sP Φ p _ h1) (sU Φ u _ h2) (att_plain h5) (few1 h3) h4 (star_plain h3) rfl rfl).weak fun De ρ ⟨f, ev, hp⟩ => ?_
      simp only [evS, bind_ok, of_ok] at ev
      obtain ⟨t, e1, js, e2, e3⟩ := ev
      unfold wAppP
      try simp only [e1, e2]
      split at e3
      · rename_i l d e4 e5
        obtain ⟨hl, e6⟩ := if_ok.mp e3
        cases e6
        try simp only [e4, e5]
        exact ⟨hl, hp⟩
      · cases e3
    · cases h
  | .ext i a, s, h => by
    unfold okS at h
    split at h
    · simp only [Bool.and_eq_true, decide_eq_true_eq] at h
      obtain ⟨⟨⟨⟨rfl, h1⟩, h2⟩, h3⟩, h4⟩ := h
      obtain ⟨g1, g2, g3, g4⟩ := Φ.okN h1
      refine (ds_ext i (sE O G a X Γ Φ _ h2) g1 g2 g3 g4 rfl (few1 h3) h4 (star_plain h3) rfl rfl).weak fun De ρ ⟨f, ev, hp⟩ => ?_
      unfold evS at ev
      unfold wExt
      split at ev
      · rename_i l0 e0
        simp only [bnd_ok] at ev
        obtain ⟨ρ1, t, e1, e2⟩ := ev
        try simp only [e0]
        refine ⟨ρ1, t, e1, ?_⟩
        split at e2
        · rename_i l m e3 e5
          obtain ⟨hl, e4⟩ := if_ok.mp e2
          cases e4
          try simp only [e3, e5]
          exact ⟨hl, hp⟩
        · cases e2
      · cases ev
    · cases h
  | .fld p f q, s, h => by
    unfold okS at h
    split at h
    · simp only [Bool.and_eq_true, decide_eq_true_eq] at h
      obtain ⟨⟨rfl, h1⟩, h2⟩ := h
      refine (ds_fld (Φ.fld f) (sP Φ p _ h1) (sQ O G q X Γ Φ _ h2) swap_att).weak fun De ρ ⟨fl, ev, hp⟩ => ?_
      simp only [evS, bind_ok, bnd_ok, of_ok] at ev
      obtain ⟨ρ1, t1, e1, t, e2, js, e3, e4⟩ := ev
      refine ⟨ρ1, t1, e1, ?_⟩
      try simp only [e2, e3]
      split at e4
      · rename_i c l e5
        simp only [bind_ok, of_ok] at e4
        obtain ⟨j, e6, l', e7, e8⟩ := e4
        obtain ⟨hl, e9⟩ := if_ok.mp e8
        cases e9
        try simp only [e5, e6, e7]
        exact ⟨hl, hp⟩
      · cases e4
    · cases h
  | .par i j l, s, h => by
    unfold okS at h
    split at h
    · simp only [Bool.and_eq_true, Bool.not_eq_true', decide_eq_true_eq] at h
      obtain ⟨⟨⟨⟨⟨⟨⟨⟨⟨⟨h1, h2⟩, h3⟩, h4⟩, h5⟩, h6⟩, h7⟩, h8⟩, h9⟩, k1⟩, k2⟩ := h
      obtain ⟨a1, a2, a3, a4⟩ := Φ.okL h1
      obtain ⟨b1, b2, b3, b4⟩ := Φ.okL h2
      have n8 := noStars_two h8
      refine (ds_par i j a1 b1 Φ.calm Φ.nd (sQs O G l X Γ Φ _ k2) (swp_par (bk_fun Φ.sc Φ.kd) (Φ.loc h3) (Φ.loc h4) h7 h5 n8.1 n8.2 h9 k1) a2 b2 h6 (Φ.loc h3) (Φ.loc h4) rfl).weak fun De ρ ⟨f, ev, hp⟩ => ?_
      simp only [evS, bnd_ok] at ev
      obtain ⟨ρ1, ts, e1, e2⟩ := ev
      refine ⟨ρ1, ts, e1, ?_⟩
      split at e2
      · cases e2
        exact hp
      · cases e2
    · cases h
  | .par3 i j k l, s, h => by
    unfold okS at h
    split at h
    · simp only [Bool.and_eq_true, Bool.not_eq_true', decide_eq_true_eq] at h
      obtain ⟨⟨⟨⟨⟨⟨⟨⟨⟨⟨⟨⟨⟨⟨⟨⟨⟨h1, h2⟩, h2'⟩, h3⟩, h4⟩, h4'⟩, h5⟩, h5'⟩, h5''⟩, h6⟩, h6'⟩, h6''⟩, h7⟩, h7'⟩, h8⟩, h9⟩, k1⟩, k2⟩ := h
      obtain ⟨a1, a2, a3, a4⟩ := Φ.okL h1
      obtain ⟨b1, b2, b3, b4⟩ := Φ.okL h2
      obtain ⟨c1, c2, c3, c4⟩ := Φ.okL h2'
      have n8 := noStars_cons h8
      have n9 := noStars_two n8.2
      refine (ds_par3 i j k a1 b1 c1 Φ.calm Φ.nd (sQs O G l X Γ Φ _ k2) (swp_par3 (bk_fun Φ.sc Φ.kd) (Φ.loc h3) (Φ.loc h4) (Φ.loc h4') h7 h7' h5 h5' h5'' n8.1 n9.1 n9.2 h9 k1) a2 b2 c2 h6 h6' h6'' (Φ.loc h3) (Φ.loc h4) (Φ.loc h4') rfl).weak fun De ρ ⟨f, ev, hp⟩ => ?_
      simp only [evS, bnd_ok] at ev
      obtain ⟨ρ1, ts, e1, e2⟩ := ev
      refine ⟨ρ1, ts, e1, ?_⟩
      split at e2
      · cases e2
        exact hp
      · cases e2
    · cases h
  | .unp is l, s, h => by
    unfold okS at h
    split at h
    · simp only [Bool.and_eq_true] at h
      obtain ⟨⟨⟨h1, h2⟩, h3⟩, h4⟩ := h
      obtain ⟨k1, k2, k3⟩ := sLs Φ h1
      refine (ds_unp k2 Φ.calm k1 (sQs O G l X Γ Φ _ h4) (by rw [asg_len h2, k3]) (asg_find h2) rfl ?_ rfl).weak fun De ρ ⟨f, ev, hp⟩ => ?_
      · rw [Bool.or_eq_true] at h3
        rcases h3 with z | z
        · exact swp_cell Φ.sc z
        · exact swp_const z
      · simp only [evS, bnd_ok] at ev
        obtain ⟨ρ1, ts, e1, e2⟩ := ev
        refine ⟨ρ1, ts, e1, ?_⟩
        split at e2
        · rename_i hl
          simp only [bind_ok, of_ok] at e2
          obtain ⟨ρ2, e3, e4⟩ := e2
          cases e4
          rw [e3]
          exact ⟨hl, hp⟩
        · cases e2
    · cases h
theorem sSs (O : Or) (G : G0) (X : Cx) (Γ : Gm) (Φ : Fit O G X Γ) (own : PassesOwn (model X.prog X.w) X.A X.env X.xe) : ∀ (c : Sts) (s : List Stmt), okSs Γ c s = true → DSs G X s (wSr (evSs O c))
  | .nil, s, h => by
    unfold okSs at h
    split at h
    · exact dss_nil.weak fun De ρ ⟨f, ev, hp⟩ => by cases ev; exact hp
    · cases h
  | .cons a r, s, h => by
    unfold okSs at h
    split at h
    · rw [Bool.and_eq_true] at h
      refine (dss_cons (sS O G X Γ Φ own a _ h.1) (sSs O G X Γ Φ own r _ h.2)).weak fun De ρ ⟨f, ev, hp⟩ => ?_
      simp only [evSs, bind_ok] at ev
      obtain ⟨f1, e1, e2⟩ := ev
      refine ⟨f1, e1, ?_⟩
      cases f1 with
      | nx ρ1 => exact ⟨f, e2, hp⟩
      | rt ρ1 t => cases e2; exact hp
      | bk ρ1 => cases e2; exact hp
      | ct ρ1 => cases e2; exact hp
    · cases h
end
end J

set_option Elab.async false
set_option linter.all false
set_option maxRecDepth 100000
set_option maxHeartbeats 4000000
namespace J
open PySem PySem.Spec PyProof.Rows L2

/-! ### all defs of a law at once -/
structure Ent where
  x : Str
  qual : Str
  st : Stmt
  f : Addr
  fd : FuncData
  N : List Str
  ps : List Str
  dvs : List V
  id : Nat
  fn : Fn
/-- what is known of the top of the law -/
structure Top where
  cons : List (Str × D)
  blts : List Str
  fns : List (Str × Nat × List D)
  mks : List (Str × Nat × Nat × List D)
  kfs : List (Str × Nat × Nat × List Str × List Pm × List D)
  kms : List (Str × Nat × Nat × Nat × List Str × List Pm × List D)
  cls : List (Str × Nat)
def Top.gm (Z : Top) (N : List Str) (sc : Scope) (pr : List Nat) : Gm := ⟨N, sc, sc, pr, Z.cons, Z.blts, Z.fns, Z.mks, Z.kfs, Z.kms, Z.cls⟩
structure EntOk (K : PySem.W.Frag) (Z : Top) (tb : Nat → Option Fn) (e : Ent) : Prop where
  fd : FunD K e.x e.qual (defArgs e.st) (defBody e.st) (defScope e.st) e.dvs [] e.f e.fd
  sc : FnScope e.N e.ps (defScope e.st)
  n : e.ps.length = e.fn.n
  m : e.N.length = e.fn.m
  tb : tb e.id = some e.fn
  ok : okSs (Z.gm e.N (defScope e.st) e.fn.pr) e.fn.body (defBody e.st) = true
/-- a name of the top calls a def -/
structure FnT (K : PySem.W.Frag) (mg : Str → Option Value) (ca : Nat → Addr) (cf : Nat → List Str) (defs : List Ent) (c : Str × Nat × List D) : Prop where
  ex : ∃ e ∈ defs, e.id = c.2.1 ∧ mg c.1 = some (.ref e.f) ∧ PySem.W.keepIn K (.ref e.f) = true ∧ ∃ (dvs : List V) (ds : List Value), Binds K e.fd e.ps ds ∧ Vals dvs ds ∧ ∀ F, AtL ⟨K, ca, cf⟩ F c.2.2 dvs
structure MkT (K : PySem.W.Frag) (mg : Str → Option Value) (ca : Nat → Addr) (cf : Nat → List Str) (defs : List Ent) (c : Str × Nat × Nat × List D) : Prop where
  ex : ∃ e ∈ defs, e.id = c.2.2.1 ∧ mg c.1 = some (.ref (ca c.2.1)) ∧ Mk K (ca c.2.1) e.f ∧ ∃ (dvs : List V) (ds : List Value), Binds K e.fd e.ps ds ∧ Vals dvs ds ∧ ∀ F, AtL ⟨K, ca, cf⟩ F c.2.2.2 dvs
structure KfT (K : PySem.W.Frag) (mg : Str → Option Value) (ca : Nat → Addr) (cf : Nat → List Str) (defs : List Ent) (c : Str × Nat × Nat × List Str × List Pm × List D) : Prop where
  ex : ∃ e ∈ defs, e.id = c.2.1 ∧ mg c.1 = some (.ref e.f) ∧ PySem.W.keepIn K (.ref e.f) = true ∧ ∃ (dvs : List V) (g : List Value → List Value → List Value), KBn K e.fd e.ps c.2.2.1 c.2.2.2.1 g (fun vs zs => arr c.2.2.2.2.1 dvs (vs ++ zs)) ∧ ∀ F, AtL ⟨K, ca, cf⟩ F c.2.2.2.2.2 dvs
structure KmT (K : PySem.W.Frag) (mg : Str → Option Value) (ca : Nat → Addr) (cf : Nat → List Str) (defs : List Ent) (c : Str × Nat × Nat × Nat × List Str × List Pm × List D) : Prop where
  ex : ∃ e ∈ defs, e.id = c.2.2.1 ∧ mg c.1 = some (.ref (ca c.2.1)) ∧ Mk K (ca c.2.1) e.f ∧ ∃ (dvs : List V) (g : List Value → List Value → List Value) (gV : List V → List V → List V), KBn K e.fd e.ps (c.2.2.2.1 + 1) c.2.2.2.2.1 g gV ∧
    (∀ v vs zs, gV (v :: vs) zs = v :: arr c.2.2.2.2.2.1 dvs (vs ++ zs)) ∧ ∀ F, AtL ⟨K, ca, cf⟩ F c.2.2.2.2.2.2 dvs
structure World0 (K : PySem.W.Frag) (mg : Str → Option Value) (ca : Nat → Addr) (cf : Nat → List Str) (Z : Top) (tb : Nat → Option Fn) (fx : Str → Nat → Option Nat) (kt : Kt → Kt → Option Bool) (defs : List Ent) : Prop where
  ents : ∀ e ∈ defs, EntOk K Z tb e
  cons : ∀ x d, Z.cons.lookup x = some d → ∃ v u, mg x = some u ∧ RelV v u ∧ ∀ F, At ⟨K, ca, cf⟩ F d v
  blts : ∀ x ∈ Z.blts, mg x = none
  fns : ∀ c ∈ Z.fns, FnT K mg ca cf defs c
  mks : ∀ c ∈ Z.mks, MkT K mg ca cf defs c
  fld : ∀ f c j, fx f c = some j → Cls K (ca c) ∧ NoAttr K (ca c) f ∧ firstAt (cf c) f j = true
  kfs : ∀ c ∈ Z.kfs, KfT K mg ca cf defs c
  kms : ∀ c ∈ Z.kms, KmT K mg ca cf defs c
  cls : ∀ c ∈ Z.cls, mg c.1 = some (.ref (ca c.2))
  kit : ∀ a b k, kt a b = some k → PySem.W.kitOne K (ktV ca a) (ktV ca b) = some k
  kin : ∀ c b k, kt (.c c) b = some k → InsC K (ca c)
theorem room65 {k : Nat} {A : Around} (hr : Room k A) : A.units + 65 < cLine := by
  have := hr.un
  omega
theorem callJ_len {tb : Nat → Option Fn} {fx : Str → Nat → Option Nat} {fu : Nat} {kt : Kt → Kt → Option Bool} {k f : Nat} {ts : List T} {r : T × List (Option T)} {fn : Fn} (h : callJ tb fx fu kt k f ts = .ok r) (e : tb f = some fn) : ts.length = fn.n := by
  cases k with
  | zero => cases h
  | succ k =>
    unfold callJ at h
    rw [e] at h
    dsimp only at h
    unfold runF at h
    split at h
    · assumption
    · cases h
section
variable {P : Program} {w : World} {K : PySem.W.Frag} {mg : Str → Option Value} {base : Heap} {ca : Nat → Addr} {cf : Nat → List Str} {Z : Top} {tb : Nat → Option Fn} {fx : Str → Nat → Option Nat} {fu : Nat} {kt : Kt → Kt → Option Bool} {defs : List Ent}
/-- the promise of a def at a level -/
def wfJ (tb : Nat → Option Fn) (fx : Str → Nat → Option Nat) (fu : Nat) (kt : Kt → Kt → Option Bool) (k id : Nat) : WF := fun ts post => ∃ t us, callJ tb fx fu kt k id ts = .ok (t, us) ∧ post t us
theorem all_ok (W : World0 K mg ca cf Z tb fx kt defs) : ∀ (k : Nat) (e : Ent), e ∈ defs → FnOk P w K mg base CX0 (2 * k) e.f e.fd e.ps (spOf ⟨K, ca, cf⟩ e.fn.n (wfJ tb fx fu kt k e.id))
  | 0, e, m => by
    refine ⟨fun vs H Q E h => ?_, fun A outer s H args us vs Q E _ _ _ _ h => ?_⟩
    · obtain ⟨F, ts, fps, post, I, hl, ⟨t, us, hw, _⟩, q⟩ := h
      cases hw
    · obtain ⟨F, ts, fps, post, I, hl, ⟨t, us, hw, _⟩, q⟩ := h
      cases hw
  | k + 1, e, m => by
    have E := W.ents e m
    refine dfn (k := 2 * k + 1) (pr := e.fn.pr) E.fd E.sc E.n fun cdv A outer s H Ex hr => ⟨wSr (evSs ⟨callJ tb fx fu kt k, fx, fu, kt⟩ e.fn.body), ?_, ?_⟩
    · refine sSs ⟨callJ tb fx fu kt k, fx, fu, kt⟩ ⟨ca, cf, e.fn.pr⟩ _ (Z.gm e.N (defScope e.st) e.fn.pr) ?_ PassesOwn.never _ _ E.ok
      refine ⟨rfl, E.sc.nd, rfl, E.sc.kind, fun x _ => rfl, rfl, rfl, room65 hr, W.cons, W.blts, fun c hc => ?_, fun c hc => ?_, W.fld, fun c hc => ?_, fun c hc => ?_, W.cls, W.kit, W.kin⟩
      · obtain ⟨e', m', hid, hm, hk, dvs, ds, hb, hd, hdd⟩ := (W.fns c hc).ex
        refine ⟨2 * k, e'.fn.n, e'.f, e'.fd, e'.ps, dvs, ds, ?_, fun ts r h => ?_, hr.mono (by omega), hm, hk, hb, hd, hdd⟩
        · rw [← hid]
          exact all_ok W k e' m'
        · rw [← hid] at h
          exact callJ_len h (W.ents e' m').tb
      · obtain ⟨e', m', hid, hm, hM, dvs, ds, hb, hd, hdd⟩ := (W.mks c hc).ex
        refine ⟨2 * k, e'.fn.n, e'.f, e'.fd, e'.ps, dvs, ds, ?_, fun ts r h => ?_, hr, hM, hm, hb, hd, hdd⟩
        · rw [← hid]
          exact all_ok W k e' m'
        · rw [← hid] at h
          exact callJ_len h (W.ents e' m').tb
      · obtain ⟨e', m', hid, hm, hk, dvs, g, hb, hdd⟩ := (W.kfs c hc).ex
        refine ⟨2 * k, e'.fn.n, e'.f, e'.fd, e'.ps, dvs, g, ?_, fun ts r h => ?_, hr.mono (by omega), hm, hk, hb, hdd⟩
        · rw [← hid]
          exact all_ok W k e' m'
        · rw [← hid] at h
          exact callJ_len h (W.ents e' m').tb
      · obtain ⟨e', m', hid, hm, hM, dvs, g, gV, hb, hgV, hdd⟩ := (W.kms c hc).ex
        refine ⟨2 * k, e'.fn.n, e'.f, e'.fd, e'.ps, dvs, g, gV, ?_, fun ts r h => ?_, hr, hM, hm, hb, hgV, hdd⟩
        · rw [← hid]
          exact all_ok W k e' m'
        · rw [← hid] at h
          exact callJ_len h (W.ents e' m').tb
    · rintro ts post hl ⟨t, us, hw, hp⟩
      unfold callJ at hw
      rw [E.tb] at hw
      dsimp only at hw
      unfold runF at hw
      rw [if_pos hl, ← E.m] at hw
      obtain ⟨f, e1, e2⟩ := bind_ok.mp hw
      refine ⟨f, e1, ?_⟩
      cases f with
      | nx ρ =>
        obtain ⟨h1, h2⟩ := if_ok.mp e2
        cases h2
        exact ⟨h1, hp⟩
      | rt ρ t =>
        obtain ⟨h1, h2⟩ := if_ok.mp e2
        cases h2
        exact ⟨h1, hp⟩
      | bk ρ => cases e2
      | ct ρ => cases e2
end
end J

set_option Elab.async false
set_option linter.all false
set_option maxRecDepth 100000
set_option maxHeartbeats 4000000
namespace J
open PySem PySem.Spec PyProof.Rows L2

/-! ### tables of a law -/
def ixS (f : Str) : List Str → Nat → Option Nat
  | [], _ => none
  | g :: r, j => match decide (f = g) with
    | true => some j
    | false => ixS f r (j + 1)
def fxOf (tab : Nat → List Str) (f : Str) (c : Nat) : Option Nat := ixS f (tab c) 0
theorem ixS_first {f : Str} : ∀ {l : List Str} {k j : Nat}, ixS f l k = some j → ∃ i, j = k + i ∧ firstAt l f i = true ∧ f ∈ l
  | [], _, _, h => by cases h
  | g :: r, k, j, h => by
    unfold ixS at h
    split at h
    · rename_i e
      cases h
      have e' : f = g := of_decide_eq_true e
      subst e'
      exact ⟨0, rfl, by simp [firstAt], List.mem_cons_self⟩
    · rename_i e
      obtain ⟨i, h1, h2, h3⟩ := ixS_first h
      have e' : f ≠ g := of_decide_eq_false e
      refine ⟨i + 1, by omega, ?_, List.mem_cons_of_mem _ h3⟩
      unfold firstAt at h2 ⊢
      simp only [Bool.and_eq_true, decide_eq_true_eq] at h2 ⊢
      refine ⟨by simpa using h2.1, ?_⟩
      rw [List.take_succ_cons, List.all_cons, h2.2, Bool.and_true]
      exact decide_eq_true (fun z => e' z.symm)
theorem fld_of {K : PySem.W.Frag} {ca : Nat → Addr} {tab : Nat → List Str} (h : ∀ c f, f ∈ tab c → Cls K (ca c) ∧ NoAttr K (ca c) f) : ∀ f c j, fxOf tab f c = some j → Cls K (ca c) ∧ NoAttr K (ca c) f ∧ firstAt (tab c) f j = true := fun f c j e => by
  obtain ⟨i, rfl, h2, h3⟩ := ixS_first e
  rw [Nat.zero_add]
  exact ⟨(h c f h3).1, (h c f h3).2, h2⟩
def ktLook (a b : Kt) : List (Kt × Kt × Bool) → Option Bool
  | [] => none
  | (x, y, k) :: r => match decide (a = x) && decide (b = y) with
    | true => some k
    | false => ktLook a b r
theorem ktLook_mem {a b : Kt} {k : Bool} : ∀ {l : List (Kt × Kt × Bool)}, ktLook a b l = some k → (a, b, k) ∈ l
  | [], h => by cases h
  | (x, y, z) :: r, h => by
    unfold ktLook at h
    split at h
    · rename_i e
      simp only [Bool.and_eq_true, decide_eq_true_eq] at e
      obtain ⟨rfl, rfl⟩ := e
      cases h
      exact List.mem_cons_self
    · exact List.mem_cons_of_mem _ (ktLook_mem h)
/-- what isinstance answers: cl: the classes of which objects are asked -/
def ktOf (cl : List Nat) (ex : List (Kt × Kt × Bool)) (a b : Kt) : Option Bool := match a with
  | .b x => (match b with
    | .b y => (match decide (y = .non) with
      | true => none
      | false => some (ty8B x y))
    | .c _ => ktLook a b ex)
  | .c c => (match memN c cl with
    | true => (match decide (a = b) with
      | true => some true
      | false => ktLook a b ex)
    | false => none)
theorem kit_self {K : PySem.W.Frag} {v : Value} : PySem.W.kitOne K v v = some true := by
  unfold PySem.W.kitOne
  rw [if_pos (by simp)]
theorem kit_of_tab {K : PySem.W.Frag} {ca : Nat → Addr} {cl : List Nat} {ex : List (Kt × Kt × Bool)} (h : ∀ e ∈ ex, PySem.W.kitOne K (ktV ca e.1) (ktV ca e.2.1) = some e.2.2) : ∀ a b k, ktOf cl ex a b = some k → PySem.W.kitOne K (ktV ca a) (ktV ca b) = some k := fun a b k e => by
  unfold ktOf at e
  split at e
  · split at e
    · split at e
      · cases e
      · rename_i hy
        cases e
        exact kit8 _ _ (of_decide_eq_false hy)
    · exact h _ (ktLook_mem e)
  · split at e
    · split at e
      · rename_i hab
        cases e
        rw [← of_decide_eq_true hab]
        exact kit_self
      · exact h _ (ktLook_mem e)
    · cases e
theorem kin_of_tab {K : PySem.W.Frag} {ca : Nat → Addr} {cl : List Nat} {ex : List (Kt × Kt × Bool)} (h : ∀ c ∈ cl, InsC K (ca c)) : ∀ c b k, ktOf cl ex (.c c) b = some k → InsC K (ca c) := fun c b k e => by
  unfold ktOf at e
  dsimp only at e
  split at e
  · rename_i hm
    exact h c (memN_iff.mp hm)
  · cases e
theorem cons_int {K : PySem.W.Frag} {ca : Nat → Addr} {cf : Nat → List Str} {mg : Str → Option Value} {x : Str} {i : Int} {t : Tok} (h : mg x = some (.int i t)) : ∃ v u, mg x = some u ∧ RelV v u ∧ ∀ F, At ⟨K, ca, cf⟩ F (.int i) v := ⟨.int i, _, h, ⟨t, rfl⟩, fun _ => .int i⟩
theorem cons_str {K : PySem.W.Frag} {ca : Nat → Addr} {cf : Nat → List Str} {mg : Str → Option Value} {x y : Str} {t : Tok} (h : mg x = some (.str y t)) : ∃ v u, mg x = some u ∧ RelV v u ∧ ∀ F, At ⟨K, ca, cf⟩ F (.str y) v := ⟨.str y, _, h, ⟨t, rfl⟩, fun _ => .str y⟩
/-- a tuple of the top -/
theorem cons_tup {K : PySem.W.Frag} {ca : Nat → Addr} {cf : Nat → List Str} {mg : Str → Option Value} {x : Str} {a : Addr} {dd : Option Addr} {its : Array Value} {n : Nat} {sl : Array (Option Value)} {vs : List V} {ds : List D} (h : mg x = some (.ref a)) (l : K.lookup a = some ⟨.type "tuple", dd, .seq its n, sl⟩) (hz : its.size ≤ sizeLine) (r : Vals vs its.toList) (ad : ∀ F, AtL ⟨K, ca, cf⟩ F ds vs) :
    ∃ v u, mg x = some u ∧ RelV v u ∧ ∀ F, At ⟨K, ca, cf⟩ F (.tup ds) v := ⟨.ref a, _, h, rfl, fun F => .tup (.inr ⟨_, its, n, l, rfl, rfl, hz, r⟩) (ad F)⟩
/-! ### the law -/
def spLawN (K : PySem.W.Frag) (n : Nat) : Sp := fun vs H Q _ => ∃ (a : Addr) (ns : List Int), vs = [.ref a] ∧ SqL K H a (ns.map V.int) ∧ ns.length ≤ n ∧ ∀ H', Q (.bl true) H'
theorem law_ok {P : Program} {w : World} {K : PySem.W.Frag} {mg : Str → Option Value} {base : Heap} {ca : Nat → Addr} {cf : Nat → List Str} {Z : Top} {tb : Nat → Option Fn} {fx : Str → Nat → Option Nat} {fu : Nat} {kt : Kt → Kt → Option Bool} {defs : List Ent} (W : World0 K mg ca cf Z tb fx kt defs) {e : Ent} (m : e ∈ defs) (hn : e.fn.n = 1) (k n : Nat)
    (hl : ∀ ns : List Int, ns.length ≤ n → ∃ us, callJ tb fx fu kt k e.id [.v (.scr ns)] = .ok (.v (.bl true), us)) : FnOk P w K mg base CX0 (2 * k) e.f e.fd e.ps (spLawN K n) :=
  (all_ok (P := P) (w := w) (base := base) (fu := fu) W k e m).imp fun vs H Q E ⟨a, ns, hv, hS, hz, q⟩ => by
    subst hv
    obtain ⟨us, hu⟩ := hl ns hz
    have st : AtL ⟨K, ca, cf⟩ H [.scr ns] [.ref a] := .cons (.scr hS) .nil
    refine ⟨H, [.v (.scr ns)], _, fun t _ => t = .v (.bl true), vals_st (Same.refl _) st, by rw [hn]; rfl, ⟨_, us, hu, rfl⟩, fun v H' F' t us fps' fp s' I' a nd hf hp => ?_⟩
    subst hp
    cases a with
    | v a =>
      cases a
      exact q H'
/-! ### lists of facts -/
def tabOf (l : List (Nat × List Str)) (c : Nat) : List Str := (l.lookup c).getD []
def caOf (l : List (Nat × Addr)) (c : Nat) : Addr := (l.lookup c).getD 0
theorem lookup_mem {α : Type} {c : Nat} {x : α} : ∀ {l : List (Nat × α)}, l.lookup c = some x → (c, x) ∈ l
  | [], h => by cases h
  | (a, y) :: r, h => by
    rw [List.lookup_cons] at h
    split at h
    · rename_i e
      cases h
      rw [show c = a by simpa using e]
      exact List.mem_cons_self
    · exact List.mem_cons_of_mem _ (lookup_mem h)
theorem tab_of {Pr : Nat → Str → Prop} {l : List (Nat × List Str)} (h : ∀ e ∈ l, ∀ f ∈ e.2, Pr e.1 f) : ∀ c f, f ∈ tabOf l c → Pr c f := fun c f m => by
  unfold tabOf at m
  cases e : l.lookup c with
  | none => rw [e] at m; simp at m
  | some x =>
    rw [e] at m
    exact h _ (lookup_mem e) f m
theorem all0 {α : Type} {Pr : α → Prop} : ∀ e ∈ ([] : List α), Pr e := fun e m => by simp at m
theorem all1 {α : Type} {Pr : α → Prop} {a : α} {l : List α} (h : Pr a) (r : ∀ e ∈ l, Pr e) : ∀ e ∈ a :: l, Pr e := fun e m => by
  rcases List.mem_cons.mp m with rfl | m
  · exact h
  · exact r e m
theorem cons0 {Pr : Str → D → Prop} : ∀ x d, (([] : List (Str × D)).lookup x) = some d → Pr x d := fun x d h => by cases h
theorem cons1 {Pr : Str → D → Prop} {a : Str} {b : D} {l : List (Str × D)} (h : Pr a b) (r : ∀ x d, l.lookup x = some d → Pr x d) : ∀ x d, ((a, b) :: l).lookup x = some d → Pr x d := fun x d e => by
  rw [List.lookup_cons] at e
  split at e
  · rename_i k
    cases e
    rw [show x = a by simpa using k]
    exact h
  · exact r x d e
class Has (tb : Nat → Option Fn) (i : Nat) (f : outParam Fn) : Prop where
  h : tb i = some f
def tbOf (l : List (Nat × Fn)) (i : Nat) : Option Fn := l.lookup i
end J

set_option Elab.async false
set_option linter.all false
set_option maxRecDepth 100000
set_option maxHeartbeats 4000000
namespace J
open PySem PySem.Spec PyProof.Rows L2
/-- _law_left of lawlib -/
def f2__law_left : Fn := ⟨4, 6, [], (.cons (.ret (.fz (.lc (.sq (.ix (.fz (.call false 3 (.cons (.var 0) (.cons (.fz (.make false 0 20 (.cons (.fz (.dsp (.cons (.v (.tup (.cons (.var 1) (.cons (.var 2) .nil)))) .nil))) .nil) [])) (.cons (.fz (.dsp (.cons (.v (.fz (.lc (.sq (.var 3)) (.nm 5) .nil (.v (.tup (.cons (.var 5) .nil))) [("number", 5)]))) .nil))) .nil))) [])) (.con (.int 0)))) (.nm 4) .nil (.v (.ix (.var 4) (.con (.int 0)))) [("row", 4)]))) .nil)⟩
/-- shelf_by of keepsenough.policies -/
def f3_shelf_by : Fn := ⟨3, 3, [], (.cons (.exp (.fz (.call false 19 (.cons (.var 0) .nil) []))) (.cons (.exp (.fz (.call false 18 (.cons (.var 0) (.cons (.var 1) .nil)) []))) (.cons (.ret (.fz (.call false 4 (.cons (.var 0) (.cons (.var 1) (.cons (.fz (.call false 10 (.cons (.var 0) (.cons (.var 2) .nil)) [(.str "shelf")])) .nil))) []))) .nil)))⟩
/-- kept_by of keepsenough.policies -/
def f4_kept_by : Fn := ⟨3, 7, [], (.cons (.setq 3 (.dsp .nil)) (.cons (.for (.zip3 (.cons (.fld (.var 0) "layers") (.cons (.fld (.var 1) "layers") (.cons (.var 2) .nil)))) (.tup (.cons (.nm 4) (.cons (.nm 5) (.cons (.nm 6) .nil)))) (.cons (.app 3 (.v (.ife (.cmp .gt (.cb .len (.cons (.fld (.var 4) "heads") .nil)) (.con (.int 0))) (.fz (.call false 5 (.cons (.var 4) (.cons (.var 5) (.cons (.var 6) .nil))) [])) (.tup .nil)))) .nil)) (.cons (.ret (.cb .tuple (.cons (.var 3) .nil))) .nil)))⟩
/-- dropped of keepsenough.policies -/
def f5_dropped : Fn := ⟨3, 9, [], (.cons (.asg (.tup (.cons (.nm 3) (.cons (.nm 4) .nil))) (.var 1)) (.cons (.setq 5 (.list (.cons (.var 2) .nil))) (.cons (.wh (.cmp .gt (.cbv .len (.p (.var 5))) (.var 3)) (.cons (.setc 6 (.lc (.sq (.fz (.lc (.sq (.var 4)) (.nm 8) .nil (.v (.fz (.call true 6 (.cons (.var 0) (.cons (.var 8) (.vw 5 .nil))) []))) [("rule", 8)]))) (.nm 7) (.one (.cmp .notN (.var 7) (.con (.non)))) (.v (.var 7)) [("spot", 7)])) (.cons (.exp (.popAt 5 (.ife (.cmp .ne (.var 6) (.fz (.dsp .nil))) (.ix (.var 6) (.con (.int 0))) (.con (.int 0))))) .nil))) (.cons (.ret (.cb .tuple (.cons (.var 5) .nil))) .nil))))⟩
/-- spot_by of keepsenough.policies -/
def f6_spot_by : Fn := ⟨3, 6, [], (.cons (.asg (.tup (.cons (.nm 3) (.cons (.nm 4) .nil))) (.var 1)) (.cons (.ite (.cmp .eq (.var 3) (.con (.str "first"))) (.cons (.ret (.ife (.cmp .gt (.cb .len (.cons (.var 2) .nil)) (.var 4)) (.var 4) (.con (.non)))) .nil) .nil) (.cons (.ite (.cmp .eq (.var 3) (.con (.str "last"))) (.cons (.ret (.ife (.cmp .gt (.cb .len (.cons (.var 2) .nil)) (.var 4)) (.op .sub (.op .sub (.cb .len (.cons (.var 2) .nil)) (.con (.int 1))) (.var 4)) (.con (.non)))) .nil) .nil) (.cons (.ite (.cmp .eq (.var 3) (.con (.str "same"))) (.cons (.set 5 (.fz (.call false 9 (.cons (.var 2) .nil) []))) (.cons (.ret (.ife (.cmp .eq (.var 5) (.fz (.dsp .nil))) (.con (.non)) (.ife (.cmp .eq (.var 4) (.con (.str "old"))) (.ix (.var 5) (.con (.int 0))) (.ix (.var 5) (.neg (.con (.int 1))))))) .nil)) .nil) (.cons (.ite (.cmp .eq (.var 3) (.con (.str "row"))) (.cons (.ret (.ife (.cmp .inD (.var 4) (.var 2)) (.idx (.var 2) (.var 4)) (.con (.non)))) .nil) .nil) (.cons (.ret (.fz (.call false 7 (.cons (.ix (.fld (.var 0) "heads") (.var 4)) (.cons (.var 2) (.cons (.cmp .eq (.var 3) (.con (.str "least"))) .nil))) []))) .nil))))))⟩
/-- scored_spot of keepsenough.policies -/
def f7_scored_spot : Fn := ⟨3, 5, [], (.cons (.setc 3 (.lc (.sq (.var 1)) (.nm 4) .nil (.v (.fz (.call false 8 (.cons (.var 0) (.cons (.ix (.var 1) (.neg (.con (.int 1)))) (.cons (.var 4) .nil))) []))) [("row", 4)])) (.cons (.ret (.idx (.var 3) (.ife (.val (.var 2)) (.cb .min (.cons (.var 3) .nil)) (.cb .max (.cons (.var 3) .nil))))) .nil))⟩
/-- score_of of keepsenough.heads -/
def f8_score_of : Fn := ⟨3, 7, [], (.cons (.ret (.cb .sum (.cons (.fz (.lc2 (.zip (.cons (.var 1) (.cons (.fld (.var 0) "scores") .nil))) (.tup (.cons (.nm 3) (.cons (.nm 4) .nil))) .nil (.zip (.cons (.var 4) (.cons (.var 2) .nil))) (.tup (.cons (.nm 5) (.cons (.nm 6) .nil))) .nil (.v (.op .mul (.op .mul (.var 3) (.var 5)) (.var 6))) [("mine", 3), ("line", 4), ("told", 5), ("its", 6)] [5, 6])) .nil))) .nil)⟩
/-- same_spots of keepsenough.policies -/
def f9_same_spots : Fn := ⟨1, 3, [], (.cons (.ret (.fz (.lc (.enum (.cons (.var 0) .nil)) (.tup (.cons (.nm 1) (.cons (.nm 2) .nil))) (.one (.cmp .gt (.cnt (.fz (.list (.cons (.var 0) .nil))) (.var 2)) (.con (.int 1)))) (.v (.var 1)) [("at", 1), ("row", 2)]))) .nil)⟩
/-- need_shelf of keepsenough.shelves -/
def f10_need_shelf : Fn := ⟨3, 3, [], (.cons (.ite (.not (.val (.fz (.call false 12 (.cons (.var 0) (.cons (.var 1) .nil)) [])))) (.cons .never .nil) .nil) (.cons (.ret (.fz (.call false 11 (.cons (.var 1) .nil) []))) .nil))⟩
/-- fixed of keepsenough.values -/
def f11_fixed : Fn := ⟨1, 2, [], (.cons (.ite (.val (.isi2 (.var 0) (.b .lst) (.b .tup))) (.cons (.ret (.cb .tuple (.cons (.fz (.lc (.sq (.var 0)) (.nm 1) .nil (.v (.fz (.call false 11 (.cons (.var 1) .nil) []))) [("one", 1)])) .nil))) .nil) .nil) (.cons (.ret (.var 0)) .nil))⟩
/-- is_shelf of keepsenough.shelves -/
def f12_is_shelf : Fn := ⟨2, 5, [], (.cons (.ite (.not (.val (.fz (.call false 16 (.cons (.var 1) (.cons (.cb .len (.cons (.fld (.var 0) "layers") .nil)) .nil)) [])))) (.cons (.ret (.con (.bl false))) .nil) .nil) (.cons (.ret (.cb .all (.cons (.fz (.lc (.zip3 (.cons (.fld (.var 0) "layers") (.cons (.fld (.var 0) "lengths") (.cons (.var 1) .nil)))) (.tup (.cons (.nm 2) (.cons (.nm 3) (.cons (.nm 4) .nil)))) .nil (.v (.fz (.call false 13 (.cons (.var 2) (.cons (.var 3) (.cons (.var 4) .nil))) []))) [("layer", 2), ("length", 3), ("one", 4)])) .nil))) .nil))⟩
/-- is_list of keepsenough.shelves -/
def f13_is_list : Fn := ⟨3, 4, [], (.cons (.ite (.bw (.or (.not (.val (.fz (.call false 17 (.cons (.var 2) .nil) [])))) (.or1 (.cmp .gt (.cb .len (.cons (.var 2) .nil)) (.ife (.cmp .gt (.cb .len (.cons (.fld (.var 0) "heads") .nil)) (.con (.int 0))) (.con (.int 60)) (.con (.int 0))))))) (.cons (.ret (.con (.bl false))) .nil) .nil) (.cons (.ret (.cb .all (.cons (.fz (.lc (.sq (.var 2)) (.nm 3) .nil (.v (.fz (.call false 14 (.cons (.var 3) (.cons (.var 1) (.cons (.con (.int 999)) .nil))) []))) [("row", 3)])) .nil))) .nil))⟩
/-- is_bounded of keepsenough.heads -/
def f14_is_bounded : Fn := ⟨3, 4, [], (.cons (.ret (.band (.fz (.call false 16 (.cons (.var 0) (.cons (.var 1) .nil)) [])) (.bone (.cb .all (.cons (.fz (.lc (.sq (.var 0)) (.nm 3) .nil (.v (.band (.fz (.call false 15 (.cons (.var 3) .nil) [])) (.bone (.chn .le .le (.op .sub (.con (.int 0)) (.var 2)) (.var 3) (.var 2))))) [("one", 3)])) .nil))))) .nil)⟩
/-- is_integer of keepsenough.values -/
def f15_is_integer : Fn := ⟨1, 1, [], (.cons (.ret (.band (.isi (.var 0) (.b .int)) (.bone (.bnot (.isi (.var 0) (.b .bl)))))) .nil)⟩
/-- is_row of keepsenough.values -/
def f16_is_row : Fn := ⟨2, 2, [], (.cons (.ret (.band (.fz (.call false 17 (.cons (.var 0) .nil) [])) (.bone (.cmp .eq (.cb .len (.cons (.var 0) .nil)) (.var 1))))) .nil)⟩
/-- is_listed of keepsenough.values -/
def f17_is_listed : Fn := ⟨1, 1, [], (.cons (.ret (.isi2 (.var 0) (.b .lst) (.b .tup))) .nil)⟩
/-- need_policy of keepsenough.policies -/
def f18_need_policy : Fn := ⟨2, 7, [], (.cons (.ite (.not (.val (.isi (.var 1) (.c 0)))) (.cons .never .nil) .nil) (.cons (.ite (.cmp .ne (.cb .len (.cons (.fld (.var 1) "layers") .nil)) (.cb .len (.cons (.fld (.var 0) "layers") .nil))) (.cons .never .nil) .nil) (.cons (.for (.zip (.cons (.fld (.var 1) "layers") (.cons (.fld (.var 0) "layers") .nil))) (.tup (.cons (.tup (.cons (.nm 2) (.cons (.nm 3) .nil))) (.cons (.nm 4) .nil))) (.cons (.for (.sq (.var 3)) (.tup (.cons (.nm 5) (.cons (.nm 6) .nil))) (.cons (.ite (.bw (.and (.cmp .inF (.var 5) (.tup (.cons (.con (.str "least")) (.cons (.con (.str "greatest")) .nil)))) (.and1 (.cmp .ge (.var 6) (.cb .len (.cons (.fld (.var 4) "heads") .nil)))))) (.cons .never .nil) .nil) .nil)) .nil)) .nil)))⟩
/-- need_net of keepsenough.nets -/
def f19_need_net : Fn := ⟨1, 1, [], (.cons (.ite (.not (.val (.isi (.var 0) (.c 1)))) (.cons .never .nil) .nil) .nil)⟩
/-- Policy.__init__ of keepsenough.policies -/
def f20_Policy___init__ : Fn := ⟨2, 3, [0], (.cons (.ite (.bw (.or (.not (.val (.fz (.call false 17 (.cons (.var 1) .nil) [])))) (.or (.cmp .gt (.cb .len (.cons (.var 1) .nil)) (.con (.int 3))) (.or1 (.not (.val (.cb .all (.cons (.fz (.lc (.sq (.var 1)) (.nm 2) .nil (.v (.fz (.call false 21 (.cons (.var 2) .nil) []))) [("one", 2)])) .nil)))))))) (.cons .never .nil) .nil) (.cons (.fld (.var 0) "layers" (.v (.fz (.call false 11 (.cons (.var 1) .nil) [])))) .nil))⟩
/-- is_layer_rule of keepsenough.policies -/
def f21_is_layer_rule : Fn := ⟨1, 2, [], (.cons (.ite (.bw (.or (.not (.val (.fz (.call false 16 (.cons (.var 0) (.cons (.con (.int 2)) .nil)) [])))) (.or (.not (.val (.fz (.call false 23 (.cons (.ix (.var 0) (.con (.int 0))) (.cons (.con (.int 0)) (.cons (.con (.int 6)) .nil))) [])))) (.or1 (.not (.val (.fz (.call false 17 (.cons (.ix (.var 0) (.con (.int 1))) .nil) [])))))))) (.cons (.ret (.con (.bl false))) .nil) .nil) (.cons (.ret (.band (.cmp .le (.cb .len (.cons (.ix (.var 0) (.con (.int 1))) .nil)) (.con (.int 8))) (.bone (.cb .all (.cons (.fz (.lc (.sq (.ix (.var 0) (.con (.int 1)))) (.nm 1) .nil (.v (.fz (.call false 22 (.cons (.var 1) .nil) []))) [("one", 1)])) .nil))))) .nil))⟩
/-- is_rule of keepsenough.policies -/
def f22_is_rule : Fn := ⟨1, 1, [], (.cons (.ite (.bw (.or (.not (.val (.fz (.call false 16 (.cons (.var 0) (.cons (.con (.int 2)) .nil)) [])))) (.or1 (.not (.val (.fz (.call false 25 (.cons (.ix (.var 0) (.con (.int 0))) (.cons (.con (.tup [(.str "first"), (.str "last"), (.str "same"), (.str "least"), (.str "greatest"), (.str "row")])) .nil)) []))))))) (.cons (.ret (.con (.bl false))) .nil) .nil) (.cons (.ite (.cmp .eq (.ix (.var 0) (.con (.int 0))) (.con (.str "same"))) (.cons (.ret (.fz (.call false 25 (.cons (.ix (.var 0) (.con (.int 1))) (.cons (.tup (.cons (.con (.str "old")) (.cons (.con (.str "new")) .nil))) .nil)) []))) .nil) .nil) (.cons (.ite (.cmp .eq (.ix (.var 0) (.con (.int 0))) (.con (.str "row"))) (.cons (.ret (.band (.fz (.call false 17 (.cons (.ix (.var 0) (.con (.int 1))) .nil) [])) (.band (.chn .le .le (.con (.int 1)) (.cb .len (.cons (.ix (.var 0) (.con (.int 1))) .nil)) (.con (.int 4))) (.bone (.fz (.call false 24 (.cons (.ix (.var 0) (.con (.int 1))) .nil) [])))))) .nil) .nil) (.cons (.ret (.fz (.call false 23 (.cons (.ix (.var 0) (.con (.int 1))) (.cons (.con (.int 0)) (.cons (.ife (.cmp .inF (.ix (.var 0) (.con (.int 0))) (.tup (.cons (.con (.str "least")) (.cons (.con (.str "greatest")) .nil)))) (.con (.int 1)) (.con (.int 6))) .nil))) []))) .nil))))⟩
/-- is_within of keepsenough.values -/
def f23_is_within : Fn := ⟨3, 3, [], (.cons (.ret (.band (.fz (.call false 15 (.cons (.var 0) .nil) [])) (.band (.bor (.cmp .isN (.var 1) (.con (.non))) (.bone (.cmp .ge (.var 0) (.var 1)))) (.bone (.bor (.cmp .isN (.var 2) (.con (.non))) (.bone (.cmp .le (.var 0) (.var 2)))))))) .nil)⟩
/-- are_numbers of keepsenough.policies -/
def f24_are_numbers : Fn := ⟨1, 2, [], (.cons (.ret (.cb .all (.cons (.fz (.lc (.sq (.var 0)) (.nm 1) .nil (.v (.band (.fz (.call false 15 (.cons (.var 1) .nil) [])) (.bone (.chn .le .le (.op .sub (.con (.int 0)) (.con (.int 999))) (.var 1) (.con (.int 999)))))) [("one", 1)])) .nil))) .nil)⟩
/-- is_one_of of keepsenough.values -/
def f25_is_one_of : Fn := ⟨2, 2, [], (.cons (.ret (.band (.isi (.var 0) (.b .str)) (.bone (.cmp .inD (.var 0) (.var 1))))) .nil)⟩
/-- _law_by_scores of lawlib -/
def f26__law_by_scores : Fn := ⟨3, 4, [], (.cons (.setq 3 (.list (.cons (.var 0) .nil))) (.cons (.wh (.cmp .gt (.cbv .len (.p (.var 3))) (.var 1)) (.cons (.exp (.remI 3 (.ife (.val (.var 2)) (.cbv .min (.p (.var 3))) (.cbv .max (.p (.var 3)))))) .nil)) (.cons (.ret (.var 3)) .nil)))⟩
/-- _law_fall_late of lawlib -/
def f27__law_fall_late : Fn := ⟨3, 4, [], (.cons (.setq 3 (.list (.cons (.var 0) .nil))) (.cons (.wh (.cmp .gt (.cbv .len (.p (.var 3))) (.var 1)) (.cons (.exp (.popAt 3 (.ife (.cmp .gt (.cbv .len (.p (.var 3))) (.var 2)) (.op .sub (.op .sub (.cbv .len (.p (.var 3))) (.con (.int 1))) (.var 2)) (.con (.int 0))))) .nil)) (.cons (.ret (.var 3)) .nil)))⟩
/-- _law_fall of lawlib -/
def f28__law_fall : Fn := ⟨3, 4, [], (.cons (.setq 3 (.list (.cons (.var 0) .nil))) (.cons (.wh (.cmp .gt (.cbv .len (.p (.var 3))) (.var 1)) (.cons (.exp (.popAt 3 (.ife (.cmp .gt (.cbv .len (.p (.var 3))) (.var 2)) (.var 2) (.con (.int 0))))) .nil)) (.cons (.ret (.var 3)) .nil)))⟩
/-- _law_draw of lawlib -/
def f29__law_draw : Fn := ⟨2, 7, [0], (.cons (.ite (.cmpl .gt (.p (.ix (.var 0) (.int 2))) (.int 0)) (.cons (.asg (.tup (.cons (.set (.var 0) (.int 2)) (.cons (.nm 2) .nil))) (.cb .divmod (.cons (.pth (.ix (.var 0) (.int 2))) (.cons (.cb .int (.cons (.var 1) .nil)) .nil)))) (.cons (.ret (.var 2)) .nil)) .nil) (.cons (.par 3 4 (.cons (.v (.pth (.ix (.var 0) (.int 1)))) (.cons (.v (.pth (.ix (.var 0) (.int 0)))) .nil))) (.cons (.set 5 (.ife (.cmp .gt (.cb .len (.cons (.var 4) .nil)) (.con (.int 0))) (.ix (.var 4) (.op .mod (.cb .int (.cons (.var 3) .nil)) (.cb .len (.cons (.var 4) .nil)))) (.op .add (.op .mul (.con (.int 60016)) (.var 3)) (.con (.int 140016))))) (.cons (.asg (.set (.var 0) (.int 1)) (.op .add (.var 3) (.con (.int 1)))) (.cons (.ite (.bw (.and (.cmp .lt (.var 3) (.cb .len (.cons (.var 4) .nil))) (.and1 (.cmp .ge (.cb .abs (.cons (.var 5) .nil)) (.op .pow (.con (.int 10)) (.con (.int 18))))))) (.cons (.asg (.tup (.cons (.set (.var 0) (.int 2)) (.cons (.nm 2) .nil))) (.cb .divmod (.cons (.op .sub (.cb .abs (.cons (.var 5) .nil)) (.op .pow (.con (.int 10)) (.con (.int 18)))) (.cons (.cb .int (.cons (.var 1) .nil)) .nil)))) (.cons (.ret (.var 2)) .nil)) .nil) (.cons (.set 6 (.op .mod (.cb .int (.cons (.op .pow (.op .add (.op .add (.op .mod (.cb .int (.cons (.var 5) .nil)) (.con (.int 1000000007))) (.op .mul (.con (.int 60016)) (.var 3))) (.con (.int 140016))) (.con (.int 3))) .nil)) (.con (.int 2147483647)))) (.cons (.ret (.op .mod (.cb .int (.cons (.op .mod (.cb .int (.cons (.op .pow (.op .add (.op .add (.var 6) (.op .mul (.con (.int 18003)) (.var 3))) (.con (.int 50030))) (.con (.int 3))) .nil)) (.con (.int 2147483647))) .nil)) (.cb .int (.cons (.var 1) .nil)))) .nil)))))))⟩
/-- _law_mixed of lawlib -/
def f30__law_mixed : Fn := ⟨2, 4, [0], (.cons (.par 2 3 (.cons (.list (.cons (.var 1) .nil)) (.cons (.dsp .nil) .nil))) (.cons (.wh (.cmpl .ne (.p (.var 2)) .nil) (.cons (.app 3 (.v (.popAt 2 (.fz (.callM 0 29 (.cons (.cbv .len (.p (.var 2))) .nil) []))))) .nil)) (.cons (.ret (.var 3)) .nil)))⟩
/-- _law_net_of of lawlib -/
def f31__law_net_of : Fn := ⟨2, 3, [], (.cons (.set 2 (.fz (.dsp (.cons (.v (.fz (.make false 3 39 (.cons (.tup (.cons (.tup (.cons (.var 0) .nil)) .nil)) (.cons (.tup (.cons (.con (.int 0)) .nil)) .nil)) [(.bl true), (.bl false)]))) (.cons (.v (.fz (.makeK 3 39 (.cons (.tup (.cons (.tup (.cons (.var 1) .nil)) .nil)) (.cons (.tup (.cons (.con (.int 0)) .nil)) .nil)) (.cons (.con (.bl false)) (.cons (.con (.bl true)) .nil)) [.a 0, .a 1, .a 2, .a 3] [(.bl true), (.bl false)]))) .nil))))) (.cons (.ret (.fz (.make false 1 32 (.cons (.tup (.cons (.tup (.cons (.con (.int 0)) .nil)) (.cons (.tup (.cons (.con (.int 1)) .nil)) (.cons (.tup (.cons (.con (.int 2)) .nil)) .nil)))) (.cons (.fz (.dsp (.cons (.v (.fz (.make false 2 36 (.cons (.var 2) (.cons (.tup (.cons (.tup (.cons (.con (.int 1)) (.cons (.con (.int 1)) (.cons (.con (.int 1)) .nil)))) .nil)) (.cons (.tup (.cons (.con (.int 0)) .nil)) (.cons (.con (.int 9)) .nil)))) []))) .nil))) (.cons (.tup (.cons (.tup (.cons (.con (.int 1)) .nil)) (.cons (.tup (.cons (.con (.int 2)) .nil)) .nil))) .nil))) []))) .nil))⟩
/-- Net.__init__ of keepsenough.nets -/
def f32_Net___init__ : Fn := ⟨4, 7, [0], (.cons (.ite (.not (.val (.fz (.call false 35 (.cons (.var 1) .nil) [])))) (.cons .never .nil) .nil) (.cons (.ite (.not (.val (.fz (.call false 34 (.cons (.var 2) (.cons (.cb .len (.cons (.ix (.var 1) (.con (.int 0))) .nil)) .nil)) [])))) (.cons .never .nil) .nil) (.cons (.set 4 (.ife (.cmp .gt (.cb .len (.cons (.var 2) .nil)) (.con (.int 0))) (.cb .len (.cons (.fld (.ix (.var 2) (.neg (.con (.int 1)))) "table") .nil)) (.cb .len (.cons (.ix (.var 1) (.con (.int 0))) .nil)))) (.cons (.ite (.not (.val (.fz (.call false 33 (.cons (.var 3) (.cons (.op .sub (.cb .len (.cons (.var 1) .nil)) (.con (.int 1))) (.cons (.var 4) .nil))) [])))) (.cons .never .nil) .nil) (.cons (.fld (.var 0) "rows" (.v (.cb .tuple (.cons (.fz (.lc (.sq (.var 1)) (.nm 5) .nil (.v (.cb .tuple (.cons (.var 5) .nil))) [("row", 5)])) .nil)))) (.cons (.fld (.var 0) "layers" (.v (.cb .tuple (.cons (.var 2) .nil)))) (.cons (.fld (.var 0) "worths" (.v (.cb .tuple (.cons (.fz (.lc (.sq (.var 3)) (.nm 5) .nil (.v (.cb .tuple (.cons (.var 5) .nil))) [("row", 5)])) .nil)))) (.cons (.fld (.var 0) "letters" (.v (.cb .len (.cons (.var 3) .nil)))) (.cons (.fld (.var 0) "lengths" (.v (.cb .tuple (.cons (.fz (.cat (.fz (.dsp (.cons (.v (.cb .len (.cons (.ix (.var 1) (.con (.int 0))) .nil))) .nil))) (.fz (.lc (.sq (.var 2)) (.nm 6) .nil (.v (.cb .len (.cons (.fld (.var 6) "table") .nil))) [("layer", 6)])))) .nil)))) .nil)))))))))⟩
/-- are_rows of keepsenough.nets -/
def f33_are_rows : Fn := ⟨3, 4, [], (.cons (.ite (.bw (.or (.not (.val (.fz (.call false 17 (.cons (.var 0) .nil) [])))) (.or1 (.cmp .ne (.cb .len (.cons (.var 0) .nil)) (.var 1))))) (.cons (.ret (.con (.bl false))) .nil) .nil) (.cons (.ret (.cb .all (.cons (.fz (.lc (.sq (.var 0)) (.nm 3) .nil (.v (.fz (.call false 14 (.cons (.var 3) (.cons (.var 2) (.cons (.con (.int 999)) .nil))) []))) [("row", 3)])) .nil))) .nil))⟩
/-- are_layers of keepsenough.nets -/
def f34_are_layers : Fn := ⟨2, 3, [], (.cons (.ite (.bw (.or (.not (.val (.fz (.call false 17 (.cons (.var 0) .nil) [])))) (.or (.cmp .gt (.cb .len (.cons (.var 0) .nil)) (.con (.int 3))) (.or1 (.not (.val (.cb .all (.cons (.fz (.lc (.sq (.var 0)) (.nm 2) .nil (.v (.isi (.var 2) (.c 2))) [("layer", 2)])) .nil)))))))) (.cons (.ret (.con (.bl false))) .nil) .nil) (.cons (.for (.sq (.var 0)) (.nm 2) (.cons (.ite (.cmp .ne (.fld (.var 2) "length") (.var 1)) (.cons (.ret (.con (.bl false))) .nil) .nil) (.cons (.set 1 (.cb .len (.cons (.fld (.var 2) "table") .nil))) .nil))) (.cons (.ret (.con (.bl true))) .nil)))⟩
/-- are_letter_rows of keepsenough.nets -/
def f35_are_letter_rows : Fn := ⟨1, 1, [], (.cons (.ite (.bw (.or (.not (.val (.fz (.call false 17 (.cons (.var 0) .nil) [])))) (.or (.not (.chn .lt .le (.con (.int 2)) (.cb .len (.cons (.var 0) .nil)) (.op .add (.con (.int 4)) (.con (.int 1))))) (.or1 (.not (.val (.fz (.call false 17 (.cons (.ix (.var 0) (.con (.int 0))) .nil) [])))))))) (.cons (.ret (.con (.bl false))) .nil) .nil) (.cons (.ret (.band (.chn .le .le (.con (.int 1)) (.cb .len (.cons (.ix (.var 0) (.con (.int 0))) .nil)) (.con (.int 4))) (.bone (.fz (.call false 33 (.cons (.var 0) (.cons (.cb .len (.cons (.var 0) .nil)) (.cons (.cb .len (.cons (.ix (.var 0) (.con (.int 0))) .nil)) .nil))) []))))) .nil))⟩
/-- Layer.__init__ of keepsenough.layers -/
def f36_Layer___init__ : Fn := ⟨5, 6, [0], (.cons (.ite (.not (.val (.fz (.call false 38 (.cons (.var 1) .nil) [])))) (.cons .never .nil) .nil) (.cons (.ite (.not (.val (.fz (.call false 37 (.cons (.var 2) (.cons (.var 1) .nil)) [])))) (.cons .never .nil) .nil) (.cons (.ite (.not (.val (.fz (.call false 14 (.cons (.var 3) (.cons (.cb .len (.cons (.var 2) .nil)) (.cons (.con (.int 9999)) .nil))) [])))) (.cons .never .nil) .nil) (.cons (.ite (.not (.val (.fz (.call false 23 (.cons (.var 4) (.cons (.con (.int 1)) (.cons (.con (.int 99)) .nil))) [])))) (.cons .never .nil) .nil) (.cons (.fld (.var 0) "heads" (.v (.cb .tuple (.cons (.var 1) .nil)))) (.cons (.fld (.var 0) "table" (.v (.cb .tuple (.cons (.fz (.lc (.sq (.var 2)) (.nm 5) .nil (.v (.cb .tuple (.cons (.var 5) .nil))) [("row", 5)])) .nil)))) (.cons (.fld (.var 0) "shift" (.v (.cb .tuple (.cons (.var 3) .nil)))) (.cons (.fld (.var 0) "cap" (.v (.var 4))) (.cons (.fld (.var 0) "length" (.v (.op .fdiv (.cb .len (.cons (.ix (.var 2) (.con (.int 0))) .nil)) (.op .add (.con (.int 1)) (.cb .len (.cons (.var 1) .nil)))))) .nil)))))))))⟩
/-- is_table of keepsenough.layers -/
def f37_is_table : Fn := ⟨2, 4, [], (.cons (.ite (.bw (.or (.not (.val (.fz (.call false 17 (.cons (.var 0) .nil) [])))) (.or (.not (.chn .le .le (.con (.int 1)) (.cb .len (.cons (.var 0) .nil)) (.con (.int 4)))) (.or1 (.not (.val (.fz (.call false 17 (.cons (.ix (.var 0) (.con (.int 0))) .nil) [])))))))) (.cons (.ret (.con (.bl false))) .nil) .nil) (.cons (.set 2 (.cb .len (.cons (.ix (.var 0) (.con (.int 0))) .nil))) (.cons (.ite (.bw (.and (.cmp .eq (.cb .len (.cons (.var 1) .nil)) (.con (.int 0))) (.and1 (.not (.chn .le .le (.con (.int 1)) (.var 2) (.con (.int 4))))))) (.cons (.ret (.con (.bl false))) .nil) .nil) (.cons (.ite (.bw (.and (.cmp .gt (.cb .len (.cons (.var 1) .nil)) (.con (.int 0))) (.and1 (.cmp .ne (.var 2) (.op .mul (.fld (.ix (.var 1) (.con (.int 0))) "length") (.op .add (.con (.int 1)) (.cb .len (.cons (.var 1) .nil)))))))) (.cons (.ret (.con (.bl false))) .nil) .nil) (.cons (.ret (.cb .all (.cons (.fz (.lc (.sq (.var 0)) (.nm 3) .nil (.v (.fz (.call false 14 (.cons (.var 3) (.cons (.var 2) (.cons (.con (.int 999)) .nil))) []))) [("row", 3)])) .nil))) .nil)))))⟩
/-- are_heads of keepsenough.layers -/
def f38_are_heads : Fn := ⟨1, 2, [], (.cons (.ite (.bw (.or (.not (.val (.fz (.call false 17 (.cons (.var 0) .nil) [])))) (.or (.cmp .gt (.cb .len (.cons (.var 0) .nil)) (.con (.int 2))) (.or1 (.not (.val (.cb .all (.cons (.fz (.lc (.sq (.var 0)) (.nm 1) .nil (.v (.isi (.var 1) (.c 3))) [("head", 1)])) .nil)))))))) (.cons (.ret (.con (.bl false))) .nil) .nil) (.cons (.ret (.cb .all (.cons (.fz (.lc (.sq (.var 0)) (.nm 1) .nil (.v (.cmp .eq (.fld (.var 1) "length") (.fld (.ix (.var 0) (.con (.int 0))) "length"))) [("head", 1)])) .nil))) .nil))⟩
/-- Head.__init__ of keepsenough.heads -/
def f39_Head___init__ : Fn := ⟨5, 6, [0], (.cons (.ite (.bw (.or (.not (.val (.fz (.call false 17 (.cons (.var 1) .nil) [])))) (.or1 (.not (.chn .le .le (.con (.int 1)) (.cb .len (.cons (.var 1) .nil)) (.con (.int 4))))))) (.cons .never .nil) .nil) (.cons (.ite (.not (.val (.cb .all (.cons (.fz (.lc (.sq (.var 1)) (.nm 5) .nil (.v (.fz (.call false 14 (.cons (.var 5) (.cons (.cb .len (.cons (.var 1) .nil)) (.cons (.con (.int 999)) .nil))) []))) [("row", 5)])) .nil)))) (.cons .never .nil) .nil) (.cons (.ite (.not (.val (.fz (.call false 14 (.cons (.var 2) (.cons (.cb .len (.cons (.var 1) .nil)) (.cons (.con (.int 999)) .nil))) [])))) (.cons .never .nil) .nil) (.cons (.ite (.not (.val (.isi (.var 3) (.b .bl)))) (.cons .never .nil) .nil) (.cons (.ite (.not (.val (.isi (.var 4) (.b .bl)))) (.cons .never .nil) .nil) (.cons (.fld (.var 0) "scores" (.v (.cb .tuple (.cons (.fz (.lc (.sq (.var 1)) (.nm 5) .nil (.v (.cb .tuple (.cons (.var 5) .nil))) [("row", 5)])) .nil)))) (.cons (.fld (.var 0) "none" (.v (.cb .tuple (.cons (.var 2) .nil)))) (.cons (.fld (.var 0) "late" (.v (.var 3))) (.cons (.fld (.var 0) "strict" (.v (.var 4))) (.cons (.fld (.var 0) "length" (.v (.cb .len (.cons (.var 2) .nil)))) .nil))))))))))⟩
/-- _law_well of lawlib -/
def f40__law_well : Fn := ⟨1, 1, [], (.cons (.retq (.dsp (.cons (.v (.fz (.list (.cons (.var 0) .nil)))) (.cons (.v (.con (.int 0))) (.cons (.v (.con (.int 0))) .nil))))) .nil)⟩
/-- is_one_of of keepsenough.values -/
def f41_is_one_of : Fn := ⟨2, 2, [], (.cons (.ret (.band (.isi (.var 0) (.b .str)) (.bone (.cmp .inF (.var 0) (.var 1))))) .nil)⟩
/-- is_rule of keepsenough.policies -/
def f42_is_rule : Fn := ⟨1, 1, [], (.cons (.ite (.bw (.or (.not (.val (.fz (.call false 16 (.cons (.var 0) (.cons (.con (.int 2)) .nil)) [])))) (.or1 (.not (.val (.fz (.call false 41 (.cons (.ix (.var 0) (.con (.int 0))) (.cons (.con (.tup [(.str "first"), (.str "last"), (.str "same"), (.str "least"), (.str "greatest"), (.str "row")])) .nil)) []))))))) (.cons (.ret (.con (.bl false))) .nil) .nil) (.cons (.ite (.cmp .eq (.ix (.var 0) (.con (.int 0))) (.con (.str "same"))) (.cons (.ret (.fz (.call false 41 (.cons (.ix (.var 0) (.con (.int 1))) (.cons (.tup (.cons (.con (.str "old")) (.cons (.con (.str "new")) .nil))) .nil)) []))) .nil) .nil) (.cons (.ite (.cmp .eq (.ix (.var 0) (.con (.int 0))) (.con (.str "row"))) (.cons (.ret (.band (.fz (.call false 17 (.cons (.ix (.var 0) (.con (.int 1))) .nil) [])) (.band (.chn .le .le (.con (.int 1)) (.cb .len (.cons (.ix (.var 0) (.con (.int 1))) .nil)) (.con (.int 4))) (.bone (.fz (.call false 24 (.cons (.ix (.var 0) (.con (.int 1))) .nil) [])))))) .nil) .nil) (.cons (.ret (.fz (.call false 23 (.cons (.ix (.var 0) (.con (.int 1))) (.cons (.con (.int 0)) (.cons (.ife (.cmp .inF (.ix (.var 0) (.con (.int 0))) (.tup (.cons (.con (.str "least")) (.cons (.con (.str "greatest")) .nil)))) (.con (.int 1)) (.con (.int 6))) .nil))) []))) .nil))))⟩
/-- is_layer_rule of keepsenough.policies -/
def f43_is_layer_rule : Fn := ⟨1, 2, [], (.cons (.ite (.bw (.or (.not (.val (.fz (.call false 16 (.cons (.var 0) (.cons (.con (.int 2)) .nil)) [])))) (.or (.not (.val (.fz (.call false 23 (.cons (.ix (.var 0) (.con (.int 0))) (.cons (.con (.int 0)) (.cons (.con (.int 6)) .nil))) [])))) (.or1 (.not (.val (.fz (.call false 17 (.cons (.ix (.var 0) (.con (.int 1))) .nil) [])))))))) (.cons (.ret (.con (.bl false))) .nil) .nil) (.cons (.ret (.band (.cmp .le (.cb .len (.cons (.ix (.var 0) (.con (.int 1))) .nil)) (.con (.int 8))) (.bone (.cb .all (.cons (.fz (.lc (.sq (.ix (.var 0) (.con (.int 1)))) (.nm 1) .nil (.v (.fz (.call false 42 (.cons (.var 1) .nil) []))) [("one", 1)])) .nil))))) .nil))⟩
/-- Policy.__init__ of keepsenough.policies -/
def f44_Policy___init__ : Fn := ⟨2, 3, [0], (.cons (.ite (.bw (.or (.not (.val (.fz (.call false 17 (.cons (.var 1) .nil) [])))) (.or (.cmp .gt (.cb .len (.cons (.var 1) .nil)) (.con (.int 3))) (.or1 (.not (.val (.cb .all (.cons (.fz (.lc (.sq (.var 1)) (.nm 2) .nil (.v (.fz (.call false 43 (.cons (.var 2) .nil) []))) [("one", 2)])) .nil)))))))) (.cons .never .nil) .nil) (.cons (.fld (.var 0) "layers" (.v (.fz (.call false 11 (.cons (.var 1) .nil) [])))) .nil))⟩
/-- _law_left of lawlib -/
def f45__law_left : Fn := ⟨4, 6, [], (.cons (.ret (.fz (.lc (.sq (.ix (.fz (.call false 3 (.cons (.var 0) (.cons (.fz (.make false 0 44 (.cons (.fz (.dsp (.cons (.v (.tup (.cons (.var 1) (.cons (.var 2) .nil)))) .nil))) .nil) [])) (.cons (.fz (.dsp (.cons (.v (.fz (.lc (.sq (.var 3)) (.nm 5) .nil (.v (.tup (.cons (.var 5) .nil))) [("number", 5)]))) .nil))) .nil))) [])) (.con (.int 0)))) (.nm 4) .nil (.v (.ix (.var 4) (.con (.int 0)))) [("row", 4)]))) .nil)⟩
end J

set_option Elab.async false
set_option linter.all false
set_option maxRecDepth 100000
set_option maxHeartbeats 4000000
namespace J
open PySem PySem.Spec PyProof.Rows L2

/-! ### running the code on symbols -/
/-- holds what is wanted behind fast: simp does not go into it -/
def Tag {α : Sort u} (_ : α) : Type := Bool
def wp {α : Type} (r : R α) (P : α → Prop) (_t : Tag P := true) : Prop := ∃ a, r = .ok a ∧ P a
def wp2 {α β : Type} (r : R (α × β)) (P : α → β → Prop) (_t : Tag P := true) : Prop := ∃ a b, r = .ok (a, b) ∧ P a b
section
variable {α β γ δ : Type}
theorem wp_ok {a : α} {P : α → Prop} : wp (.ok a) P = P a := propext ⟨fun ⟨_, e, h⟩ => (by cases e; exact h), fun h => ⟨a, rfl, h⟩⟩
theorem wp_stk {P : α → Prop} : wp .stk P = False := propext ⟨fun ⟨_, e, _⟩ => (by cases e), fun h => h.elim⟩
theorem wp2_ok {a : α} {b : β} {P : α → β → Prop} : wp2 (.ok (a, b)) P = P a b := propext ⟨fun ⟨_, _, e, h⟩ => (by cases e; exact h), fun h => ⟨a, b, rfl, h⟩⟩
theorem wp2_stk {P : α → β → Prop} : wp2 .stk P = False := propext ⟨fun ⟨_, _, e, _⟩ => (by cases e), fun h => h.elim⟩
theorem wp_bind {r : R α} {f : α → R β} {P : β → Prop} : wp (r.bind f) P = wp r fun a => wp (f a) P := propext ⟨fun ⟨b, e, h⟩ => (by obtain ⟨a, e1, e2⟩ := bind_ok.mp e; exact ⟨a, e1, b, e2, h⟩), fun ⟨a, e1, b, e2, h⟩ => ⟨b, bind_ok.mpr ⟨a, e1, e2⟩, h⟩⟩
theorem wp_bnd {r : R (α × β)} {f : α → β → R γ} {P : γ → Prop} : wp (r.bnd f) P = wp2 r fun a b => wp (f a b) P := propext ⟨fun ⟨c, e, h⟩ => (by obtain ⟨a, b, e1, e2⟩ := bnd_ok.mp e; exact ⟨a, b, e1, c, e2, h⟩), fun ⟨a, b, e1, c, e2, h⟩ => ⟨c, bnd_ok.mpr ⟨a, b, e1, e2⟩, h⟩⟩
theorem wp2_bind {r : R α} {f : α → R (β × γ)} {P : β → γ → Prop} : wp2 (r.bind f) P = wp r fun a => wp2 (f a) P := propext ⟨fun ⟨b, c, e, h⟩ => (by obtain ⟨a, e1, e2⟩ := bind_ok.mp e; exact ⟨a, e1, b, c, e2, h⟩), fun ⟨a, e1, b, c, e2, h⟩ => ⟨b, c, bind_ok.mpr ⟨a, e1, e2⟩, h⟩⟩
theorem wp2_bnd {r : R (α × β)} {f : α → β → R (γ × δ)} {P : γ → δ → Prop} : wp2 (r.bnd f) P = wp2 r fun a b => wp2 (f a b) P := propext ⟨fun ⟨c, d, e, h⟩ => (by obtain ⟨a, b, e1, e2⟩ := bnd_ok.mp e; exact ⟨a, b, e1, c, d, e2, h⟩), fun ⟨a, b, e1, c, d, e2, h⟩ => ⟨c, d, bnd_ok.mpr ⟨a, b, e1, e2⟩, h⟩⟩
theorem wp_some {a : α} {P : α → Prop} : wp (R.of (some a)) P = P a := wp_ok
theorem wp_none {P : α → Prop} : wp (R.of (none : Option α)) P = False := wp_stk
theorem wp_of {o : Option α} {P : α → Prop} : wp (R.of o) P = ∃ a, o = some a ∧ P a := propext ⟨fun ⟨a, e, h⟩ => ⟨a, of_ok.mp e, h⟩, fun ⟨a, e, h⟩ => ⟨a, of_ok.mpr e, h⟩⟩
theorem wp_if {c : Prop} [Decidable c] {a : α} {P : α → Prop} : wp (if c then .ok a else .stk) P = (c ∧ P a) := propext ⟨fun ⟨_, e, h⟩ => (by obtain ⟨h1, rfl⟩ := if_ok.mp e; exact ⟨h1, h⟩), fun ⟨h1, h⟩ => ⟨a, if_ok.mpr ⟨h1, rfl⟩, h⟩⟩
theorem wp2_if {c : Prop} [Decidable c] {a : α} {b : β} {P : α → β → Prop} : wp2 (if c then .ok (a, b) else .stk) P = (c ∧ P a b) := propext ⟨fun ⟨_, _, e, h⟩ => (by obtain ⟨h1, e2⟩ := if_ok.mp e; cases e2; exact ⟨h1, h⟩), fun ⟨h1, h⟩ => ⟨a, b, if_ok.mpr ⟨h1, rfl⟩, h⟩⟩
theorem wp2_fi {c : Prop} [Decidable c] {a : α} {b : β} {P : α → β → Prop} : wp2 (if c then .stk else .ok (a, b)) P = (¬ c ∧ P a b) := propext ⟨fun ⟨_, _, e, h⟩ => (by
  split at e
  · cases e
  · rename_i h1
    cases e
    exact ⟨h1, h⟩), fun ⟨h1, h⟩ => ⟨a, b, if_neg h1, h⟩⟩
/-- a branch -/
theorem wp_br {k : Bool} {x y : R α} {P : α → Prop} : wp (match k with | true => x | false => y) P = ((k = true → wp x P) ∧ (k = false → wp y P)) := by cases k <;> simp
theorem wp2_br {k : Bool} {x y : R (α × β)} {P : α → β → Prop} : wp2 (match k with | true => x | false => y) P = ((k = true → wp2 x P) ∧ (k = false → wp2 y P)) := by cases k <;> simp
end
theorem nth_z {x : Option T} {r : Env} : nth (x :: r) 0 = x := rfl
theorem nth_s {x : Option T} {r : Env} {n : Nat} : nth (x :: r) (n + 1) = nth r n := rfl
theorem wp_var {i : Nat} {ρ : Env} {P : Env → D → Prop} : wp2 (evV i ρ) P = (match nth ρ i with
  | some (.v d) => P ρ d
  | some t => P (ρ.set i (some (.v (toD t)))) (toD t)
  | none => False) := by
  unfold evV
  generalize nth ρ i = z
  cases z with
  | none => exact wp2_stk
  | some t => cases t <;> exact wp2_ok
theorem wp_pl {fx : Str → Nat → Option Nat} {p : Px} {ρ : Env} {P : Env → D → Prop} : wp2 (evP fx p ρ) P = wp2 ((R.of (nth ρ (rootP p))).bind fun t => (R.of (ofP fx p t ρ)).bind fun js => (R.of (getP t js)).bind fun s => match s with
    | .v d => .ok (ρ, d)
    | s => .ok (ρ.set (rootP p) (some (setP t js (.v (toD s)))), toD s)) P := rfl
theorem wp_pk {fx : Str → Nat → Option Nat} {p : Px} {ρ : Env} {P : Env → D → Prop} : wp2 (pkP fx p ρ) P = wp2 ((R.of (nth ρ (rootP p))).bind fun t => (R.of (ofP fx p t ρ)).bind fun js => (R.of (getP t js)).bind fun s => .ok (ρ, toD s)) P := rfl
theorem wp_i2 {g : Int → Int → D} {i j : Int} {P : D → Prop} : wp (i2 g (.int i) (.int j)) P = P (g i j) := wp_ok
theorem wp_i2c {c : Int → Int → Bool} {g : Int → Int → D} {i j : Int} {P : D → Prop} : wp (i2c c g (.int i) (.int j)) P = (c i j = true ∧ P (g i j)) := by
  show wp (match c i j with
    | true => .ok (g i j)
    | false => .stk) P = _
  generalize c i j = k
  cases k
  · rw [wp_stk]; simp
  · rw [wp_ok]; simp
theorem wp_runF {O : Or} {f : Fn} {ts : List T} {P : T → List (Option T) → Prop} : wp2 (runF O f ts) P = (ts.length = f.n ∧ wp (evSs O f.body (startB f.m ts)) fun r => match r with
  | .nx ρ => f.n ≤ ρ.length ∧ P (.v .non) (finB f.pr 0 f.n ρ)
  | .rt ρ t => f.n ≤ ρ.length ∧ P t (finB f.pr 0 f.n ρ)
  | _ => False) := by
  refine propext ⟨fun ⟨a, b, e, hp⟩ => ?_, fun ⟨hl, r, e, hp⟩ => ?_⟩
  · unfold runF at e
    split at e
    · rename_i hl
      obtain ⟨r, e1, e2⟩ := bind_ok.mp e
      refine ⟨hl, r, e1, ?_⟩
      cases r with
      | nx ρ =>
        obtain ⟨h1, h2⟩ := if_ok.mp e2
        cases h2
        exact ⟨h1, hp⟩
      | rt ρ t =>
        obtain ⟨h1, h2⟩ := if_ok.mp e2
        cases h2
        exact ⟨h1, hp⟩
      | bk ρ => cases e2
      | ct ρ => cases e2
    · cases e
  · unfold runF
    rw [if_pos hl]
    cases r with
    | nx ρ => exact ⟨_, _, bind_ok.mpr ⟨_, e, if_pos hp.1⟩, hp.2⟩
    | rt ρ t => exact ⟨_, _, bind_ok.mpr ⟨_, e, if_pos hp.1⟩, hp.2⟩
    | bk ρ => exact hp.elim
    | ct ρ => exact hp.elim
theorem callJ_s {tb : Nat → Option Fn} {fx : Str → Nat → Option Nat} {fu : Nat} {kt : Kt → Kt → Option Bool} {k i : Nat} {f : Fn} {ts : List T} (h : tb i = some f) : callJ tb fx fu kt (k + 1) i ts = runF ⟨callJ tb fx fu kt k, fx, fu, kt⟩ f ts := by
  show (match tb i with
    | some fn => runF ⟨callJ tb fx fu kt k, fx, fu, kt⟩ fn ts
    | none => .stk) = _
  rw [h]
theorem wp_callJ {tb : Nat → Option Fn} {fx : Str → Nat → Option Nat} {fu : Nat} {kt : Kt → Kt → Option Bool} {k i : Nat} {f : Fn} {ts : List T} {P : T → List (Option T) → Prop} (h : tb i = some f)
    (w : wp2 (runF ⟨callJ tb fx fu kt k, fx, fu, kt⟩ f ts) P) : wp2 (callJ tb fx fu kt (k + 1) i ts) P := by
  rw [callJ_s h]
  exact w
theorem memN_n {k : Nat} : memN k [] = false := rfl
theorem memN_c {k v : Nat} {r : List Nat} : memN k (v :: r) = (decide (k = v) || memN k r) := by
  show (Nat.beq k v || memN k r) = _
  congr 1
  by_cases h : k = v
  · subst h; simp
  · rw [decide_eq_false h]
    exact Bool.eq_false_iff.mpr fun z => h (Nat.eq_of_beq_eq_true z)
theorem memN_z : memN 0 [0] = true := rfl
theorem memN_s {k : Nat} : memN (k + 1) [0] = false := rfl
theorem at0 {α : Type} {x : α} {l : List α} : atI (x :: l) 0 = some x := by
  unfold atI ixN
  rw [List.length_cons, if_pos (by omega), if_pos (by omega)]
  rfl
theorem at1 {α : Type} {x y : α} {l : List α} : atI (x :: y :: l) 1 = some y := by
  unfold atI ixN
  rw [List.length_cons, List.length_cons, if_pos (by omega), if_pos (by omega)]
  rfl
theorem at2 {α : Type} {x y z : α} {l : List α} : atI (x :: y :: z :: l) 2 = some z := by
  unfold atI ixN
  rw [List.length_cons, List.length_cons, List.length_cons, if_pos (by omega), if_pos (by omega)]
  rfl
theorem at3 {α : Type} {x y z w : α} {l : List α} : atI (x :: y :: z :: w :: l) 3 = some w := by
  unfold atI ixN
  rw [List.length_cons, List.length_cons, List.length_cons, List.length_cons, if_pos (by omega), if_pos (by omega)]
  rfl
theorem at4 {α : Type} {x y z w v : α} {l : List α} : atI (x :: y :: z :: w :: v :: l) 4 = some v := by
  unfold atI ixN
  rw [List.length_cons, List.length_cons, List.length_cons, List.length_cons, List.length_cons, if_pos (by omega), if_pos (by omega)]
  rfl
theorem atm1 {α : Type} {x : α} : atI [x] (-1) = some x := rfl
theorem atm2 {α : Type} {x y : α} : atI [x, y] (-1) = some y := rfl
theorem atm3 {α : Type} {x y z : α} : atI [x, y, z] (-1) = some z := rfl
theorem atI_map {α β : Type} {f : α → β} {l : List α} {i : Int} : atI (l.map f) i = (atI l i).map f := by
  unfold atI
  rw [List.length_map]
  cases ixN l.length i with
  | none => rfl
  | some j => simp
theorem wp_at_ints {ns : List Int} {i : Int} {P : D → Prop} : wp (R.of (atI (ns.map D.int) i)) P = ∃ z, atI ns i = some z ∧ P (.int z) := by
  rw [atI_map, wp_of]
  refine propext ⟨fun ⟨a, e, h⟩ => ?_, fun ⟨z, e, h⟩ => ⟨.int z, by rw [e]; rfl, h⟩⟩
  cases q : atI ns i with
  | none => rw [q] at e; cases e
  | some z =>
    rw [q] at e
    cases e
    exact ⟨z, rfl, h⟩
theorem atI_mod {α : Type} {l : List α} {i : Int} (h : 0 < (l.length : Int)) : ∃ z, atI l (i % l.length) = some z := by
  unfold atI ixN
  have h1 := Int.emod_nonneg i (by omega : (l.length : Int) ≠ 0)
  have h2 := Int.emod_lt_of_pos i h
  rw [if_pos h1, if_pos h2]
  have h3 : (i % l.length).toNat < l.length := by omega
  exact ⟨l[(i % l.length).toNat], List.getElem?_eq_getElem h3⟩
theorem ix0 {n : Nat} : ixN (n + 1) 0 = some 0 := by
  unfold ixN
  rw [if_pos (by omega), if_pos (by omega)]
  rfl
theorem ix1 {n : Nat} : ixN (n + 2) 1 = some 1 := by
  unfold ixN
  rw [if_pos (by omega), if_pos (by omega)]
  rfl
theorem ix2 {n : Nat} : ixN (n + 3) 2 = some 2 := by
  unfold ixN
  rw [if_pos (by omega), if_pos (by omega)]
  rfl
theorem ix3 {n : Nat} : ixN (n + 4) 3 = some 3 := by
  unfold ixN
  rw [if_pos (by omega), if_pos (by omega)]
  rfl
theorem ix4 {n : Nat} : ixN (n + 5) 4 = some 4 := by
  unfold ixN
  rw [if_pos (by omega), if_pos (by omega)]
  rfl
theorem ix5 {n : Nat} : ixN (n + 6) 5 = some 5 := by
  unfold ixN
  rw [if_pos (by omega), if_pos (by omega)]
  rfl
theorem ixm1 {n : Nat} : ixN (n + 1) (-1) = some n := by
  unfold ixN
  rw [if_neg (by omega), if_pos (by omega)]
  congr 1
  omega
/-! ### loops -/
def endsB (I : Env → Prop) (P : Flow → Prop) : Flow → Prop
  | .nx ρ => I ρ
  | .ct ρ => I ρ
  | .bk ρ => P (.nx ρ)
  | .rt ρ t => P (.rt ρ t)
theorem wp_while {t : Env → R (Env × Bool)} {b : Env → R Flow} {P : Flow → Prop} (I : Nat → Env → Prop) (step : ∀ m ρ, I m ρ → wp2 (t ρ) fun ρ1 k => (k = true → wp (b ρ1) (endsB (fun ρ2 => ∃ m', m' < m ∧ I m' ρ2) P)) ∧ (k = false → P (.nx ρ1))) :
    ∀ (n m : Nat) (ρ : Env), m < n → I m ρ → wp (whileJ t b n ρ) P
  | 0, m, ρ, h, _ => absurd h (Nat.not_lt_zero _)
  | n + 1, m, ρ, h, hi => by
    obtain ⟨ρ1, k, e1, h1, h2⟩ := step m ρ hi
    have un : whileJ t b (n + 1) ρ = (t ρ).bnd fun ρ1 k => match k with
      | false => .ok (.nx ρ1)
      | true => (b ρ1).bind fun f => match f with
        | .nx ρ2 => whileJ t b n ρ2
        | .ct ρ2 => whileJ t b n ρ2
        | .bk ρ2 => .ok (.nx ρ2)
        | .rt ρ2 t => .ok (.rt ρ2 t) := rfl
    rw [un, wp_bnd]
    refine ⟨ρ1, k, e1, ?_⟩
    cases k with
    | false => exact ⟨_, rfl, h2 rfl⟩
    | true =>
      obtain ⟨f, e2, h3⟩ := h1 rfl
      rw [wp_bind]
      refine ⟨f, e2, ?_⟩
      cases f with
      | nx ρ2 =>
        obtain ⟨m', hm, hi'⟩ := h3
        exact wp_while I step n m' ρ2 (by omega) hi'
      | ct ρ2 =>
        obtain ⟨m', hm, hi'⟩ := h3
        exact wp_while I step n m' ρ2 (by omega) hi'
      | bk ρ2 => exact ⟨_, rfl, h3⟩
      | rt ρ2 t => exact ⟨_, rfl, h3⟩
theorem wp_for_nil {g : D → Env → R Env} {b : Env → R Flow} {ρ : Env} {P : Flow → Prop} : wp (forJ g b [] ρ) P = P (.nx ρ) := wp_ok
theorem wp_for_cons {g : D → Env → R Env} {b : Env → R Flow} {d : D} {ds : List D} {ρ : Env} {P : Flow → Prop} : wp (forJ g b (d :: ds) ρ) P = wp (g d ρ) fun ρ1 => wp (b ρ1) (endsB (fun ρ2 => wp (forJ g b ds ρ2) P) P) := by
  have un : forJ g b (d :: ds) ρ = (g d ρ).bind fun ρ1 => (b ρ1).bind fun f => match f with
    | .nx ρ2 => forJ g b ds ρ2
    | .ct ρ2 => forJ g b ds ρ2
    | .bk ρ2 => .ok (.nx ρ2)
    | .rt ρ2 t => .ok (.rt ρ2 t) := rfl
  rw [un, wp_bind]
  congr 1
  funext ρ1
  rw [wp_bind]
  congr 1
  funext f
  cases f <;> simp only [endsB, wp_ok]
/-- the iterations go over some data, with a state behind each of them -/
theorem wp_forL {α : Type} {g : D → Env → R Env} {b : Env → R Flow} {P : Flow → Prop} (φ : α → D) (I : List α → Env → Prop) (step : ∀ a l ρ, I (a :: l) ρ → wp (g (φ a) ρ) fun ρ1 => wp (b ρ1) (endsB (I l) P)) (hend : ∀ ρ, I [] ρ → P (.nx ρ)) : ∀ (l : List α) (ρ : Env), I l ρ → wp (forJ g b (l.map φ) ρ) P
  | [], ρ, h => by
    rw [List.map_nil, wp_for_nil]
    exact hend ρ h
  | a :: l, ρ, h => by
    rw [List.map_cons, wp_for_cons]
    obtain ⟨ρ1, e1, f, e2, h2⟩ := step a l ρ h
    refine ⟨ρ1, e1, f, e2, ?_⟩
    cases f with
    | nx ρ2 => exact wp_forL φ I step hend l ρ2 h2
    | ct ρ2 => exact wp_forL φ I step hend l ρ2 h2
    | bk ρ2 => exact h2
    | rt ρ2 t => exact h2
theorem wp_lc_nil {vs : List Nat} {g : D → Env → R Env} {tt : Env → R (Env × Bool)} {te : Env → R (Env × T)} {acc : List T} {ρ : Env} {P : Env → List T → Prop} : wp2 (lcJ vs g tt te [] acc ρ) P = P ρ acc := wp2_ok
theorem wp_lc_cons {vs : List Nat} {g : D → Env → R Env} {tt : Env → R (Env × Bool)} {te : Env → R (Env × T)} {d : D} {ds : List D} {acc : List T} {ρ : Env} {P : Env → List T → Prop} :
    wp2 (lcJ vs g tt te (d :: ds) acc ρ) P = wp2 ((g d ρ).bind fun ρ2 => (tt ρ2).bnd fun ρ3 k => match k with
      | true => (te ρ3).bnd fun ρ4 x => lcJ vs g tt te ds (acc ++ [x]) (wipeB ρ4 vs)
      | false => lcJ vs g tt te ds acc (wipeB ρ3 vs)) P := rfl
/-- [ψ a for a in l if p a], the names the same behind each turn -/
theorem wp_lcL {α : Type} {vs : List Nat} {g : D → Env → R Env} {tt : Env → R (Env × Bool)} {te : Env → R (Env × T)} {P : Env → List T → Prop} (φ : α → D) (ψ : α → Option T) {ρ : Env} :
    ∀ (l : List α) (acc : List T), (∀ a ∈ l, wp (g (φ a) ρ) fun ρ2 => wp2 (tt ρ2) fun ρ3 k => (k = true → wp2 (te ρ3) fun ρ4 x => some x = ψ a ∧ wipeB ρ4 vs = ρ) ∧ (k = false → ψ a = none ∧ wipeB ρ3 vs = ρ)) → P ρ (acc ++ l.filterMap ψ) → wp2 (lcJ vs g tt te (l.map φ) acc ρ) P
  | [], acc, _, h => by
    rw [List.map_nil, wp_lc_nil]
    simpa using h
  | a :: l, acc, hs, h => by
    rw [List.map_cons, wp_lc_cons]
    obtain ⟨ρ2, e1, ρ3, k, e2, h1, h2⟩ := hs a List.mem_cons_self
    rw [wp2_bind]
    refine ⟨ρ2, e1, ?_⟩
    show wp2 ((tt ρ2).bnd fun ρ3 k => match k with
      | true => (te ρ3).bnd fun ρ4 x => lcJ vs g tt te (l.map φ) (acc ++ [x]) (wipeB ρ4 vs)
      | false => lcJ vs g tt te (l.map φ) acc (wipeB ρ3 vs)) P
    rw [wp2_bnd]
    refine ⟨ρ3, k, e2, ?_⟩
    have hs' : ∀ a ∈ l, _ := fun b m => hs b (List.mem_cons_of_mem _ m)
    cases k with
    | true =>
      obtain ⟨ρ4, x, e3, hx, hw⟩ := h1 rfl
      show wp2 ((te ρ3).bnd fun ρ4 x => lcJ vs g tt te (l.map φ) (acc ++ [x]) (wipeB ρ4 vs)) P
      rw [wp2_bnd]
      refine ⟨ρ4, x, e3, ?_⟩
      show wp2 (lcJ vs g tt te (l.map φ) (acc ++ [x]) (wipeB ρ4 vs)) P
      rw [hw]
      refine wp_lcL φ ψ l (acc ++ [x]) hs' ?_
      rw [List.filterMap_cons, ← hx] at h
      simpa using h
    | false =>
      obtain ⟨hx, hw⟩ := h2 rfl
      show wp2 (lcJ vs g tt te (l.map φ) acc (wipeB ρ3 vs)) P
      rw [hw]
      refine wp_lcL φ ψ l acc hs' ?_
      rw [List.filterMap_cons, hx] at h
      exact h
/-- [ψ a for a in l] -/
theorem wp_lcM {α : Type} {vs : List Nat} {g : D → Env → R Env} {tt : Env → R (Env × Bool)} {te : Env → R (Env × T)} {P : Env → List T → Prop} (φ : α → D) (ψ : α → T) {ρ : Env} (l : List α)
    (hs : ∀ a ∈ l, wp (g (φ a) ρ) fun ρ2 => wp2 (tt ρ2) fun ρ3 k => k = true ∧ wp2 (te ρ3) fun ρ4 x => x = ψ a ∧ wipeB ρ4 vs = ρ) (h : P ρ (l.map ψ)) : wp2 (lcJ vs g tt te (l.map φ) [] ρ) P := by
  refine wp_lcL φ (fun a => some (ψ a)) l [] (fun a m => ?_) ?_
  · obtain ⟨ρ2, e1, ρ3, k, e2, rfl, ρ4, x, e3, hx, hw⟩ := hs a m
    exact ⟨ρ2, e1, ρ3, true, e2, fun _ => ⟨ρ4, x, e3, by rw [hx], hw⟩, fun z => by cases z⟩
  · rw [List.nil_append, show l.filterMap (fun a => some (ψ a)) = l.map ψ from by simp [List.filterMap_eq_map']]
    exact h
theorem wp_at_map {α : Type} {φ : α → D} {l : List α} {i : Int} {P : D → Prop} : wp (R.of (atI (l.map φ) i)) P = ∃ z, atI l i = some z ∧ P (φ z) := by
  rw [atI_map, wp_of]
  refine propext ⟨fun ⟨a, e, h⟩ => ?_, fun ⟨z, e, h⟩ => ⟨φ z, by rw [e]; rfl, h⟩⟩
  cases q : atI l i with
  | none => rw [q] at e; cases e
  | some z =>
    rw [q] at e
    cases e
    exact ⟨z, rfl, h⟩
def minL : List Int → Int
  | [] => 0
  | n :: r => minI n r
def maxL : List Int → Int
  | [] => 0
  | n :: r => maxI n r
theorem minL_eq {l : List Int} {v : Int} (hv : v ∈ l) (h : ∀ y ∈ l, v ≤ y) : minL l = v := by
  cases l with
  | nil => simp at hv
  | cons n r =>
    have h1 := minI_le r n
    have h2 : minL (n :: r) ≤ v := by
      rcases List.mem_cons.mp hv with rfl | m
      · exact h1.1
      · exact h1.2 v m
    have h3 : v ≤ minL (n :: r) := by
      rcases minI_mem r n with e | e
      · show v ≤ minI n r
        rw [e]; exact h n List.mem_cons_self
      · exact h _ (List.mem_cons_of_mem _ e)
    omega
theorem maxL_eq {l : List Int} {v : Int} (hv : v ∈ l) (h : ∀ y ∈ l, y ≤ v) : maxL l = v := by
  cases l with
  | nil => simp at hv
  | cons n r =>
    have h1 := maxI_le r n
    have h2 : v ≤ maxL (n :: r) := by
      rcases List.mem_cons.mp hv with rfl | m
      · exact h1.1
      · exact h1.2 v m
    have h3 : maxL (n :: r) ≤ v := by
      rcases maxI_mem r n with e | e
      · show maxI n r ≤ v
        rw [e]; exact h n List.mem_cons_self
      · exact h _ (List.mem_cons_of_mem _ e)
    omega
theorem wp_minF {d : D} {P : D → Prop} : wp (minF d) P = wp (intsF d) fun ns => ns ≠ [] ∧ P (.int (minL ns)) := by
  unfold minF
  rw [wp_bind]
  congr 1
  funext ns
  cases ns with
  | nil => rw [wp_stk]; simp
  | cons n r => rw [wp_ok]; simp [minL]
theorem wp_maxF {d : D} {P : D → Prop} : wp (maxF d) P = wp (intsF d) fun ns => ns ≠ [] ∧ P (.int (maxL ns)) := by
  unfold maxF
  rw [wp_bind]
  congr 1
  funext ns
  cases ns with
  | nil => rw [wp_stk]; simp
  | cons n r => rw [wp_ok]; simp [maxL]
theorem wp_idxF {l : List D} {y : D} {P : D → Prop} : wp (idxF l y) P = ((shp (.lst l) = true ∧ shp y = true) ∧ ∃ j, findIx y l 0 = some j ∧ P (.int (j : Nat))) := by
  unfold idxF
  refine propext ⟨fun ⟨d, e, h⟩ => ?_, fun ⟨h1, j, e, h⟩ => ⟨_, by rw [h1.1, h1.2]; show (R.of (findIx y l 0)).bind _ = _; rw [e]; rfl, h⟩⟩
  split at e
  · rename_i hs
    obtain ⟨j, e1, e2⟩ := bind_ok.mp e
    cases e2
    exact ⟨by simpa using hs, j, of_ok.mp e1, h⟩
  · cases e
theorem wp_cntF {l : List D} {y : D} {P : D → Prop} : wp (cntF l y) P = ((shp (.lst l) = true ∧ shp y = true) ∧ P (.int (l.countP fun z => deq z y : Nat))) := by
  unfold cntF
  refine propext ⟨fun ⟨d, e, h⟩ => ?_, fun ⟨h1, h⟩ => ⟨_, by rw [h1.1, h1.2]; rfl, h⟩⟩
  split at e
  · rename_i hs
    cases e
    exact ⟨by simpa using hs, h⟩
  · cases e
theorem wp_inDF {neg : Bool} {x : D} {l : List D} {P : D → Prop} : wp (inDF neg x (.lst l)) P = ((shp x = true ∧ shp (.lst l) = true) ∧ P (.bl (if neg then !l.any fun z => deq z x else l.any fun z => deq z x))) := by
  refine propext ⟨fun ⟨d, e, h⟩ => ?_, fun ⟨h1, h⟩ => ⟨_, by show (match shp x && shp (.lst l) with | true => _ | false => _) = _; rw [h1.1, h1.2]; rfl, h⟩⟩
  obtain ⟨l', e1, h1, rfl⟩ := inDF_ok e
  cases e1
  exact ⟨h1, h⟩
theorem wp_inFF {neg : Bool} {x y : D} {P : D → Prop} : wp (inFF neg x y) P = wp (R.of (items y)) fun l => (flat x = true ∧ l.all flat = true) ∧ P (.bl (if neg then !l.any fun z => eqFl z x else l.any fun z => eqFl z x)) := by
  refine propext ⟨fun ⟨d, e, h⟩ => ?_, fun ⟨l, e, h1, h⟩ => ⟨_, by unfold inFF; rw [of_ok.mp e]; show (match flat x && l.all flat with | true => _ | false => _) = _; rw [h1.1, h1.2]; rfl, h⟩⟩
  obtain ⟨l, e1, h1, rfl⟩ := inFF_ok e
  exact ⟨l, of_ok.mpr e1, h1, h⟩
theorem toDs_map {α : Type} {f : α → D} {l : List α} : toDs (l.map fun a => T.v (f a)) = l.map f := by
  induction l with
  | nil => rfl
  | cons a l ih => simp only [List.map_cons, toDs, toD, ih]
theorem blsOf_mapf {α : Type} {p : α → Bool} {l : List α} : blsOf (l.map fun a => D.bl (p a)) = some (l.map p) := by
  have := blsOf_map (l.map p)
  rw [List.map_map] at this
  exact this
theorem intsOf_mapf {α : Type} {p : α → Int} {l : List α} : intsOf (l.map fun a => D.int (p a)) = some (l.map p) := by
  have := intsOf_map (l.map p)
  rw [List.map_map] at this
  exact this
theorem wp_lci_nil {vs : List Nat} {g : D → Env → R Env} {tt : Env → R (Env × Bool)} {te : Env → R (Env × T)} {acc : List T} {ρ : Env} {P : Env → List T → Prop} : wp2 (lcI vs g tt te [] acc ρ) P = P ρ acc := wp2_ok
theorem wp_lci_cons {vs : List Nat} {g : D → Env → R Env} {tt : Env → R (Env × Bool)} {te : Env → R (Env × T)} {d : D} {ds : List D} {acc : List T} {ρ : Env} {P : Env → List T → Prop} :
    wp2 (lcI vs g tt te (d :: ds) acc ρ) P = wp2 ((g d ρ).bind fun ρ2 => (tt ρ2).bnd fun ρ3 k => match k with
      | true => (te ρ3).bnd fun ρ4 x => if acc.length < 1000000 then lcI vs g tt te ds (acc ++ [x]) (wipeB ρ4 vs) else .stk
      | false => lcI vs g tt te ds acc (wipeB ρ3 vs)) P := rfl
theorem wp_lcj_nil {vs vs1 : List Nat} {g g1 : D → Env → R Env} {tt tt1 : Env → R (Env × Bool)} {it1 : Env → R (Env × List D)} {te : Env → R (Env × T)} {acc : List T} {ρ : Env} {P : Env → List T → Prop} : wp2 (lcJ2 vs g tt it1 vs1 g1 tt1 te [] acc ρ) P = P ρ acc := wp2_ok
theorem wp_lcj_cons {vs vs1 : List Nat} {g g1 : D → Env → R Env} {tt tt1 : Env → R (Env × Bool)} {it1 : Env → R (Env × List D)} {te : Env → R (Env × T)} {d : D} {ds : List D} {acc : List T} {ρ : Env} {P : Env → List T → Prop} :
    wp2 (lcJ2 vs g tt it1 vs1 g1 tt1 te (d :: ds) acc ρ) P = wp2 ((g d ρ).bind fun ρ2 => (tt ρ2).bnd fun ρ3 k => match k with
      | true => (it1 ρ3).bnd fun ρ4 es => (lcI vs1 g1 tt1 te es acc (wipeB ρ4 vs1)).bnd fun ρ5 acc1 => lcJ2 vs g tt it1 vs1 g1 tt1 te ds acc1 (wipeB ρ5 vs)
      | false => lcJ2 vs g tt it1 vs1 g1 tt1 te ds acc (wipeB ρ3 vs)) P := rfl
theorem wp2_ifr {α β : Type} {c : Prop} [Decidable c] {r : R (α × β)} {P : α → β → Prop} : wp2 (if c then r else .stk) P = (c ∧ wp2 r P) := propext ⟨fun ⟨a, b, e, h⟩ => (by
  split at e
  · rename_i hc
    exact ⟨hc, a, b, e, h⟩
  · cases e), fun ⟨h1, a, b, e, h⟩ => ⟨a, b, by rw [if_pos h1]; exact e, h⟩⟩
theorem wp_isNF {x : D} {P : D → Prop} : wp (isNF x .non) P = P (.bl (isNon x)) := wp_ok
theorem wp_notNF {x : D} {P : D → Prop} : wp (notNF x .non) P = P (.bl (!isNon x)) := wp_ok
def blF : D → R Bool
  | .bl k => .ok k
  | _ => .stk
theorem wp_blF {k : Bool} {P : Bool → Prop} : wp (blF (.bl k)) P = P k := wp_ok
theorem wp_isiF {kt : Kt → Kt → Option Bool} {t : Kt} {d : D} {P : D → Prop} : wp (isiF kt t d) P = wp (R.of (tyK d)) fun a => wp (R.of (kt a t)) fun k => P (.bl k) := by
  unfold isiF
  rw [wp_bind]
  congr 1
  funext a
  rw [wp_bind]
  congr 1
  funext k
  exact wp_ok
theorem wp_isi2F {kt : Kt → Kt → Option Bool} {t t2 : Kt} {d : D} {P : D → Prop} : wp (isi2F kt t t2 d) P = wp (R.of (tyK d)) fun a => wp (R.of (kt a t)) fun k => wp (R.of (kt a t2)) fun k2 => P (.bl (k || k2)) := by
  unfold isi2F
  rw [wp_bind]
  congr 1
  funext a
  rw [wp_bind]
  congr 1
  funext k
  rw [wp_bind]
  congr 1
  funext k
  exact wp_ok
theorem eqFl_ss {a b : Str} : eqFl (.str a) (.str b) = decide (a = b) := Bool.beq_eq_decide_eq a b
theorem eqFl_ii {a b : Int} : eqFl (.int a) (.int b) = decide (a = b) := Bool.beq_eq_decide_eq a b
theorem eqFl_si {a : Str} {b : Int} : eqFl (.str a) (.int b) = false := rfl
theorem eqFl_is {b : Str} {a : Int} : eqFl (.int a) (.str b) = false := rfl
theorem eqFl_nn : eqFl .non .non = true := rfl
theorem eqFl_sn {a : Str} : eqFl (.str a) .non = false := rfl
theorem eqFl_ns {a : Str} : eqFl .non (.str a) = false := rfl
theorem eqFl_in {a : Int} : eqFl (.int a) .non = false := rfl
theorem eqFl_ni {a : Int} : eqFl .non (.int a) = false := rfl
/-! ### == of data -/
theorem wp_eqF {x y : D} {P : D → Prop} : wp (eqF x y) P = ((shp x = true ∧ shp y = true) ∧ P (.bl (deq x y))) := propext ⟨fun ⟨d, e, h⟩ => (by obtain ⟨h1, rfl⟩ := eqF_ok e; exact ⟨h1, h⟩), fun ⟨h1, h⟩ => ⟨_, (by unfold eqF; rw [h1.1, h1.2]; rfl), h⟩⟩
theorem wp_neF {x y : D} {P : D → Prop} : wp (neF x y) P = ((shp x = true ∧ shp y = true) ∧ P (.bl (!deq x y))) := propext ⟨fun ⟨d, e, h⟩ => (by obtain ⟨h1, rfl⟩ := neF_ok e; exact ⟨h1, h⟩), fun ⟨h1, h⟩ => ⟨_, (by unfold neF; rw [h1.1, h1.2]; rfl), h⟩⟩
def deqs (l m : List D) : Bool := PyData.eqvAll (pyL l) (pyL m)
theorem deq_tup {l m : List D} : deq (.tup l) (.tup m) = deqs l m := by simp only [deq, deqs, py, PyData.eqv]
theorem deq_lst {l m : List D} : deq (.lst l) (.lst m) = deqs l m := by simp only [deq, deqs, py, PyData.eqv]
theorem deq_int {i j : Int} : deq (.int i) (.int j) = decide (i = j) := by simp [deq, py, PyData.eqv, Bool.beq_eq_decide_eq]
theorem deq_str {i j : Str} : deq (.str i) (.str j) = decide (i = j) := by simp [deq, py, PyData.eqv, Bool.beq_eq_decide_eq]
theorem deq_bl {i j : Bool} : deq (.bl i) (.bl j) = decide (i = j) := by simp [deq, py, PyData.eqv, Bool.beq_eq_decide_eq]
theorem deq_non : deq .non .non = true := rfl
theorem deqs_nil : deqs [] [] = true := rfl
theorem deqs_cons {d e : D} {l m : List D} : deqs (d :: l) (e :: m) = (deq d e && deqs l m) := by simp only [deqs, deq, pyL, PyData.eqvAll]
theorem deqs_nc {e : D} {m : List D} : deqs [] (e :: m) = false := rfl
theorem deqs_cn {e : D} {m : List D} : deqs (e :: m) [] = false := rfl
theorem deqs_map {α : Type} [DecidableEq α] {φ : α → D} (h : ∀ a b, deq (φ a) (φ b) = decide (a = b)) : ∀ l m : List α, deqs (l.map φ) (m.map φ) = decide (l = m)
  | [], [] => rfl
  | [], _ :: _ => by rw [List.map_nil, List.map_cons, deqs_nc]; simp
  | _ :: _, [] => by rw [List.map_nil, List.map_cons, deqs_cn]; simp
  | a :: l, b :: m => by
    rw [List.map_cons, List.map_cons, deqs_cons, h, deqs_map h l m]
    by_cases e : a = b <;> by_cases f : l = m <;> simp [e, f]
theorem deqs_ints (l m : List Int) : deqs (l.map .int) (m.map .int) = decide (l = m) := deqs_map (fun a b => deq_int) l m
theorem deqs_ints_nil (l : List Int) : deqs (l.map .int) [] = decide (l = []) := deqs_ints l []
mutual
theorem eqv_self : ∀ d : D, PyData.eqv (py d) (py d) = true ∨ noObj d = false
  | .non => .inl rfl
  | .bl b => .inl (by simp [py, PyData.eqv])
  | .int i => .inl (by simp [py, PyData.eqv])
  | .str x => .inl (by simp [py, PyData.eqv])
  | .tup l => by
    simp only [py, PyData.eqv, noObj]
    exact eqvL_self l
  | .lst l => by
    simp only [py, PyData.eqv, noObj]
    exact eqvL_self l
  | .dic _ _ => .inr rfl
  | .obj _ _ => .inr rfl
  | .scr _ => .inr rfl
theorem eqvL_self : ∀ l : List D, PyData.eqvAll (pyL l) (pyL l) = true ∨ noObjL l = false
  | [] => .inl rfl
  | d :: r => by
    simp only [pyL, PyData.eqvAll, noObjL, Bool.and_eq_true, Bool.and_eq_false_iff]
    rcases eqv_self d with h | h
    · rcases eqvL_self r with h2 | h2
      · exact .inl ⟨h, h2⟩
      · exact .inr (.inr h2)
    · exact .inr (.inl h)
end
def shpN (n : Nat) (d : D) : Prop := noObj d = true ∧ PyData.canLay0 (py d) = true ∧ PyData.depth (py d) ≤ n
theorem shpN.shp {n : Nat} {d : D} (h : shpN n d) (hn : n ≤ 64) : shp d = true := by
  unfold J.shp SeqAt.shaped
  rw [h.1, h.2.1, decide_eq_true (by have := h.2.2; omega)]
  rfl
theorem shpN.mono {n m : Nat} {d : D} (h : shpN n d) (hn : n ≤ m) : shpN m d := ⟨h.1, h.2.1, Nat.le_trans h.2.2 hn⟩
theorem shpN_int {n : Nat} {i : Int} : shpN n (.int i) := ⟨rfl, rfl, Nat.zero_le _⟩
theorem shpN_non {n : Nat} : shpN n .non := ⟨rfl, rfl, Nat.zero_le _⟩
theorem shpN_bl {n : Nat} {b : Bool} : shpN n (.bl b) := ⟨rfl, rfl, Nat.zero_le _⟩
theorem shpN_all {n : Nat} : ∀ {l : List D}, (∀ d ∈ l, shpN n d) → noObjL l = true ∧ PyData.canLayAll0 (pyL l) = true ∧ PyData.depthAll (pyL l) ≤ n
  | [], _ => ⟨rfl, rfl, Nat.zero_le _⟩
  | d :: r, h => by
    have h1 := h d List.mem_cons_self
    have h2 := shpN_all (l := r) fun e he => h e (List.mem_cons_of_mem _ he)
    refine ⟨?_, ?_, ?_⟩
    · simp only [noObjL, h1.1, h2.1, Bool.and_self]
    · simp only [pyL, PyData.canLayAll0, h1.2.1, h2.2.1, Bool.and_self]
    · simp only [pyL, PyData.depthAll]
      have := h1.2.2
      have := h2.2.2
      omega
theorem shpN_tup {n : Nat} {l : List D} (h : ∀ d ∈ l, shpN n d) : shpN (n + 1) (.tup l) := by
  obtain ⟨h1, h2, h3⟩ := shpN_all h
  refine ⟨?_, ?_, ?_⟩
  · simpa [noObj] using h1
  · simpa [py, PyData.canLay0] using h2
  · simp only [py, PyData.depth]; omega
theorem shpN_lst {n : Nat} {l : List D} (h : ∀ d ∈ l, shpN n d) : shpN (n + 1) (.lst l) := by
  obtain ⟨h1, h2, h3⟩ := shpN_all h
  refine ⟨?_, ?_, ?_⟩
  · simpa [noObj] using h1
  · simpa [py, PyData.canLay0] using h2
  · simp only [py, PyData.depth]; omega
theorem shp_ints {l : List Int} : shp (.lst (l.map .int)) = true := (shpN_lst (n := 0) fun d m => by
  rw [List.mem_map] at m
  obtain ⟨i, _, rfl⟩ := m
  exact shpN_int).shp (by decide)
theorem shp_nil : shp (.lst []) = true := shp_ints (l := [])
theorem shp_int {i : Int} : shp (.int i) = true := (shpN_int (n := 0)).shp (by decide)
theorem wp2_eq {α β : Type} {r : R (α × β)} {a : α} {b : β} {P : α → β → Prop} (h : r = .ok (a, b)) (q : P a b) : wp2 r P := ⟨a, b, h, q⟩
theorem eq_of {α β : Type} {r : R (α × β)} {x : α} {y : β} (h : wp2 r fun a b => a = x ∧ b = y) : r = .ok (x, y) := by
  obtain ⟨a, b, e, rfl, rfl⟩ := h
  exact e
theorem wp2_mono {α β : Type} {r : R (α × β)} {P Q : α → β → Prop} (h : wp2 r P) (i : ∀ a b, P a b → Q a b) : wp2 r Q := by
  obtain ⟨a, b, e, hp⟩ := h
  exact ⟨a, b, e, i a b hp⟩
theorem wp_mono {α : Type} {r : R α} {P Q : α → Prop} (h : wp r P) (i : ∀ a, P a → Q a) : wp r Q := by
  obtain ⟨a, e, hp⟩ := h
  exact ⟨a, e, i a hp⟩
theorem w_evE_var {O : Or} {i : Nat} {ρ : Env} {P : Env → D → Prop} : wp2 (evE O (.var i) ρ) P = wp2 (evV i ρ) P := rfl
theorem w_evE_con {O : Or} {d : D} {ρ : Env} {P : Env → D → Prop} : wp2 (evE O (.con d) ρ) P = wp2 (.ok (ρ, d)) P := rfl
theorem w_evE_op {O : Or} {o : Bop} {a : Ex} {b : Ex} {ρ : Env} {P : Env → D → Prop} : wp2 (evE O (.op o a b) ρ) P = wp2 ((evE O a ρ).bnd fun ρ1 x => (evE O b ρ1).bnd fun ρ2 y => (opF o x y).bind fun z => .ok (ρ2, z)) P := rfl
theorem w_evE_cmp {O : Or} {o : Cop} {a : Ex} {b : Ex} {ρ : Env} {P : Env → D → Prop} : wp2 (evE O (.cmp o a b) ρ) P = wp2 ((evE O a ρ).bnd fun ρ1 x => (evE O b ρ1).bnd fun ρ2 y => (cmpF o x y).bind fun z => .ok (ρ2, z)) P := rfl
theorem w_evE_chn {O : Or} {o : Cop} {o' : Cop} {a : Ex} {b : Ex} {c : Ex} {ρ : Env} {P : Env → D → Prop} : wp2 (evE O (.chn o o' a b c) ρ) P = wp2 ((evE O a ρ).bnd fun ρ1 x => (evE O b ρ1).bnd fun ρ2 y => (cmpF o x y).bind fun z => (blF z).bind fun k => match k with | true => (evE O c ρ2).bnd fun ρ3 w => (cmpF o' y w).bind fun z => .ok (ρ3, z) | false => .ok (ρ2, .bl false)) P := by
  have e : evE O (.chn o o' a b c) ρ = (evE O a ρ).bnd fun ρ1 x => (evE O b ρ1).bnd fun ρ2 y => (cmpF o x y).bind fun z => (blF z).bind fun k => match k with | true => (evE O c ρ2).bnd fun ρ3 w => (cmpF o' y w).bind fun z => .ok (ρ3, z) | false => .ok (ρ2, .bl false) := by
    refine congrArg (R.bnd _) ?_
    funext ρ1 x
    refine congrArg (R.bnd _) ?_
    funext ρ2 y
    refine congrArg (R.bind _) ?_
    funext z
    cases z with
    | bl k => cases k <;> rfl
    | _ => rfl
  rw [e]
theorem w_evE_neg {O : Or} {a : Ex} {ρ : Env} {P : Env → D → Prop} : wp2 (evE O (.neg a) ρ) P = wp2 ((evE O a ρ).bnd fun ρ1 x => match x with
    | .int i => .ok (ρ1, .int (-i))
    | _ => .stk) P := rfl
theorem w_evE_band {O : Or} {a : Ex} {b : Ex} {ρ : Env} {P : Env → D → Prop} : wp2 (evE O (.band a b) ρ) P = wp2 ((evE O a ρ).bnd fun ρ1 x => (blF x).bind fun k => match k with | true => evE O b ρ1 | false => .ok (ρ1, .bl false)) P := by
  have e : evE O (.band a b) ρ = (evE O a ρ).bnd fun ρ1 x => (blF x).bind fun k => match k with | true => evE O b ρ1 | false => .ok (ρ1, .bl false) := by
    refine congrArg (R.bnd _) ?_
    funext ρ1 x
    cases x with
    | bl k => cases k <;> rfl
    | _ => rfl
  rw [e]
theorem w_evE_bor {O : Or} {a : Ex} {b : Ex} {ρ : Env} {P : Env → D → Prop} : wp2 (evE O (.bor a b) ρ) P = wp2 ((evE O a ρ).bnd fun ρ1 x => (blF x).bind fun k => match k with | true => .ok (ρ1, .bl true) | false => evE O b ρ1) P := by
  have e : evE O (.bor a b) ρ = (evE O a ρ).bnd fun ρ1 x => (blF x).bind fun k => match k with | true => .ok (ρ1, .bl true) | false => evE O b ρ1 := by
    refine congrArg (R.bnd _) ?_
    funext ρ1 x
    cases x with
    | bl k => cases k <;> rfl
    | _ => rfl
  rw [e]
theorem w_evE_bone {O : Or} {a : Ex} {ρ : Env} {P : Env → D → Prop} : wp2 (evE O (.bone a) ρ) P = wp2 (evE O a ρ) P := rfl
theorem w_evE_bnot {O : Or} {a : Ex} {ρ : Env} {P : Env → D → Prop} : wp2 (evE O (.bnot a) ρ) P = wp2 ((evE O a ρ).bnd fun ρ1 x => match x with
    | .bl k => .ok (ρ1, .bl (!k))
    | _ => .stk) P := rfl
theorem w_evE_ife {O : Or} {t : Tx} {a : Ex} {b : Ex} {ρ : Env} {P : Env → D → Prop} : wp2 (evE O (.ife t a b) ρ) P = wp2 ((evT O t ρ).bnd fun ρ1 k => match k with
    | true => evE O a ρ1
    | false => evE O b ρ1) P := rfl
theorem w_evE_fz {O : Or} {q : Qx} {ρ : Env} {P : Env → D → Prop} : wp2 (evE O (.fz q) ρ) P = wp2 ((evQ O q ρ).bnd fun ρ1 t => .ok (ρ1, toD t)) P := rfl
theorem w_evE_tup {O : Or} {l : As} {ρ : Env} {P : Env → D → Prop} : wp2 (evE O (.tup l) ρ) P = wp2 ((evA O l ρ).bnd fun ρ1 ds => if ds.length ≤ 1000000 then .ok (ρ1, .tup ds) else .stk) P := rfl
theorem w_evE_cb {O : Or} {f : Bf} {l : As} {ρ : Env} {P : Env → D → Prop} : wp2 (evE O (.cb f l) ρ) P = wp2 ((evA O l ρ).bnd fun ρ1 ds => (bfF f ds).bind fun z => .ok (ρ1, z)) P := rfl
theorem w_evE_cbv {O : Or} {f : Bf} {v : Vx} {ρ : Env} {P : Env → D → Prop} : wp2 (evE O (.cbv f v) ρ) P = wp2 ((evVx O v ρ).bnd fun ρ1 d => (bfF f [d]).bind fun z => .ok (ρ1, z)) P := rfl
theorem w_evE_cmpv {O : Or} {o : Cop} {a : Ex} {v : Vx} {ρ : Env} {P : Env → D → Prop} : wp2 (evE O (.cmpv o a v) ρ) P = wp2 ((evE O a ρ).bnd fun ρ1 x => (evVx O v ρ1).bnd fun ρ2 y => (cmpF o x y).bind fun z => .ok (ρ2, z)) P := rfl
theorem w_evE_cmpl {O : Or} {o : Cop} {v : Vx} {u : Ux} {ρ : Env} {P : Env → D → Prop} : wp2 (evE O (.cmpl o v u) ρ) P = wp2 ((evVx O v ρ).bnd fun ρ1 x => (R.of (ofU u ρ1)).bind fun y => (cmpF o x y).bind fun z => .ok (ρ1, z)) P := rfl
theorem w_evE_ix {O : Or} {a : Ex} {b : Ex} {ρ : Env} {P : Env → D → Prop} : wp2 (evE O (.ix a b) ρ) P = wp2 ((evE O a ρ).bnd fun ρ1 x => (evE O b ρ1).bnd fun ρ2 y => (R.of (items x)).bind fun l => match y with
    | .int i => (R.of (atI l i)).bind fun d => .ok (ρ2, d)
    | _ => .stk) P := rfl
theorem w_evE_slt {O : Or} {a : Ex} {lo : Ox} {hi : Ox} {ρ : Env} {P : Env → D → Prop} : wp2 (evE O (.slt a lo hi) ρ) P = wp2 ((evE O a ρ).bnd fun ρ1 x => (evO O lo ρ1).bnd fun ρ2 l => (evO O hi ρ2).bnd fun ρ3 u => match x with
    | .tup xs => .ok (ρ3, .tup (cutD xs l u))
    | _ => .stk) P := rfl
theorem w_evE_fld {O : Or} {a : Ex} {f : Str} {ρ : Env} {P : Env → D → Prop} : wp2 (evE O (.fld a f) ρ) P = wp2 ((evE O a ρ).bnd fun ρ1 x => match x with
    | .obj c l => (R.of (O.fx f c)).bind fun j => (R.of l[j]?).bind fun d => .ok (ρ1, d)
    | _ => .stk) P := rfl
theorem w_evE_pth {O : Or} {p : Px} {ρ : Env} {P : Env → D → Prop} : wp2 (evE O (.pth p) ρ) P = wp2 (evP O.fx p ρ) P := rfl
theorem w_evE_popAt {O : Or} {i : Nat} {e : Ex} {ρ : Env} {P : Env → D → Prop} : wp2 (evE O (.popAt i e) ρ) P = wp2 (match nth ρ i with
    | some (.lst _) => (evE O e ρ).bnd fun ρ1 d => (match nth ρ1 i, d with
      | some (.lst l), .int k => (R.of (ixN l.length k)).bind fun j => (match l[j]? with
        | some (.v x) => if k ≤ 1000000 ∧ -1000000 ≤ k then .ok (ρ1.set i (some (.lst (l.eraseIdx j))), x) else .stk
        | _ => .stk)
      | _, _ => .stk)
    | _ => .stk) P := rfl
theorem w_evE_remI {O : Or} {i : Nat} {e : Ex} {ρ : Env} {P : Env → D → Prop} : wp2 (evE O (.remI i e) ρ) P = wp2 (match nth ρ i with
    | some (.lst _) => (evE O e ρ).bnd fun ρ1 d => (match nth ρ1 i, d with
      | some (.lst l), .int k => (R.of (intsT l)).bind fun ns => if k ∈ ns then .ok (ρ1.set i (some (.lst ((ns.erase k).map fun n => .v (.int n)))), .non) else .stk
      | _, _ => .stk)
    | _ => .stk) P := rfl
theorem w_evE_isi {O : Or} {a : Ex} {t : Kt} {ρ : Env} {P : Env → D → Prop} : wp2 (evE O (.isi a t) ρ) P = wp2 ((evE O a ρ).bnd fun ρ1 d => (isiF O.kt t d).bind fun z => .ok (ρ1, z)) P := rfl
theorem w_evE_isi2 {O : Or} {a : Ex} {t : Kt} {t2 : Kt} {ρ : Env} {P : Env → D → Prop} : wp2 (evE O (.isi2 a t t2) ρ) P = wp2 ((evE O a ρ).bnd fun ρ1 d => (isi2F O.kt t t2 d).bind fun z => .ok (ρ1, z)) P := rfl
theorem w_evE_idx {O : Or} {o : Ex} {e : Ex} {ρ : Env} {P : Env → D → Prop} : wp2 (evE O (.idx o e) ρ) P = wp2 ((evE O o ρ).bnd fun ρ1 x => match x with
    | .lst l => (evE O e ρ1).bnd fun ρ2 y => (idxF l y).bind fun z => .ok (ρ2, z)
    | _ => .stk) P := rfl
theorem w_evE_cnt {O : Or} {o : Ex} {e : Ex} {ρ : Env} {P : Env → D → Prop} : wp2 (evE O (.cnt o e) ρ) P = wp2 ((evE O o ρ).bnd fun ρ1 x => match x with
    | .lst l => (evE O e ρ1).bnd fun ρ2 y => (cntF l y).bind fun z => .ok (ρ2, z)
    | _ => .stk) P := rfl
theorem w_evQ_v {O : Or} {e : Ex} {ρ : Env} {P : Env → T → Prop} : wp2 (evQ O (.v e) ρ) P = wp2 ((evE O e ρ).bnd fun ρ1 d => .ok (ρ1, .v d)) P := rfl
theorem w_evQ_dsp {O : Or} {l : Qs} {ρ : Env} {P : Env → T → Prop} : wp2 (evQ O (.dsp l) ρ) P = wp2 ((evQs O l ρ).bnd fun ρ1 ts => if ts.length ≤ 1000000 then .ok (ρ1, .lst ts) else .stk) P := rfl
theorem w_evQ_lst {O : Or} {l : As} {ρ : Env} {P : Env → T → Prop} : wp2 (evQ O (.lst l) ρ) P = wp2 ((evA O l ρ).bnd fun ρ1 ds => if ds.length ≤ 1000000 then .ok (ρ1, .lst (ds.map .v)) else .stk) P := rfl
theorem w_evQ_lc {O : Or} {it : Ix} {g : Tg} {ifs : Ts} {el : Qx} {own : List (Str × Nat)} {ρ : Env} {P : Env → T → Prop} : wp2 (evQ O (.lc it g ifs el own) ρ) P = wp2 ((evI O it ρ).bnd fun ρ1 ds => (lcJ (ownV own) (evG O.fx g) (evTs O ifs) (evQ O el) ds [] (wipeB ρ1 (ownV own))).bnd fun ρ2 acc => .ok (mrg 0 (ownV own) ρ1 ρ2, .lst acc)) P := rfl
theorem w_evQ_lc2 {O : Or} {it : Ix} {g : Tg} {ifs : Ts} {it1 : Ix} {g1 : Tg} {ifs1 : Ts} {el : Qx} {own : List (Str × Nat)} {vs1 : List Nat} {ρ : Env} {P : Env → T → Prop} : wp2 (evQ O (.lc2 it g ifs it1 g1 ifs1 el own vs1) ρ) P = wp2 ((evI O it ρ).bnd fun ρ1 ds => (lcJ2 (ownV own) (evG O.fx g) (evTs O ifs) (evI O it1) vs1 (evG O.fx g1) (evTs O ifs1) (evQ O el) ds [] (wipeB ρ1 (ownV own))).bnd fun ρ2 acc => .ok (mrg 0 (ownV own) ρ1 ρ2, .lst acc)) P := rfl
theorem w_evQ_call {O : Or} {vw : Bool} {f : Nat} {l : Av} {dd : List D} {ρ : Env} {P : Env → T → Prop} : wp2 (evQ O (.call vw f l dd) ρ) P = wp2 ((evAv O l ρ).bnd fun ρ1 ds => (O.cf f ((ds ++ dd).map .v)).bnd fun t _ => if vw = true ∧ noLt t = false then .stk else .ok (ρ1, t)) P := rfl
theorem w_evQ_callM {O : Or} {i : Nat} {f : Nat} {l : As} {dd : List D} {ρ : Env} {P : Env → T → Prop} : wp2 (evQ O (.callM i f l dd) ρ) P = wp2 (match nth ρ i with
    | some _ => (evA O l ρ).bnd fun ρ1 ds => (R.of (nth ρ1 i)).bind fun t => (O.cf f (t :: (ds ++ dd).map .v)).bnd fun r us => (match us with
      | some t' :: _ => .ok (ρ1.set i (some t'), r)
      | _ => .stk)
    | none => .stk) P := rfl
theorem w_evQ_make {O : Or} {vw : Bool} {c : Nat} {f : Nat} {l : Av} {dd : List D} {ρ : Env} {P : Env → T → Prop} : wp2 (evQ O (.make vw c f l dd) ρ) P = wp2 ((evAv O l ρ).bnd fun ρ1 ds => (O.cf f (.ins c [] :: (ds ++ dd).map .v)).bnd fun r us => match r, us with
    | .v .non, some t' :: _ => if vw = true ∧ noLt t' = false then .stk else .ok (ρ1, t')
    | _, _ => .stk) P := rfl
theorem w_evQ_list {O : Or} {l : As} {ρ : Env} {P : Env → T → Prop} : wp2 (evQ O (.list l) ρ) P = wp2 ((evA O l ρ).bnd fun ρ1 ds => match ds with
    | [d] => (R.of (items d)).bind fun l => .ok (ρ1, .lst (l.map .v))
    | _ => .stk) P := rfl
theorem w_evQ_lrng {O : Or} {e : Ex} {ρ : Env} {P : Env → T → Prop} : wp2 (evQ O (.lrng e) ρ) P = wp2 ((evE O e ρ).bnd fun ρ1 d => match d with
    | .int j => if j ≤ 1000000 ∧ -1000000 ≤ j then .ok (ρ1, .lst ((intsD 0 j).map .v)) else .stk
    | _ => .stk) P := rfl
theorem w_evQ_sll {O : Or} {a : Ex} {lo : Ox} {hi : Ox} {ρ : Env} {P : Env → T → Prop} : wp2 (evQ O (.sll a lo hi) ρ) P = wp2 ((evE O a ρ).bnd fun ρ1 x => (evO O lo ρ1).bnd fun ρ2 l => (evO O hi ρ2).bnd fun ρ3 u => match x with
    | .lst xs => .ok (ρ3, .lst ((cutD xs l u).map .v))
    | .scr ns => .ok (ρ3, .lst ((cutD (ns.map .int) l u).map .v))
    | _ => .stk) P := rfl
theorem w_evQ_cat {O : Or} {a : Ex} {b : Ex} {ρ : Env} {P : Env → T → Prop} : wp2 (evQ O (.cat a b) ρ) P = wp2 ((evE O a ρ).bnd fun ρ1 x => (evE O b ρ1).bnd fun ρ2 y => match x, y with
    | .lst l, .lst m => if l.length + m.length ≤ 1000000 then .ok (ρ2, .lst ((l ++ m).map .v)) else .stk
    | _, _ => .stk) P := rfl
theorem w_evQ_rep {O : Or} {a : Ex} {b : Ex} {ρ : Env} {P : Env → T → Prop} : wp2 (evQ O (.rep a b) ρ) P = wp2 ((evE O a ρ).bnd fun ρ1 x => (evE O b ρ1).bnd fun ρ2 y => match x, y with
    | .lst l, .int k => if k ≤ 1000000 ∧ -1000000 ≤ k ∧ l.length * k.toNat ≤ 1000000 then .ok (ρ2, .lst ((List.replicate k.toNat l).flatten.map .v)) else .stk
    | _, _ => .stk) P := rfl
theorem w_evQ_callK {O : Or} {f : Nat} {l : As} {kw : As} {pm : List Pm} {dd : List D} {ρ : Env} {P : Env → T → Prop} : wp2 (evQ O (.callK f l kw pm dd) ρ) P = wp2 ((evA O l ρ).bnd fun ρ1 ds => (evA O kw ρ1).bnd fun ρ2 zs => (O.cf f ((arr pm dd (ds ++ zs)).map .v)).bnd fun t _ => .ok (ρ2, t)) P := rfl
theorem w_evQ_makeK {O : Or} {c : Nat} {f : Nat} {l : As} {kw : As} {pm : List Pm} {dd : List D} {ρ : Env} {P : Env → T → Prop} : wp2 (evQ O (.makeK c f l kw pm dd) ρ) P = wp2 ((evA O l ρ).bnd fun ρ1 ds => (evA O kw ρ1).bnd fun ρ2 zs => (O.cf f (.ins c [] :: (arr pm dd (ds ++ zs)).map .v)).bnd fun r us => match r, us with
    | .v .non, some t' :: _ => .ok (ρ2, t')
    | _, _ => .stk) P := rfl
theorem w_evQ_lrng2 {O : Or} {a : Ex} {b : Ex} {ρ : Env} {P : Env → T → Prop} : wp2 (evQ O (.lrng2 a b) ρ) P = wp2 ((evE O a ρ).bnd fun ρ1 x => (evE O b ρ1).bnd fun ρ2 y => match x, y with
    | .int i, .int j => if j ≤ 1000000 ∧ -1000000 ≤ j ∧ i ≤ 1000000 ∧ -1000000 ≤ i then .ok (ρ2, .lst ((intsD i j).map .v)) else .stk
    | _, _ => .stk) P := rfl
theorem w_evT_cmp {O : Or} {o : Cop} {a : Ex} {b : Ex} {ρ : Env} {P : Env → Bool → Prop} : wp2 (evT O (.cmp o a b) ρ) P = wp2 ((evE O a ρ).bnd fun ρ1 x => (evE O b ρ1).bnd fun ρ2 y => (cmpF o x y).bind fun z => match z with
    | .bl k => .ok (ρ2, k)
    | _ => .stk) P := rfl
theorem w_evT_chn {O : Or} {o : Cop} {o' : Cop} {a : Ex} {b : Ex} {c : Ex} {ρ : Env} {P : Env → Bool → Prop} : wp2 (evT O (.chn o o' a b c) ρ) P = wp2 ((evE O a ρ).bnd fun ρ1 x => (evE O b ρ1).bnd fun ρ2 y => (cmpF o x y).bind fun z => (blF z).bind fun k => match k with | true => (evE O c ρ2).bnd fun ρ3 w => (cmpF o' y w).bind fun z => (blF z).bind fun k => .ok (ρ3, k) | false => .ok (ρ2, false)) P := by
  have e : evT O (.chn o o' a b c) ρ = (evE O a ρ).bnd fun ρ1 x => (evE O b ρ1).bnd fun ρ2 y => (cmpF o x y).bind fun z => (blF z).bind fun k => match k with | true => (evE O c ρ2).bnd fun ρ3 w => (cmpF o' y w).bind fun z => (blF z).bind fun k => .ok (ρ3, k) | false => .ok (ρ2, false) := by
    refine congrArg (R.bnd _) ?_
    funext ρ1 x
    refine congrArg (R.bnd _) ?_
    funext ρ2 y
    refine congrArg (R.bind _) ?_
    funext z
    cases z with
    | bl k =>
      cases k with
      | false => rfl
      | true =>
        refine congrArg (R.bnd _) ?_
        funext ρ3 w
        refine congrArg (R.bind _) ?_
        funext z
        cases z <;> rfl
    | _ => rfl
  rw [e]
theorem w_evT_val {O : Or} {e : Ex} {ρ : Env} {P : Env → Bool → Prop} : wp2 (evT O (.val e) ρ) P = wp2 ((evE O e ρ).bnd fun ρ1 d => match d with
    | .bl k => .ok (ρ1, k)
    | _ => .stk) P := rfl
theorem w_evT_not {O : Or} {t : Tx} {ρ : Env} {P : Env → Bool → Prop} : wp2 (evT O (.not t) ρ) P = wp2 ((evT O t ρ).bnd fun ρ1 k => .ok (ρ1, !k)) P := rfl
theorem w_evT_bw {O : Or} {w : Wx} {ρ : Env} {P : Env → Bool → Prop} : wp2 (evT O (.bw w) ρ) P = wp2 (evW O w ρ) P := rfl
theorem w_evT_cmpv {O : Or} {o : Cop} {a : Ex} {v : Vx} {ρ : Env} {P : Env → Bool → Prop} : wp2 (evT O (.cmpv o a v) ρ) P = wp2 ((evE O a ρ).bnd fun ρ1 x => (evVx O v ρ1).bnd fun ρ2 y => (cmpF o x y).bind fun z => match z with
    | .bl k => .ok (ρ2, k)
    | _ => .stk) P := rfl
theorem w_evT_cmpl {O : Or} {o : Cop} {v : Vx} {u : Ux} {ρ : Env} {P : Env → Bool → Prop} : wp2 (evT O (.cmpl o v u) ρ) P = wp2 ((evVx O v ρ).bnd fun ρ1 x => (R.of (ofU u ρ1)).bind fun y => (cmpF o x y).bind fun z => match z with
    | .bl k => .ok (ρ1, k)
    | _ => .stk) P := rfl
theorem w_evW_and1 {O : Or} {t : Tx} {ρ : Env} {P : Env → Bool → Prop} : wp2 (evW O (.and1 t) ρ) P = wp2 (evT O t ρ) P := rfl
theorem w_evW_or1 {O : Or} {t : Tx} {ρ : Env} {P : Env → Bool → Prop} : wp2 (evW O (.or1 t) ρ) P = wp2 (evT O t ρ) P := rfl
theorem w_evW_and {O : Or} {t : Tx} {w : Wx} {ρ : Env} {P : Env → Bool → Prop} : wp2 (evW O (.and t w) ρ) P = wp2 ((evT O t ρ).bnd fun ρ1 k => match k with
    | true => evW O w ρ1
    | false => .ok (ρ1, false)) P := rfl
theorem w_evW_or {O : Or} {t : Tx} {w : Wx} {ρ : Env} {P : Env → Bool → Prop} : wp2 (evW O (.or t w) ρ) P = wp2 ((evT O t ρ).bnd fun ρ1 k => match k with
    | true => .ok (ρ1, true)
    | false => evW O w ρ1) P := rfl
theorem w_evO_no {O : Or}  {ρ : Env} {P : Env → Option Int → Prop} : wp2 (evO O (.no) ρ) P = wp2 (.ok (ρ, none)) P := rfl
theorem w_evO_so {O : Or} {e : Ex} {ρ : Env} {P : Env → Option Int → Prop} : wp2 (evO O (.so e) ρ) P = wp2 ((evE O e ρ).bnd fun ρ1 d => match d with
    | .int i => .ok (ρ1, some i)
    | _ => .stk) P := rfl
theorem w_evA_nil {O : Or}  {ρ : Env} {P : Env → List D → Prop} : wp2 (evA O (.nil) ρ) P = wp2 (.ok (ρ, [])) P := rfl
theorem w_evA_cons {O : Or} {e : Ex} {r : As} {ρ : Env} {P : Env → List D → Prop} : wp2 (evA O (.cons e r) ρ) P = wp2 ((evE O e ρ).bnd fun ρ1 d => (evA O r ρ1).bnd fun ρ2 l => .ok (ρ2, d :: l)) P := rfl
theorem w_evA_star {O : Or} {e : Ex} {r : As} {ρ : Env} {P : Env → List D → Prop} : wp2 (evA O (.star e r) ρ) P = wp2 ((evE O e ρ).bnd fun ρ1 d => (R.of (items d)).bind fun l1 => (evA O r ρ1).bnd fun ρ2 l => .ok (ρ2, l1 ++ l)) P := rfl
theorem w_evAv_nil {O : Or}  {ρ : Env} {P : Env → List D → Prop} : wp2 (evAv O (.nil) ρ) P = wp2 (.ok (ρ, [])) P := rfl
theorem w_evAv_cons {O : Or} {e : Ex} {r : Av} {ρ : Env} {P : Env → List D → Prop} : wp2 (evAv O (.cons e r) ρ) P = wp2 ((evE O e ρ).bnd fun ρ1 d => (evAv O r ρ1).bnd fun ρ2 l => .ok (ρ2, d :: l)) P := rfl
theorem w_evAv_vw {O : Or} {i : Nat} {r : Av} {ρ : Env} {P : Env → List D → Prop} : wp2 (evAv O (.vw i r) ρ) P = wp2 (match nth ρ i with
    | some _ => (evAv O r ρ).bnd fun ρ2 l => (R.of (nth ρ2 i)).bind fun t => if onlyL t then .ok (ρ2, toD t :: l) else .stk
    | none => .stk) P := rfl
theorem w_evQs_nil {O : Or}  {ρ : Env} {P : Env → List T → Prop} : wp2 (evQs O (.nil) ρ) P = wp2 (.ok (ρ, [])) P := rfl
theorem w_evQs_cons {O : Or} {q : Qx} {r : Qs} {ρ : Env} {P : Env → List T → Prop} : wp2 (evQs O (.cons q r) ρ) P = wp2 ((evQ O q ρ).bnd fun ρ1 t => (evQs O r ρ1).bnd fun ρ2 l => .ok (ρ2, t :: l)) P := rfl
theorem w_evVx_e {O : Or} {e : Ex} {ρ : Env} {P : Env → D → Prop} : wp2 (evVx O (.e e) ρ) P = wp2 (evE O e ρ) P := rfl
theorem w_evVx_p {O : Or} {p : Px} {ρ : Env} {P : Env → D → Prop} : wp2 (evVx O (.p p) ρ) P = wp2 (pkP O.fx p ρ) P := rfl
theorem w_evI_sq {O : Or} {e : Ex} {ρ : Env} {P : Env → List D → Prop} : wp2 (evI O (.sq e) ρ) P = wp2 ((evE O e ρ).bnd fun ρ1 d => (R.of (items d)).bind fun l => .ok (ρ1, l)) P := rfl
theorem w_evI_zip {O : Or} {l : As} {ρ : Env} {P : Env → List D → Prop} : wp2 (evI O (.zip l) ρ) P = wp2 ((evA O l ρ).bnd fun ρ1 ds => match ds with
    | [x, y] => (R.of (items x)).bind fun l => (R.of (items y)).bind fun m => .ok (ρ1, zipD l m)
    | _ => .stk) P := rfl
theorem w_evI_zip3 {O : Or} {l : As} {ρ : Env} {P : Env → List D → Prop} : wp2 (evI O (.zip3 l) ρ) P = wp2 ((evA O l ρ).bnd fun ρ1 ds => match ds with
    | [x, y, z] => (R.of (items x)).bind fun l => (R.of (items y)).bind fun m => (R.of (items z)).bind fun n => .ok (ρ1, zipD3 l m n)
    | _ => .stk) P := rfl
theorem w_evI_enum {O : Or} {l : As} {ρ : Env} {P : Env → List D → Prop} : wp2 (evI O (.enum l) ρ) P = wp2 ((evA O l ρ).bnd fun ρ1 ds => match ds with
    | [x] => (R.of (items x)).bind fun l => .ok (ρ1, enumD l)
    | _ => .stk) P := rfl
theorem w_evI_rng1 {O : Or} {l : As} {ρ : Env} {P : Env → List D → Prop} : wp2 (evI O (.rng1 l) ρ) P = wp2 ((evA O l ρ).bnd fun ρ1 ds => match ds with
    | [.int j] => if j ≤ 1000000 ∧ -1000000 ≤ j then .ok (ρ1, intsD 0 j) else .stk
    | _ => .stk) P := rfl
theorem w_evI_rng2 {O : Or} {l : As} {ρ : Env} {P : Env → List D → Prop} : wp2 (evI O (.rng2 l) ρ) P = wp2 ((evA O l ρ).bnd fun ρ1 ds => match ds with
    | [.int i, .int j] => if j ≤ 1000000 ∧ -1000000 ≤ j ∧ i ≤ 1000000 ∧ -1000000 ≤ i then .ok (ρ1, intsD i j) else .stk
    | _ => .stk) P := rfl
theorem w_evTs_nil {O : Or}  {ρ : Env} {P : Env → Bool → Prop} : wp2 (evTs O (.nil) ρ) P = wp2 (.ok (ρ, true)) P := rfl
theorem w_evTs_one {O : Or} {t : Tx} {ρ : Env} {P : Env → Bool → Prop} : wp2 (evTs O (.one t) ρ) P = wp2 (evT O t ρ) P := rfl
theorem w_evS_set {O : Or} {i : Nat} {e : Ex} {ρ : Env} {P : Flow → Prop} : wp (evS O (.set i e) ρ) P = wp ((evE O e ρ).bnd fun ρ1 d => .ok (.nx (ρ1.set i (some (.v d))))) P := rfl
theorem w_evS_setq {O : Or} {i : Nat} {q : Qx} {ρ : Env} {P : Flow → Prop} : wp (evS O (.setq i q) ρ) P = wp ((evQ O q ρ).bnd fun ρ1 t => .ok (.nx (ρ1.set i (some t)))) P := rfl
theorem w_evS_setc {O : Or} {i : Nat} {q : Qx} {ρ : Env} {P : Flow → Prop} : wp (evS O (.setc i q) ρ) P = wp ((evQ O q ρ).bnd fun ρ1 t => .ok (.nx (ρ1.set i (some t)))) P := rfl
theorem w_evS_asg {O : Or} {g : Tg} {e : Ex} {ρ : Env} {P : Flow → Prop} : wp (evS O (.asg g e) ρ) P = wp ((evE O e ρ).bnd fun ρ1 d => (evG O.fx g d ρ1).bind fun ρ2 => .ok (.nx ρ2)) P := rfl
theorem w_evS_ret {O : Or} {e : Ex} {ρ : Env} {P : Flow → Prop} : wp (evS O (.ret e) ρ) P = wp ((evE O e ρ).bnd fun ρ1 d => .ok (.rt ρ1 (.v d))) P := rfl
theorem w_evS_retq {O : Or} {q : Qx} {ρ : Env} {P : Flow → Prop} : wp (evS O (.retq q) ρ) P = wp ((evQ O q ρ).bnd fun ρ1 t => .ok (.rt ρ1 t)) P := rfl
theorem w_evS_retN {O : Or}  {ρ : Env} {P : Flow → Prop} : wp (evS O (.retN) ρ) P = wp (.ok (.rt ρ (.v .non))) P := rfl
theorem w_evS_exp {O : Or} {e : Ex} {ρ : Env} {P : Flow → Prop} : wp (evS O (.exp e) ρ) P = wp ((evE O e ρ).bnd fun ρ1 _ => .ok (.nx ρ1)) P := rfl
theorem w_evS_ite {O : Or} {t : Tx} {a : Sts} {b : Sts} {ρ : Env} {P : Flow → Prop} : wp (evS O (.ite t a b) ρ) P = wp ((evT O t ρ).bnd fun ρ1 k => match k with
    | true => evSs O a ρ1
    | false => evSs O b ρ1) P := rfl
theorem w_evS_for {O : Or} {it : Ix} {g : Tg} {b : Sts} {ρ : Env} {P : Flow → Prop} : wp (evS O (.for it g b) ρ) P = wp ((evI O it ρ).bnd fun ρ1 ds => forJ (evG O.fx g) (evSs O b) ds ρ1) P := rfl
theorem w_evS_wh {O : Or} {t : Tx} {b : Sts} {ρ : Env} {P : Flow → Prop} : wp (evS O (.wh t b) ρ) P = wp (whileJ (evT O t) (evSs O b) O.fu ρ) P := rfl
theorem w_evS_pass {O : Or}  {ρ : Env} {P : Flow → Prop} : wp (evS O (.pass) ρ) P = wp (.ok (.nx ρ)) P := rfl
theorem w_evS_brk {O : Or}  {ρ : Env} {P : Flow → Prop} : wp (evS O (.brk) ρ) P = wp (.ok (.bk ρ)) P := rfl
theorem w_evS_cnt {O : Or}  {ρ : Env} {P : Flow → Prop} : wp (evS O (.cnt) ρ) P = wp (.ok (.ct ρ)) P := rfl
theorem w_evS_never {O : Or}  {ρ : Env} {P : Flow → Prop} : wp (evS O (.never) ρ) P = wp (.stk) P := rfl
theorem w_evS_app {O : Or} {i : Nat} {q : Qx} {ρ : Env} {P : Flow → Prop} : wp (evS O (.app i q) ρ) P = wp (match nth ρ i with
    | some (.lst _) => (evQ O q ρ).bnd fun ρ1 t => (match nth ρ1 i with
      | some (.lst l) => if l.length < 1000000 then .ok (.nx (ρ1.set i (some (.lst (l ++ [t]))))) else .stk
      | _ => .stk)
    | _ => .stk) P := rfl
theorem w_evS_appP {O : Or} {p : Px} {u : Ux} {ρ : Env} {P : Flow → Prop} : wp (evS O (.appP p u) ρ) P = wp ((R.of (nth ρ (rootP p))).bind fun t => (R.of (ofP O.fx p t ρ)).bind fun js => match getP t js, ofU u ρ with
    | some (.lst l), some d => if l.length < 1000000 then .ok (.nx (ρ.set (rootP p) (some (setP t js (.lst (l ++ [.v d])))))) else .stk
    | _, _ => .stk) P := rfl
theorem w_evS_ext {O : Or} {i : Nat} {e : Ex} {ρ : Env} {P : Flow → Prop} : wp (evS O (.ext i e) ρ) P = wp (match nth ρ i with
    | some (.lst _) => (evE O e ρ).bnd fun ρ1 d => (match nth ρ1 i, itx d with
      | some (.lst l), some m => if l.length + m.length ≤ 1000000 then .ok (.nx (ρ1.set i (some (.lst (l ++ m.map .v))))) else .stk
      | _, _ => .stk)
    | _ => .stk) P := rfl
theorem w_evS_fld {O : Or} {p : Px} {f : Str} {q : Qx} {ρ : Env} {P : Flow → Prop} : wp (evS O (.fld p f q) ρ) P = wp ((evQ O q ρ).bnd fun ρ1 t1 => (R.of (nth ρ1 (rootP p))).bind fun t => (R.of (ofP O.fx p t ρ1)).bind fun js => match getP t js with
    | some (.ins c l) => (R.of (O.fx f c)).bind fun j => (R.of (putAt l j t1)).bind fun l' => if l.length < 900 then .ok (.nx (ρ1.set (rootP p) (some (setP t js (.ins c l'))))) else .stk
    | _ => .stk) P := rfl
theorem w_evS_par {O : Or} {i : Nat} {j : Nat} {l : Qs} {ρ : Env} {P : Flow → Prop} : wp (evS O (.par i j l) ρ) P = wp ((evQs O l ρ).bnd fun ρ1 ts => match ts with
    | [x, y] => .ok (.nx ((ρ1.set i (some x)).set j (some y)))
    | _ => .stk) P := rfl
theorem w_evS_par3 {O : Or} {i : Nat} {j : Nat} {k : Nat} {l : Qs} {ρ : Env} {P : Flow → Prop} : wp (evS O (.par3 i j k l) ρ) P = wp ((evQs O l ρ).bnd fun ρ1 ts => match ts with
    | [x, y, z] => .ok (.nx (((ρ1.set i (some x)).set j (some y)).set k (some z)))
    | _ => .stk) P := rfl
theorem w_evS_unp {O : Or} {is : List Nat} {l : Qs} {ρ : Env} {P : Flow → Prop} : wp (evS O (.unp is l) ρ) P = wp ((evQs O l ρ).bnd fun ρ1 ts => if ts.length ≤ 100 then (R.of (setAll is ts ρ1)).bind fun ρ2 => .ok (.nx ρ2) else .stk) P := rfl
theorem w_evSs_nil {O : Or}  {ρ : Env} {P : Flow → Prop} : wp (evSs O (.nil) ρ) P = wp (.ok (.nx ρ)) P := rfl
theorem w_evSs_cons {O : Or} {s : St} {r : Sts} {ρ : Env} {P : Flow → Prop} : wp (evSs O (.cons s r) ρ) P = wp ((evS O s ρ).bind fun f => match f with
    | .nx ρ1 => evSs O r ρ1
    | f => .ok f) P := rfl
theorem w_evG_nm {fx : Str → Nat → Option Nat} {i : Nat} {d : D} {ρ : Env} {P : Env → Prop} : wp (evG fx (.nm i) d ρ) P = wp (.ok (ρ.set i (some (.v d)))) P := rfl
theorem w_evG_tup {fx : Str → Nat → Option Nat} {l : Tgs} {d : D} {ρ : Env} {P : Env → Prop} : wp (evG fx (.tup l) d ρ) P = wp (match d with
    | .tup ds => evGs fx l ds ρ
    | _ => .stk) P := rfl
theorem w_evG_set {fx : Str → Nat → Option Nat} {p : Px} {u : Ux} {d : D} {ρ : Env} {P : Env → Prop} : wp (evG fx (.set p u) d ρ) P = wp ((R.of (nth ρ (rootP p))).bind fun t => (R.of (ofP fx p t ρ)).bind fun js => match getP t js, ofU u ρ with
    | some (.lst l), some (.int n) => (R.of (ixN l.length n)).bind fun j => .ok (ρ.set (rootP p) (some (setP t js (.lst (l.set j (.v d))))))
    | _, _ => .stk) P := rfl
theorem w_evG_fld {fx : Str → Nat → Option Nat} {p : Px} {f : Str} {d : D} {ρ : Env} {P : Env → Prop} : wp (evG fx (.fld p f) d ρ) P = wp ((R.of (nth ρ (rootP p))).bind fun t => (R.of (ofP fx p t ρ)).bind fun js => match getP t js with
    | some (.ins c l) => (R.of (fx f c)).bind fun j => (R.of (putAt l j (.v d))).bind fun l' => if l.length < 900 then .ok (ρ.set (rootP p) (some (setP t js (.ins c l')))) else .stk
    | _ => .stk) P := rfl
theorem w_evGs_nil {fx : Str → Nat → Option Nat} {ρ : Env} {P : Env → Prop} : wp (evGs fx .nil [] ρ) P = P ρ := wp_ok
theorem w_evGs_cons {fx : Str → Nat → Option Nat} {g : Tg} {r : Tgs} {d : D} {ds : List D} {ρ : Env} {P : Env → Prop} : wp (evGs fx (.cons g r) (d :: ds) ρ) P = wp ((evG fx g d ρ).bind fun ρ1 => evGs fx r ds ρ1) P := rfl
end J

set_option Elab.async false
set_option linter.all false
set_option maxRecDepth 100000
set_option maxHeartbeats 4000000
namespace J.K03
open PySem PySem.Spec PyProof.Rows L2 J
def topS (i : Nat) : Stmt := PySem.Challenge.pw_keepsenough_k03_drops_by_known_rules.main.body.getD i (.Pass ⟨0, 0, 0, 0⟩)
abbrev s_score_of : Stmt := topS 21
abbrev s_scored_spot : Stmt := topS 64
abbrev s_same_spots : Stmt := topS 63
abbrev s_spot_by : Stmt := topS 65
abbrev s_dropped : Stmt := topS 66
abbrev s_kept_by : Stmt := topS 67
abbrev s_fixed : Stmt := topS 15
abbrev s_is_integer : Stmt := topS 10
abbrev s_is_listed : Stmt := topS 12
abbrev s_is_row : Stmt := topS 13
abbrev s_is_bounded : Stmt := topS 19
abbrev s_is_list : Stmt := topS 40
abbrev s_is_shelf : Stmt := topS 41
abbrev s_need_shelf : Stmt := topS 42
abbrev s_need_policy : Stmt := topS 62
abbrev s_need_net : Stmt := topS 37
abbrev s_shelf_by : Stmt := topS 68
abbrev s_is_within : Stmt := topS 11
abbrev s_are_numbers : Stmt := topS 61
abbrev s_is_one_of : Stmt := topS 14
abbrev s_is_rule : Stmt := topS 60
abbrev s_is_layer_rule : Stmt := topS 59
abbrev s_Policy_init : Stmt := inClass (topS 58) 0
abbrev s__law_left : Stmt := topS 74
abbrev s__law_by_scores : Stmt := topS 77
abbrev s__law_fall_late : Stmt := topS 76
abbrev s__law_fall : Stmt := topS 75
abbrev s__law_draw : Stmt := topS 71
abbrev s__law_mixed : Stmt := topS 72
abbrev s_are_rows : Stmt := topS 33
abbrev s_are_layers : Stmt := topS 35
abbrev s_are_letter_rows : Stmt := topS 34
abbrev s_Net_init : Stmt := inClass (topS 36) 0
abbrev s_is_table : Stmt := topS 27
abbrev s_are_heads : Stmt := topS 26
abbrev s_Layer_init : Stmt := inClass (topS 28) 0
abbrev s_Head_init : Stmt := inClass (topS 20) 0
abbrev s__law_net_of : Stmt := topS 73
abbrev s__law_well : Stmt := topS 70
abbrev s_law : Stmt := topS 78
theorem sc_score_of : FnScope ["head", "row", "other", "mine", "line", "told", "its"] ["head", "row", "other"] (defScope s_score_of) := ⟨rfl, rfl, rfl, by decide +kernel, rfl, by decide +kernel, by decide +kernel⟩
theorem sc_scored_spot : FnScope ["head", "rows", "is_least", "scores", "row"] ["head", "rows", "is_least"] (defScope s_scored_spot) := ⟨rfl, rfl, rfl, by decide +kernel, rfl, by decide +kernel, by decide +kernel⟩
theorem sc_same_spots : FnScope ["rows", "at", "row"] ["rows"] (defScope s_same_spots) := ⟨rfl, rfl, rfl, by decide +kernel, rfl, by decide +kernel, by decide +kernel⟩
theorem sc_spot_by : FnScope ["layer", "rule", "rows", "word", "what", "some"] ["layer", "rule", "rows"] (defScope s_spot_by) := ⟨rfl, rfl, rfl, by decide +kernel, rfl, by decide +kernel, by decide +kernel⟩
theorem sc_dropped : FnScope ["layer", "told", "rows", "most", "rules", "left", "spots", "spot", "rule"] ["layer", "told", "rows"] (defScope s_dropped) := ⟨rfl, rfl, rfl, by decide +kernel, rfl, by decide +kernel, by decide +kernel⟩
theorem sc_kept_by : FnScope ["net", "policy", "grown", "found", "layer", "told", "rows"] ["net", "policy", "grown"] (defScope s_kept_by) := ⟨rfl, rfl, rfl, by decide +kernel, rfl, by decide +kernel, by decide +kernel⟩
theorem sc_fixed : FnScope ["value", "one"] ["value"] (defScope s_fixed) := ⟨rfl, rfl, rfl, by decide +kernel, rfl, by decide +kernel, by decide +kernel⟩
theorem sc_is_integer : FnScope ["value"] ["value"] (defScope s_is_integer) := ⟨rfl, rfl, rfl, by decide +kernel, rfl, by decide +kernel, by decide +kernel⟩
theorem sc_is_listed : FnScope ["value"] ["value"] (defScope s_is_listed) := ⟨rfl, rfl, rfl, by decide +kernel, rfl, by decide +kernel, by decide +kernel⟩
theorem sc_is_row : FnScope ["value", "many"] ["value", "many"] (defScope s_is_row) := ⟨rfl, rfl, rfl, by decide +kernel, rfl, by decide +kernel, by decide +kernel⟩
theorem sc_is_bounded : FnScope ["value", "length", "most", "one"] ["value", "length", "most"] (defScope s_is_bounded) := ⟨rfl, rfl, rfl, by decide +kernel, rfl, by decide +kernel, by decide +kernel⟩
theorem sc_is_list : FnScope ["layer", "length", "value", "row"] ["layer", "length", "value"] (defScope s_is_list) := ⟨rfl, rfl, rfl, by decide +kernel, rfl, by decide +kernel, by decide +kernel⟩
theorem sc_is_shelf : FnScope ["net", "value", "layer", "length", "one"] ["net", "value"] (defScope s_is_shelf) := ⟨rfl, rfl, rfl, by decide +kernel, rfl, by decide +kernel, by decide +kernel⟩
theorem sc_need_shelf : FnScope ["net", "value", "part"] ["net", "value", "part"] (defScope s_need_shelf) := ⟨rfl, rfl, rfl, by decide +kernel, rfl, by decide +kernel, by decide +kernel⟩
theorem sc_need_policy : FnScope ["net", "value", "most", "rules", "layer", "word", "what"] ["net", "value"] (defScope s_need_policy) := ⟨rfl, rfl, rfl, by decide +kernel, rfl, by decide +kernel, by decide +kernel⟩
theorem sc_need_net : FnScope ["value"] ["value"] (defScope s_need_net) := ⟨rfl, rfl, rfl, by decide +kernel, rfl, by decide +kernel, by decide +kernel⟩
theorem sc_shelf_by : FnScope ["net", "policy", "shelf"] ["net", "policy", "shelf"] (defScope s_shelf_by) := ⟨rfl, rfl, rfl, by decide +kernel, rfl, by decide +kernel, by decide +kernel⟩
theorem sc_is_within : FnScope ["value", "least", "most"] ["value", "least", "most"] (defScope s_is_within) := ⟨rfl, rfl, rfl, by decide +kernel, rfl, by decide +kernel, by decide +kernel⟩
theorem sc_are_numbers : FnScope ["value", "one"] ["value"] (defScope s_are_numbers) := ⟨rfl, rfl, rfl, by decide +kernel, rfl, by decide +kernel, by decide +kernel⟩
theorem sc_is_one_of : FnScope ["value", "some"] ["value", "some"] (defScope s_is_one_of) := ⟨rfl, rfl, rfl, by decide +kernel, rfl, by decide +kernel, by decide +kernel⟩
theorem sc_is_rule : FnScope ["value"] ["value"] (defScope s_is_rule) := ⟨rfl, rfl, rfl, by decide +kernel, rfl, by decide +kernel, by decide +kernel⟩
theorem sc_is_layer_rule : FnScope ["value", "one"] ["value"] (defScope s_is_layer_rule) := ⟨rfl, rfl, rfl, by decide +kernel, rfl, by decide +kernel, by decide +kernel⟩
theorem sc_Policy_init : FnScope ["self", "layers", "one"] ["self", "layers"] (defScope s_Policy_init) := ⟨rfl, rfl, rfl, by decide +kernel, rfl, by decide +kernel, by decide +kernel⟩
theorem sc__law_left : FnScope ["net", "most", "rules", "numbers", "row", "number"] ["net", "most", "rules", "numbers"] (defScope s__law_left) := ⟨rfl, rfl, rfl, by decide +kernel, rfl, by decide +kernel, by decide +kernel⟩
theorem sc__law_by_scores : FnScope ["numbers", "most", "is_least", "left"] ["numbers", "most", "is_least"] (defScope s__law_by_scores) := ⟨rfl, rfl, rfl, by decide +kernel, rfl, by decide +kernel, by decide +kernel⟩
theorem sc__law_fall_late : FnScope ["numbers", "most", "s", "left"] ["numbers", "most", "s"] (defScope s__law_fall_late) := ⟨rfl, rfl, rfl, by decide +kernel, rfl, by decide +kernel, by decide +kernel⟩
theorem sc__law_fall : FnScope ["numbers", "most", "s", "left"] ["numbers", "most", "s"] (defScope s__law_fall) := ⟨rfl, rfl, rfl, by decide +kernel, rfl, by decide +kernel, by decide +kernel⟩
theorem sc__law_draw : FnScope ["well", "many", "digit", "at", "ints", "cell", "mixed"] ["well", "many"] (defScope s__law_draw) := ⟨rfl, rfl, rfl, by decide +kernel, rfl, by decide +kernel, by decide +kernel⟩
theorem sc__law_mixed : FnScope ["well", "some", "left", "found"] ["well", "some"] (defScope s__law_mixed) := ⟨rfl, rfl, rfl, by decide +kernel, rfl, by decide +kernel, by decide +kernel⟩
theorem sc_are_rows : FnScope ["value", "many", "length", "row"] ["value", "many", "length"] (defScope s_are_rows) := ⟨rfl, rfl, rfl, by decide +kernel, rfl, by decide +kernel, by decide +kernel⟩
theorem sc_are_layers : FnScope ["value", "length", "layer"] ["value", "length"] (defScope s_are_layers) := ⟨rfl, rfl, rfl, by decide +kernel, rfl, by decide +kernel, by decide +kernel⟩
theorem sc_are_letter_rows : FnScope ["value"] ["value"] (defScope s_are_letter_rows) := ⟨rfl, rfl, rfl, by decide +kernel, rfl, by decide +kernel, by decide +kernel⟩
theorem sc_Net_init : FnScope ["self", "rows", "layers", "worths", "last", "row", "layer"] ["self", "rows", "layers", "worths"] (defScope s_Net_init) := ⟨rfl, rfl, rfl, by decide +kernel, rfl, by decide +kernel, by decide +kernel⟩
theorem sc_is_table : FnScope ["value", "heads", "wide", "row"] ["value", "heads"] (defScope s_is_table) := ⟨rfl, rfl, rfl, by decide +kernel, rfl, by decide +kernel, by decide +kernel⟩
theorem sc_are_heads : FnScope ["value", "head"] ["value"] (defScope s_are_heads) := ⟨rfl, rfl, rfl, by decide +kernel, rfl, by decide +kernel, by decide +kernel⟩
theorem sc_Layer_init : FnScope ["self", "heads", "table", "shift", "cap", "row"] ["self", "heads", "table", "shift", "cap"] (defScope s_Layer_init) := ⟨rfl, rfl, rfl, by decide +kernel, rfl, by decide +kernel, by decide +kernel⟩
theorem sc_Head_init : FnScope ["self", "scores", "none", "late", "strict", "row"] ["self", "scores", "none", "late", "strict"] (defScope s_Head_init) := ⟨rfl, rfl, rfl, by decide +kernel, rfl, by decide +kernel, by decide +kernel⟩
theorem sc__law_net_of : FnScope ["one", "other", "heads"] ["one", "other"] (defScope s__law_net_of) := ⟨rfl, rfl, rfl, by decide +kernel, rfl, by decide +kernel, by decide +kernel⟩
theorem sc__law_well : FnScope ["script"] ["script"] (defScope s__law_well) := ⟨rfl, rfl, rfl, by decide +kernel, rfl, by decide +kernel, by decide +kernel⟩
theorem sc_law : FnScope ["script", "well", "turn", "one", "other", "net", "numbers", "most", "s", "first", "last", "due", "some"] ["script"] (defScope s_law) := ⟨rfl, rfl, rfl, by decide +kernel, rfl, by decide +kernel, by decide +kernel⟩
def f46_law : Fn := ⟨1, 13, [], (.cons (.setq 1 (.call false 40 (.cons (.var 0) .nil) [])) (.cons (.for (.rng1 (.cons (.con (.int 8)) .nil)) (.nm 2) (.cons (.par 3 4 (.cons (.v (.op .add (.con (.int 1)) (.fz (.callM 1 29 (.cons (.con (.int 9)) .nil) [])))) (.cons (.v (.op .sub (.op .sub (.con (.int 0)) (.con (.int 1))) (.fz (.callM 1 29 (.cons (.con (.int 9)) .nil) [])))) .nil))) (.cons (.set 5 (.fz (.call false 31 (.cons (.var 3) (.cons (.var 4) .nil)) []))) (.cons (.set 6 (.fz (.callM 1 30 (.cons (.fz (.lrng2 (.con (.int 1)) (.con (.int 9)))) .nil) []))) (.cons (.par 7 8 (.cons (.v (.fz (.callM 1 29 (.cons (.con (.int 7)) .nil) []))) (.cons (.v (.fz (.callM 1 29 (.cons (.con (.int 7)) .nil) []))) .nil))) (.cons (.set 9 (.ife (.cmp .lt (.var 8) (.var 7)) (.fz (.cat (.fz (.sll (.var 6) .no (.so (.var 8)))) (.fz (.sll (.var 6) (.so (.op .add (.op .sub (.con (.int 8)) (.var 7)) (.var 8))) .no)))) (.fz (.sll (.var 6) .no (.so (.var 7)))))) (.cons (.set 10 (.ife (.cmp .lt (.var 8) (.var 7)) (.fz (.cat (.fz (.sll (.var 6) .no (.so (.op .sub (.var 7) (.var 8))))) (.fz (.sll (.var 6) (.so (.op .sub (.con (.int 8)) (.var 8))) .no)))) (.fz (.sll (.var 6) (.so (.op .sub (.con (.int 8)) (.var 7))) .no)))) (.cons (.ite (.cmp .ne (.fz (.call false 45 (.cons (.var 5) (.cons (.var 7) (.cons (.fz (.dsp (.cons (.v (.tup (.cons (.con (.str "first")) (.cons (.var 8) .nil)))) .nil))) (.cons (.var 6) .nil)))) [])) (.ife (.cmp .lt (.var 8) (.var 7)) (.var 9) (.fz (.call false 28 (.cons (.var 6) (.cons (.var 7) (.cons (.var 8) .nil))) [])))) (.cons (.ret (.con (.bl false))) .nil) .nil) (.cons (.ite (.cmp .ne (.fz (.call false 45 (.cons (.var 5) (.cons (.var 7) (.cons (.fz (.dsp (.cons (.v (.tup (.cons (.con (.str "last")) (.cons (.var 8) .nil)))) .nil))) (.cons (.var 6) .nil)))) [])) (.ife (.cmp .lt (.var 8) (.var 7)) (.var 10) (.fz (.call false 27 (.cons (.var 6) (.cons (.var 7) (.cons (.var 8) .nil))) [])))) (.cons (.ret (.con (.bl false))) .nil) .nil) (.cons (.ite (.cmp .gt (.var 7) (.con (.int 0))) (.cons (.set 11 (.fz (.call false 26 (.cons (.var 6) (.cons (.var 7) (.cons (.con (.bl true)) .nil))) []))) (.cons (.ite (.bw (.or (.cmp .ne (.fz (.call false 45 (.cons (.var 5) (.cons (.var 7) (.cons (.fz (.dsp (.cons (.v (.tup (.cons (.con (.str "least")) (.cons (.con (.int 0)) .nil)))) .nil))) (.cons (.var 6) .nil)))) [])) (.var 11)) (.or1 (.cmp .ne (.fz (.call false 45 (.cons (.var 5) (.cons (.var 7) (.cons (.fz (.dsp (.cons (.v (.tup (.cons (.con (.str "greatest")) (.cons (.con (.int 1)) .nil)))) .nil))) (.cons (.var 6) .nil)))) [])) (.var 11))))) (.cons (.ret (.con (.bl false))) .nil) .nil) (.cons (.set 11 (.fz (.call false 26 (.cons (.var 6) (.cons (.var 7) (.cons (.con (.bl false)) .nil))) []))) (.cons (.ite (.bw (.or (.cmp .ne (.fz (.call false 45 (.cons (.var 5) (.cons (.var 7) (.cons (.fz (.dsp (.cons (.v (.tup (.cons (.con (.str "greatest")) (.cons (.con (.int 0)) .nil)))) .nil))) (.cons (.var 6) .nil)))) [])) (.var 11)) (.or1 (.cmp .ne (.fz (.call false 45 (.cons (.var 5) (.cons (.var 7) (.cons (.fz (.dsp (.cons (.v (.tup (.cons (.con (.str "least")) (.cons (.con (.int 1)) .nil)))) .nil))) (.cons (.var 6) .nil)))) [])) (.var 11))))) (.cons (.ret (.con (.bl false))) .nil) .nil) .nil)))) .nil) (.cons (.set 12 (.fz (.cat (.fz (.cat (.fz (.sll (.var 6) .no (.so (.con (.int 3))))) (.fz (.sll (.var 6) .no (.so (.con (.int 2))))))) (.fz (.sll (.var 6) (.so (.con (.int 5))) (.so (.con (.int 6)))))))) (.cons (.ite (.bw (.or (.cmp .ne (.fz (.call false 45 (.cons (.var 5) (.cons (.con (.int 5)) (.cons (.fz (.dsp (.cons (.v (.tup (.cons (.con (.str "same")) (.cons (.con (.str "old")) .nil)))) .nil))) (.cons (.var 12) .nil)))) [])) (.fz (.sll (.var 12) (.so (.con (.int 1))) .no))) (.or1 (.cmp .ne (.fz (.call false 45 (.cons (.var 5) (.cons (.con (.int 4)) (.cons (.fz (.dsp (.cons (.v (.tup (.cons (.con (.str "same")) (.cons (.con (.str "old")) .nil)))) .nil))) (.cons (.var 12) .nil)))) [])) (.fz (.sll (.var 12) (.so (.con (.int 2))) .no)))))) (.cons (.ret (.con (.bl false))) .nil) .nil) (.cons (.ite (.bw (.or (.cmp .ne (.fz (.call false 45 (.cons (.var 5) (.cons (.con (.int 5)) (.cons (.fz (.dsp (.cons (.v (.tup (.cons (.con (.str "same")) (.cons (.con (.str "new")) .nil)))) .nil))) (.cons (.var 12) .nil)))) [])) (.fz (.cat (.fz (.sll (.var 12) .no (.so (.con (.int 4))))) (.fz (.sll (.var 12) (.so (.con (.int 5))) .no))))) (.or1 (.cmp .ne (.fz (.call false 45 (.cons (.var 5) (.cons (.con (.int 3)) (.cons (.fz (.dsp (.cons (.v (.tup (.cons (.con (.str "same")) (.cons (.con (.str "new")) .nil)))) (.cons (.v (.tup (.cons (.con (.str "row")) (.cons (.tup (.cons (.ix (.var 12) (.con (.int 2))) .nil)) .nil)))) .nil)))) (.cons (.var 12) .nil)))) [])) (.fz (.cat (.fz (.sll (.var 12) .no (.so (.con (.int 2))))) (.fz (.sll (.var 12) (.so (.con (.int 5))) .no)))))))) (.cons (.ret (.con (.bl false))) .nil) .nil) (.cons (.ite (.cmp .ne (.fz (.call false 45 (.cons (.var 5) (.cons (.con (.int 4)) (.cons (.fz (.dsp (.cons (.v (.tup (.cons (.con (.str "row")) (.cons (.tup (.cons (.con (.int 99)) .nil)) .nil)))) (.cons (.v (.tup (.cons (.con (.str "row")) (.cons (.tup (.cons (.ix (.var 12) (.con (.int 1))) .nil)) .nil)))) .nil)))) (.cons (.var 12) .nil)))) [])) (.fz (.dsp (.cons (.v (.ix (.var 12) (.con (.int 0)))) (.cons (.v (.ix (.var 12) (.con (.int 2)))) (.cons (.v (.ix (.var 12) (.con (.int 3)))) (.cons (.v (.ix (.var 12) (.con (.int 5)))) .nil))))))) (.cons (.ret (.con (.bl false))) .nil) .nil) .nil)))))))))))))) (.cons (.ret (.con (.bl true))) .nil)))⟩
def tbl : List (Nat × Fn) := [(3, f3_shelf_by), (4, f4_kept_by), (5, f5_dropped), (6, f6_spot_by), (7, f7_scored_spot), (8, f8_score_of), (9, f9_same_spots), (10, f10_need_shelf), (11, f11_fixed), (12, f12_is_shelf), (13, f13_is_list), (14, f14_is_bounded), (15, f15_is_integer), (16, f16_is_row), (17, f17_is_listed), (18, f18_need_policy), (19, f19_need_net), (23, f23_is_within), (24, f24_are_numbers), (26, f26__law_by_scores), (27, f27__law_fall_late), (28, f28__law_fall), (29, f29__law_draw), (30, f30__law_mixed), (31, f31__law_net_of), (32, f32_Net___init__), (33, f33_are_rows), (34, f34_are_layers), (35, f35_are_letter_rows), (36, f36_Layer___init__), (37, f37_is_table), (38, f38_are_heads), (39, f39_Head___init__), (40, f40__law_well), (41, f41_is_one_of), (42, f42_is_rule), (43, f43_is_layer_rule), (44, f44_Policy___init__), (45, f45__law_left), (46, f46_law)]
def tb : Nat → Option Fn := tbOf tbl
instance : Has tb 8 f8_score_of := ⟨rfl⟩
instance : Has tb 7 f7_scored_spot := ⟨rfl⟩
instance : Has tb 9 f9_same_spots := ⟨rfl⟩
instance : Has tb 6 f6_spot_by := ⟨rfl⟩
instance : Has tb 5 f5_dropped := ⟨rfl⟩
instance : Has tb 4 f4_kept_by := ⟨rfl⟩
instance : Has tb 11 f11_fixed := ⟨rfl⟩
instance : Has tb 15 f15_is_integer := ⟨rfl⟩
instance : Has tb 17 f17_is_listed := ⟨rfl⟩
instance : Has tb 16 f16_is_row := ⟨rfl⟩
instance : Has tb 14 f14_is_bounded := ⟨rfl⟩
instance : Has tb 13 f13_is_list := ⟨rfl⟩
instance : Has tb 12 f12_is_shelf := ⟨rfl⟩
instance : Has tb 10 f10_need_shelf := ⟨rfl⟩
instance : Has tb 18 f18_need_policy := ⟨rfl⟩
instance : Has tb 19 f19_need_net := ⟨rfl⟩
instance : Has tb 3 f3_shelf_by := ⟨rfl⟩
instance : Has tb 23 f23_is_within := ⟨rfl⟩
instance : Has tb 24 f24_are_numbers := ⟨rfl⟩
instance : Has tb 41 f41_is_one_of := ⟨rfl⟩
instance : Has tb 42 f42_is_rule := ⟨rfl⟩
instance : Has tb 43 f43_is_layer_rule := ⟨rfl⟩
instance : Has tb 44 f44_Policy___init__ := ⟨rfl⟩
instance : Has tb 45 f45__law_left := ⟨rfl⟩
instance : Has tb 26 f26__law_by_scores := ⟨rfl⟩
instance : Has tb 27 f27__law_fall_late := ⟨rfl⟩
instance : Has tb 28 f28__law_fall := ⟨rfl⟩
instance : Has tb 29 f29__law_draw := ⟨rfl⟩
instance : Has tb 30 f30__law_mixed := ⟨rfl⟩
instance : Has tb 33 f33_are_rows := ⟨rfl⟩
instance : Has tb 34 f34_are_layers := ⟨rfl⟩
instance : Has tb 35 f35_are_letter_rows := ⟨rfl⟩
instance : Has tb 32 f32_Net___init__ := ⟨rfl⟩
instance : Has tb 37 f37_is_table := ⟨rfl⟩
instance : Has tb 38 f38_are_heads := ⟨rfl⟩
instance : Has tb 36 f36_Layer___init__ := ⟨rfl⟩
instance : Has tb 39 f39_Head___init__ := ⟨rfl⟩
instance : Has tb 31 f31__law_net_of := ⟨rfl⟩
instance : Has tb 40 f40__law_well := ⟨rfl⟩
instance : Has tb 46 f46_law := ⟨rfl⟩
def tab : List (Nat × List Str) := [((0 : Nat), (["layers"] : List Str)), ((1 : Nat), (["rows", "layers", "worths", "letters", "lengths"] : List Str)), ((2 : Nat), (["heads", "table", "shift", "cap", "length"] : List Str)), ((3 : Nat), (["scores", "none", "late", "strict", "length"] : List Str))]
def fx : Str → Nat → Option Nat := fxOf (tabOf tab)
def kt : Kt → Kt → Option Bool := ktOf [0, 1, 2, 3] []
def Z : Top where
  cons := [(("LEAST" : Str), (.str "least" : D)), (("ROW" : Str), (.str "row" : D)), (("SAME" : Str), (.str "same" : D)), (("OLD" : Str), (.str "old" : D)), (("LAST" : Str), (.str "last" : D)), (("FIRST" : Str), (.str "first" : D)), (("MOST_NUMBER_heads" : Str), (.int 999 : D)), (("MOST_KEPT" : Str), (.int 60 : D)), (("GREATEST" : Str), (.str "greatest" : D)), (("MOST_ROWS" : Str), (.int 6 : D)), (("MOST_NUMBER_policies" : Str), (.int 999 : D)), (("MOST_LENGTH_policies" : Str), (.int 4 : D)), (("NEW" : Str), (.str "new" : D)), (("WORDS" : Str), (.tup [(.str "first"), (.str "last"), (.str "same"), (.str "least"), (.str "greatest"), (.str "row")] : D)), (("MOST_RULES" : Str), (.int 8 : D)), (("MOST_LAYERS_policies" : Str), (.int 3 : D)), (("MOST_LAYERS_nets" : Str), (.int 3 : D)), (("MOST_LENGTH_heads" : Str), (.int 4 : D)), (("LEAST_LETTERS" : Str), (.int 2 : D)), (("MOST_LETTERS" : Str), (.int 4 : D)), (("MOST_CAP" : Str), (.int 99 : D)), (("MOST_SHIFT" : Str), (.int 9999 : D)), (("MOST_HEADS" : Str), (.int 2 : D))]
  blts := [("range" : Str), ("tuple" : Str), ("zip" : Str), ("len" : Str), ("min" : Str), ("max" : Str), ("sum" : Str), ("enumerate" : Str), ("list" : Str), ("isinstance" : Str), ("all" : Str), ("bool" : Str), ("int" : Str), ("str" : Str), ("abs" : Str), ("divmod" : Str)]
  fns := [(("score_of" : Str), (8 : Nat), ([] : List D)), (("scored_spot" : Str), (7 : Nat), ([] : List D)), (("same_spots" : Str), (9 : Nat), ([] : List D)), (("spot_by" : Str), (6 : Nat), ([] : List D)), (("dropped" : Str), (5 : Nat), ([] : List D)), (("kept_by" : Str), (4 : Nat), ([] : List D)), (("fixed" : Str), (11 : Nat), ([] : List D)), (("is_integer" : Str), (15 : Nat), ([] : List D)), (("is_listed" : Str), (17 : Nat), ([] : List D)), (("is_row" : Str), (16 : Nat), ([] : List D)), (("is_bounded" : Str), (14 : Nat), ([] : List D)), (("is_list" : Str), (13 : Nat), ([] : List D)), (("is_shelf" : Str), (12 : Nat), ([] : List D)), (("need_shelf" : Str), (10 : Nat), ([(.str "shelf")] : List D)), (("need_policy" : Str), (18 : Nat), ([] : List D)), (("need_net" : Str), (19 : Nat), ([] : List D)), (("shelf_by" : Str), (3 : Nat), ([] : List D)), (("is_within" : Str), (23 : Nat), ([] : List D)), (("are_numbers" : Str), (24 : Nat), ([] : List D)), (("is_one_of" : Str), (41 : Nat), ([] : List D)), (("is_rule" : Str), (42 : Nat), ([] : List D)), (("is_layer_rule" : Str), (43 : Nat), ([] : List D)), (("_law_left" : Str), (45 : Nat), ([] : List D)), (("_law_by_scores" : Str), (26 : Nat), ([] : List D)), (("_law_fall_late" : Str), (27 : Nat), ([] : List D)), (("_law_fall" : Str), (28 : Nat), ([] : List D)), (("_law_draw" : Str), (29 : Nat), ([] : List D)), (("_law_mixed" : Str), (30 : Nat), ([] : List D)), (("are_rows" : Str), (33 : Nat), ([] : List D)), (("are_layers" : Str), (34 : Nat), ([] : List D)), (("are_letter_rows" : Str), (35 : Nat), ([] : List D)), (("is_table" : Str), (37 : Nat), ([] : List D)), (("are_heads" : Str), (38 : Nat), ([] : List D)), (("_law_net_of" : Str), (31 : Nat), ([] : List D)), (("_law_well" : Str), (40 : Nat), ([] : List D))]
  mks := [(("Policy" : Str), (0 : Nat), (44 : Nat), ([] : List D)), (("Layer" : Str), (2 : Nat), (36 : Nat), ([] : List D)), (("Net" : Str), (1 : Nat), (32 : Nat), ([] : List D)), (("Head" : Str), (3 : Nat), (39 : Nat), ([(.bl true), (.bl false)] : List D))]
  kfs := []
  kms := [(("Head" : Str), (3 : Nat), (39 : Nat), (2 : Nat), (["late", "strict"] : List Str), ([.a 0, .a 1, .a 2, .a 3] : List Pm), ([(.bl true), (.bl false)] : List D))]
  cls := [(("Policy" : Str), (0 : Nat)), (("Net" : Str), (1 : Nat)), (("Layer" : Str), (2 : Nat)), (("Head" : Str), (3 : Nat))]
theorem ok_score_of : okSs (Z.gm ["head", "row", "other", "mine", "line", "told", "its"] (defScope s_score_of) f8_score_of.pr) f8_score_of.body (defBody s_score_of) = true := by decide +kernel
theorem ok_scored_spot : okSs (Z.gm ["head", "rows", "is_least", "scores", "row"] (defScope s_scored_spot) f7_scored_spot.pr) f7_scored_spot.body (defBody s_scored_spot) = true := by decide +kernel
theorem ok_same_spots : okSs (Z.gm ["rows", "at", "row"] (defScope s_same_spots) f9_same_spots.pr) f9_same_spots.body (defBody s_same_spots) = true := by decide +kernel
theorem ok_spot_by : okSs (Z.gm ["layer", "rule", "rows", "word", "what", "some"] (defScope s_spot_by) f6_spot_by.pr) f6_spot_by.body (defBody s_spot_by) = true := by decide +kernel
theorem ok_dropped : okSs (Z.gm ["layer", "told", "rows", "most", "rules", "left", "spots", "spot", "rule"] (defScope s_dropped) f5_dropped.pr) f5_dropped.body (defBody s_dropped) = true := by decide +kernel
theorem ok_kept_by : okSs (Z.gm ["net", "policy", "grown", "found", "layer", "told", "rows"] (defScope s_kept_by) f4_kept_by.pr) f4_kept_by.body (defBody s_kept_by) = true := by decide +kernel
theorem ok_fixed : okSs (Z.gm ["value", "one"] (defScope s_fixed) f11_fixed.pr) f11_fixed.body (defBody s_fixed) = true := by decide +kernel
theorem ok_is_integer : okSs (Z.gm ["value"] (defScope s_is_integer) f15_is_integer.pr) f15_is_integer.body (defBody s_is_integer) = true := by decide +kernel
theorem ok_is_listed : okSs (Z.gm ["value"] (defScope s_is_listed) f17_is_listed.pr) f17_is_listed.body (defBody s_is_listed) = true := by decide +kernel
theorem ok_is_row : okSs (Z.gm ["value", "many"] (defScope s_is_row) f16_is_row.pr) f16_is_row.body (defBody s_is_row) = true := by decide +kernel
theorem ok_is_bounded : okSs (Z.gm ["value", "length", "most", "one"] (defScope s_is_bounded) f14_is_bounded.pr) f14_is_bounded.body (defBody s_is_bounded) = true := by decide +kernel
theorem ok_is_list : okSs (Z.gm ["layer", "length", "value", "row"] (defScope s_is_list) f13_is_list.pr) f13_is_list.body (defBody s_is_list) = true := by decide +kernel
theorem ok_is_shelf : okSs (Z.gm ["net", "value", "layer", "length", "one"] (defScope s_is_shelf) f12_is_shelf.pr) f12_is_shelf.body (defBody s_is_shelf) = true := by decide +kernel
theorem ok_need_shelf : okSs (Z.gm ["net", "value", "part"] (defScope s_need_shelf) f10_need_shelf.pr) f10_need_shelf.body (defBody s_need_shelf) = true := by decide +kernel
theorem ok_need_policy : okSs (Z.gm ["net", "value", "most", "rules", "layer", "word", "what"] (defScope s_need_policy) f18_need_policy.pr) f18_need_policy.body (defBody s_need_policy) = true := by decide +kernel
theorem ok_need_net : okSs (Z.gm ["value"] (defScope s_need_net) f19_need_net.pr) f19_need_net.body (defBody s_need_net) = true := by decide +kernel
theorem ok_shelf_by : okSs (Z.gm ["net", "policy", "shelf"] (defScope s_shelf_by) f3_shelf_by.pr) f3_shelf_by.body (defBody s_shelf_by) = true := by decide +kernel
theorem ok_is_within : okSs (Z.gm ["value", "least", "most"] (defScope s_is_within) f23_is_within.pr) f23_is_within.body (defBody s_is_within) = true := by decide +kernel
theorem ok_are_numbers : okSs (Z.gm ["value", "one"] (defScope s_are_numbers) f24_are_numbers.pr) f24_are_numbers.body (defBody s_are_numbers) = true := by decide +kernel
theorem ok_is_one_of : okSs (Z.gm ["value", "some"] (defScope s_is_one_of) f41_is_one_of.pr) f41_is_one_of.body (defBody s_is_one_of) = true := by decide +kernel
theorem ok_is_rule : okSs (Z.gm ["value"] (defScope s_is_rule) f42_is_rule.pr) f42_is_rule.body (defBody s_is_rule) = true := by decide +kernel
theorem ok_is_layer_rule : okSs (Z.gm ["value", "one"] (defScope s_is_layer_rule) f43_is_layer_rule.pr) f43_is_layer_rule.body (defBody s_is_layer_rule) = true := by decide +kernel
theorem ok_Policy_init : okSs (Z.gm ["self", "layers", "one"] (defScope s_Policy_init) f44_Policy___init__.pr) f44_Policy___init__.body (defBody s_Policy_init) = true := by decide +kernel
theorem ok__law_left : okSs (Z.gm ["net", "most", "rules", "numbers", "row", "number"] (defScope s__law_left) f45__law_left.pr) f45__law_left.body (defBody s__law_left) = true := by decide +kernel
theorem ok__law_by_scores : okSs (Z.gm ["numbers", "most", "is_least", "left"] (defScope s__law_by_scores) f26__law_by_scores.pr) f26__law_by_scores.body (defBody s__law_by_scores) = true := by decide +kernel
theorem ok__law_fall_late : okSs (Z.gm ["numbers", "most", "s", "left"] (defScope s__law_fall_late) f27__law_fall_late.pr) f27__law_fall_late.body (defBody s__law_fall_late) = true := by decide +kernel
theorem ok__law_fall : okSs (Z.gm ["numbers", "most", "s", "left"] (defScope s__law_fall) f28__law_fall.pr) f28__law_fall.body (defBody s__law_fall) = true := by decide +kernel
theorem ok__law_draw : okSs (Z.gm ["well", "many", "digit", "at", "ints", "cell", "mixed"] (defScope s__law_draw) f29__law_draw.pr) f29__law_draw.body (defBody s__law_draw) = true := by decide +kernel
theorem ok__law_mixed : okSs (Z.gm ["well", "some", "left", "found"] (defScope s__law_mixed) f30__law_mixed.pr) f30__law_mixed.body (defBody s__law_mixed) = true := by decide +kernel
theorem ok_are_rows : okSs (Z.gm ["value", "many", "length", "row"] (defScope s_are_rows) f33_are_rows.pr) f33_are_rows.body (defBody s_are_rows) = true := by decide +kernel
theorem ok_are_layers : okSs (Z.gm ["value", "length", "layer"] (defScope s_are_layers) f34_are_layers.pr) f34_are_layers.body (defBody s_are_layers) = true := by decide +kernel
theorem ok_are_letter_rows : okSs (Z.gm ["value"] (defScope s_are_letter_rows) f35_are_letter_rows.pr) f35_are_letter_rows.body (defBody s_are_letter_rows) = true := by decide +kernel
theorem ok_Net_init : okSs (Z.gm ["self", "rows", "layers", "worths", "last", "row", "layer"] (defScope s_Net_init) f32_Net___init__.pr) f32_Net___init__.body (defBody s_Net_init) = true := by decide +kernel
theorem ok_is_table : okSs (Z.gm ["value", "heads", "wide", "row"] (defScope s_is_table) f37_is_table.pr) f37_is_table.body (defBody s_is_table) = true := by decide +kernel
theorem ok_are_heads : okSs (Z.gm ["value", "head"] (defScope s_are_heads) f38_are_heads.pr) f38_are_heads.body (defBody s_are_heads) = true := by decide +kernel
theorem ok_Layer_init : okSs (Z.gm ["self", "heads", "table", "shift", "cap", "row"] (defScope s_Layer_init) f36_Layer___init__.pr) f36_Layer___init__.body (defBody s_Layer_init) = true := by decide +kernel
theorem ok_Head_init : okSs (Z.gm ["self", "scores", "none", "late", "strict", "row"] (defScope s_Head_init) f39_Head___init__.pr) f39_Head___init__.body (defBody s_Head_init) = true := by decide +kernel
theorem ok__law_net_of : okSs (Z.gm ["one", "other", "heads"] (defScope s__law_net_of) f31__law_net_of.pr) f31__law_net_of.body (defBody s__law_net_of) = true := by decide +kernel
theorem ok__law_well : okSs (Z.gm ["script"] (defScope s__law_well) f40__law_well.pr) f40__law_well.body (defBody s__law_well) = true := by decide +kernel
theorem ok_law : okSs (Z.gm ["script", "well", "turn", "one", "other", "net", "numbers", "most", "s", "first", "last", "due", "some"] (defScope s_law) f46_law.pr) f46_law.body (defBody s_law) = true := by decide +kernel
end J.K03

set_option Elab.async false
set_option linter.all false
set_option maxRecDepth 100000
set_option maxHeartbeats 4000000
namespace J
open PySem PySem.Spec PyProof.Rows L2
local macro_rules | `(tactic| walk_at "j") => `(tactic| simp only [↓J.wp_ok, ↓J.wp_stk, ↓J.wp2_ok, ↓J.wp2_stk, ↓J.wp_bind, ↓J.wp_bnd, ↓J.wp2_bind, ↓J.wp2_bnd, ↓J.wp_some, ↓J.wp_none, ↓J.wp_if, ↓J.wp2_if, ↓J.wp2_fi, ↓J.wp_br, ↓J.wp2_br, ↓J.wp_var, ↓J.wp_pl, ↓J.wp_pk, ↓J.wp_i2, ↓J.wp_i2c, ↓J.wp_runF, ↓J.wp_at_map, ↓J.wp_minF, ↓J.wp_maxF, ↓J.wp_idxF, ↓J.wp_cntF, ↓J.wp_inDF, ↓J.wp_inFF, ↓J.wp_for_nil, ↓J.wp_for_cons, ↓J.wp_lc_nil, ↓J.wp_lc_cons, ↓J.wp_eqF, ↓J.wp_neF, ↓J.wp_lci_nil, ↓J.wp_lci_cons, ↓J.wp_lcj_nil, ↓J.wp_lcj_cons, ↓J.wp2_ifr, ↓J.wp_isNF, ↓J.wp_notNF, ↓J.wp_blF, ↓J.wp_isiF, ↓J.wp_isi2F, ↓J.w_evE_var, ↓J.w_evE_con, ↓J.w_evE_op, ↓J.w_evE_cmp, ↓J.w_evE_chn, ↓J.w_evE_neg, ↓J.w_evE_band, ↓J.w_evE_bor, ↓J.w_evE_bone, ↓J.w_evE_bnot, ↓J.w_evE_ife, ↓J.w_evE_fz, ↓J.w_evE_tup, ↓J.w_evE_cb, ↓J.w_evE_cbv, ↓J.w_evE_cmpv, ↓J.w_evE_cmpl, ↓J.w_evE_ix, ↓J.w_evE_slt, ↓J.w_evE_fld, ↓J.w_evE_pth, ↓J.w_evE_popAt, ↓J.w_evE_remI, ↓J.w_evE_isi, ↓J.w_evE_isi2, ↓J.w_evE_idx, ↓J.w_evE_cnt, ↓J.w_evQ_v, ↓J.w_evQ_dsp, ↓J.w_evQ_lst, ↓J.w_evQ_lc, ↓J.w_evQ_lc2, ↓J.w_evQ_call, ↓J.w_evQ_callM, ↓J.w_evQ_make, ↓J.w_evQ_list, ↓J.w_evQ_lrng, ↓J.w_evQ_sll, ↓J.w_evQ_cat, ↓J.w_evQ_rep, ↓J.w_evQ_callK, ↓J.w_evQ_makeK, ↓J.w_evQ_lrng2, ↓J.w_evT_cmp, ↓J.w_evT_chn, ↓J.w_evT_val, ↓J.w_evT_not, ↓J.w_evT_bw, ↓J.w_evT_cmpv, ↓J.w_evT_cmpl, ↓J.w_evW_and1, ↓J.w_evW_or1, ↓J.w_evW_and, ↓J.w_evW_or, ↓J.w_evO_no, ↓J.w_evO_so, ↓J.w_evA_nil, ↓J.w_evA_cons, ↓J.w_evA_star, ↓J.w_evAv_nil, ↓J.w_evAv_cons, ↓J.w_evAv_vw, ↓J.w_evQs_nil, ↓J.w_evQs_cons, ↓J.w_evVx_e, ↓J.w_evVx_p, ↓J.w_evI_sq, ↓J.w_evI_zip, ↓J.w_evI_zip3, ↓J.w_evI_enum, ↓J.w_evI_rng1, ↓J.w_evI_rng2, ↓J.w_evTs_nil, ↓J.w_evTs_one, ↓J.w_evS_set, ↓J.w_evS_setq, ↓J.w_evS_setc, ↓J.w_evS_asg, ↓J.w_evS_ret, ↓J.w_evS_retq, ↓J.w_evS_retN, ↓J.w_evS_exp, ↓J.w_evS_ite, ↓J.w_evS_for, ↓J.w_evS_wh, ↓J.w_evS_pass, ↓J.w_evS_brk, ↓J.w_evS_cnt, ↓J.w_evS_never, ↓J.w_evS_app, ↓J.w_evS_appP, ↓J.w_evS_ext, ↓J.w_evS_fld, ↓J.w_evS_par, ↓J.w_evS_par3, ↓J.w_evS_unp, ↓J.w_evSs_nil, ↓J.w_evSs_cons, ↓J.w_evG_nm, ↓J.w_evG_tup, ↓J.w_evG_set, ↓J.w_evG_fld, ↓J.w_evGs_nil, ↓J.w_evGs_cons, id_eq, J.putAt, Int.cast_ofNat_Int, J.isNon, J.tyK, J.nth_z, J.nth_s, List.set_cons_zero, List.set_cons_succ, J.rootP, J.ofP, J.ofU, J.pfIx, J.pfFld, J.pfNil, J.getP, J.setP, J.kids, J.intsF, J.blsF, J.intsOf_map, J.blsOf_map, J.intsOf_mapf, J.blsOf_mapf, J.toDs_map, J.intsOf, J.blsOf, Option.map_some, J.eqFl_ss, J.eqFl_ii, J.eqFl_si, J.eqFl_is, J.eqFl_nn, J.eqFl_sn, J.eqFl_ns, J.eqFl_in, J.eqFl_ni, J.flat, List.sum_cons, List.sum_nil, Int.add_zero, List.all_cons, List.all_nil, List.any_cons, List.any_nil, J.zipD, J.zipD3, J.deq_tup, J.deq_lst, J.deq_int, J.deq_str, J.deq_bl, J.deq_non, J.deqs_nil, J.deqs_cons, J.deqs_nc, J.deqs_cn, J.deqs_ints, J.deqs_ints_nil, J.shp_ints, J.shp_nil, J.shp_int, J.withKids, J.wipeB, J.mrg, J.keepB, J.ownV, J.endsB, J.toD, J.toDs, J.toDs_v, J.puNeg, J.puOp, J.opF, J.cmpF, J.bfF, J.on1, J.on2, J.startB, J.finB, J.memN_n, J.memN_c, List.map_cons, List.map_nil, List.cons_append, List.nil_append, List.length_cons, List.length_nil, List.length_map, List.replicate, J.ix0, J.ix1, J.ix2, J.ix3, J.ix4, J.ix5, J.ixm1, J.at0, J.at1, J.at2, J.at3, J.at4, J.atm1, J.atm2, J.atm3, J.items, J.intF, J.absF, J.boolF, List.getElem?_cons_zero, List.getElem?_cons_succ, List.eraseIdx_zero, ↓reduceIte, Nat.reduceAdd, Nat.reduceSub, Int.reduceNeg, Int.reduceLT, Int.reduceLE, Int.reduceEq, Int.reduceMul, Int.reduceSub, Int.reduceToNat, Nat.reduceLT, Nat.reduceLeDiff, decide_eq_true_eq, decide_eq_false_iff_not, true_and, and_true, Int.reduceAdd, Int.reducePow, Int.reduceMul, Int.reduceMod, Nat.reduceEqDiff, Bool.or_false, Bool.false_or, Bool.true_or, Bool.or_true, Bool.and_true, Bool.true_and, Bool.and_false, Bool.false_and, Bool.not_true, Bool.not_false, decide_true, decide_false, forall_const, false_and, and_false, and_self, false_implies, implies_true, true_implies, reduceCtorEq, Bool.true_eq_false, Bool.false_eq_true, not_true_eq_false, not_false_eq_true, if_true, if_false])
/-! ### the draws of the family `well` -/
def WellAt (n : Nat) (t : T) : Prop := ∃ (ns : List Int) (a r : Int), t = .lst [.v (.lst (ns.map .int)), .v (.int a), .v (.int r)] ∧ 0 ≤ a ∧ a ≤ n ∧ 0 ≤ r
theorem cp3 {i : Int} (h : 0 ≤ i) (h2 : i < 18446744073709551616) : CPow i 3 := ⟨by decide, by decide, by
  have e : (2 : Nat) ^ 64 = 18446744073709551616 := by decide
  rw [e]
  omega⟩
theorem cp18 : CPow 10 18 := ⟨by decide, by decide, by decide⟩
theorem cm1 {a : Int} : CMul 60016 a := .inl ⟨by decide, by decide⟩
theorem cm2 {a : Int} : CMul 18003 a := .inl ⟨by decide, by decide⟩
theorem mod_m {y m : Int} (h0 : 0 < m) : 0 ≤ y % m ∧ y % m < m := ⟨Int.emod_nonneg _ (by omega), Int.emod_lt_of_pos _ h0⟩
theorem erase_perm {α : Type} : ∀ {l : List α} {i : Nat} (h : i < l.length), (l[i] :: l.eraseIdx i).Perm l
  | x :: l, 0, _ => .refl _
  | x :: l, i + 1, h => by
    have h' : i < l.length := by simpa using h
    show (l[i] :: x :: l.eraseIdx i).Perm (x :: l)
    exact (List.Perm.swap _ _ _).trans ((erase_perm h').cons x)
theorem map_erase {α β : Type} {f : α → β} : ∀ {l : List α} {i : Nat}, (l.map f).eraseIdx i = (l.eraseIdx i).map f
  | [], _ => rfl
  | _ :: _, 0 => rfl
  | x :: l, i + 1 => by simp [map_erase]
section
variable {tb : Nat → Option Fn} {fx : Str → Nat → Option Nat} {fu : Nat} {kt : Kt → Kt → Option Bool} {k n : Nat} {t : T} {m : Int} {P : T → List (Option T) → Prop}
theorem sp_draw [Has tb 29 f29__law_draw] (hw : WellAt n t) (hn : n ≤ 1000000) (h0 : 0 < m) (hm : m < 1000000) (q : ∀ x t', 0 ≤ x → x < m → WellAt (n + 1) t' → P (.v (.int x)) [some t', none]) :
    wp2 (callJ tb fx fu kt (k + 1) 29 [t, .v (.int m)]) P := by
  obtain ⟨ns, a, r, rfl, ha, ha2, hr⟩ := hw
  have cd : ∀ i : Int, CDiv i m := fun i => ⟨h0, by omega⟩
  have fin : ∀ (x r' a' : Int), 0 ≤ r' → 0 ≤ a' → a' ≤ n + 1 → P (.v (.int (x % m))) [some (.lst [.v (.lst (ns.map .int)), .v (.int a'), .v (.int r')]), none] := fun x r' a' h1 h2 h3 =>
    q _ _ (mod_m h0).1 (mod_m h0).2 ⟨ns, a', r', rfl, h2, by omega, h1⟩
  have dv : ∀ i : Int, 0 ≤ i → 0 ≤ i / m := fun i h => Int.ediv_nonneg h (by omega)
  have slow : ∀ z : Int, CPow (z % 1000000007 + 60016 * a + 140016) 3 ∧ CPow ((z % 1000000007 + 60016 * a + 140016) ^ 3 % 2147483647 + 18003 * a + 50030) 3 := fun z => by
    refine ⟨cp3 (by omega) (by omega), ?_⟩
    generalize (z % 1000000007 + 60016 * a + 140016) ^ 3 = y
    exact cp3 (by omega) (by omega)
  refine wp_callJ Has.h ?_
  simp only [f29__law_draw]
  walk_at "j"
  refine ⟨fun hr2 => ⟨cd _, fin _ _ _ (dv _ hr) ha (by omega)⟩, fun _ => ⟨fun hl => ⟨hl, ?_⟩, fun _ => ⟨cm1, ?_, ?_⟩⟩⟩
  · obtain ⟨z, hz⟩ := atI_mod (l := ns) (i := a) hl
    refine ⟨z, hz, ?_, ?_⟩
    · intro _
      refine ⟨cp18, fun hb => ⟨cp18, cd _, fin _ _ _ (dv _ (by omega)) (by omega) (by omega)⟩, fun _ => ⟨cm1, (slow z).1, cm2, (slow z).2, h0, fin _ _ _ hr (by omega) (by omega)⟩⟩
    · intro _
      exact ⟨cm1, (slow z).1, cm2, (slow z).2, h0, fin _ _ _ hr (by omega) (by omega)⟩
  · intro _
    refine ⟨cp18, fun hb => ⟨cp18, cd _, fin _ _ _ (dv _ (by omega)) (by omega) (by omega)⟩, fun _ => ⟨cm1, (slow _).1, cm2, (slow _).2, h0, fin _ _ _ hr (by omega) (by omega)⟩⟩
  · intro _
    exact ⟨cm1, (slow _).1, cm2, (slow _).2, h0, fin _ _ _ hr (by omega) (by omega)⟩
theorem sp_well [Has tb 40 f40__law_well] {ns : List Int} (q : ∀ t, WellAt 0 t → P t [none]) : wp2 (callJ tb fx fu kt (k + 1) 40 [.v (.scr ns)]) P := by
  refine wp_callJ Has.h ?_
  simp only [f40__law_well]
  walk_at "j"
  exact q _ ⟨ns, 0, 0, rfl, by omega, by omega, by omega⟩
theorem sp_mixed [Has tb 29 f29__law_draw] [Has tb 30 f30__law_mixed] {xs : List Int} (hw : WellAt n t) (hn : n + xs.length ≤ 1000000) (hx : xs.length ≤ 1000)
    (q : ∀ (ys : List Int) (t' : T), ys.Perm xs → WellAt (n + xs.length) t' → P (.v (.lst (ys.map .int))) [some t', none]) : wp2 (callJ tb fx 1000000 kt (k + 2) 30 [t, .v (.lst (xs.map .int))]) P := by
  refine wp_callJ Has.h ?_
  simp only [f30__law_mixed]
  walk_at "j"
  refine wp_while (fun m ρ => ∃ (l f : List Int) (t' : T), l.length = m ∧ (f ++ l).Perm xs ∧ WellAt (n + f.length) t' ∧ ρ = [some t', some (.v (.lst (xs.map .int))), some (.lst ((l.map .int).map .v)), some (.lst ((f.map .int).map .v))]) ?_ _ xs.length _ (by omega) ⟨xs, [], t, rfl, .refl _, hw, rfl⟩
  rintro m ρ ⟨l, f, t', hl, hp, hw', rfl⟩
  walk_at "j"
  have hlen := hp.length_eq
  rw [List.length_append] at hlen
  refine ⟨fun hne => ?_, fun he => ?_⟩
  · have hne' : l ≠ [] := by simpa using hne
    have hpos : 0 < l.length := List.length_pos_iff.mpr hne'
    refine sp_draw hw' (by omega) (by omega) (by omega) fun x t2 h0 hx1 hw2 => ?_
    have hj : x.toNat < l.length := by omega
    have e1 : ixN l.length x = some x.toNat := by
      unfold ixN
      rw [if_pos h0, if_pos hx1]
    have e2 : ((l.map D.int).map T.v)[x.toNat]? = some (.v (.int l[x.toNat])) := by
      rw [List.getElem?_map, List.getElem?_map, List.getElem?_eq_getElem hj]
      rfl
    walk_at "j"
    simp only [e1]
    walk_at "j"
    simp only [e2]
    walk_at "j"
    refine ⟨⟨by omega, by omega⟩, by omega, l.length - 1, by omega, l.eraseIdx x.toNat, f ++ [l[x.toNat]], t2, ?_, ?_, ?_, ?_⟩
    · rw [List.length_eraseIdx, if_pos hj]
    · rw [List.append_assoc]
      exact ((erase_perm hj).append_left f).trans hp
    · rw [List.length_append]
      exact hw2
    · rw [map_erase, map_erase, List.map_append, List.map_append]
      rfl
  · have he' : l = [] := by simpa using he
    subst he'
    rw [List.append_nil] at hp
    refine q f t' hp ?_
    rw [show xs.length = f.length by rw [← hlen]; rfl]
    exact hw'
end
end J

set_option Elab.async false
set_option linter.all false
set_option maxRecDepth 100000
set_option maxHeartbeats 4000000
namespace J.K03
open PySem PySem.Spec PyProof.Rows L2 J
theorem fx_scores : fx "scores" 3 = some 0 := by decide +kernel
theorem fx_none : fx "none" 3 = some 1 := by decide +kernel
theorem fx_late : fx "late" 3 = some 2 := by decide +kernel
theorem fx_strict : fx "strict" 3 = some 3 := by decide +kernel
theorem fx_hlen : fx "length" 3 = some 4 := by decide +kernel
theorem fx_heads : fx "heads" 2 = some 0 := by decide +kernel
theorem fx_table : fx "table" 2 = some 1 := by decide +kernel
theorem fx_shift : fx "shift" 2 = some 2 := by decide +kernel
theorem fx_cap : fx "cap" 2 = some 3 := by decide +kernel
theorem fx_llen : fx "length" 2 = some 4 := by decide +kernel
theorem fx_rows : fx "rows" 1 = some 0 := by decide +kernel
theorem fx_layers : fx "layers" 1 = some 1 := by decide +kernel
theorem fx_worths : fx "worths" 1 = some 2 := by decide +kernel
theorem fx_letters : fx "letters" 1 = some 3 := by decide +kernel
theorem fx_lengths : fx "lengths" 1 = some 4 := by decide +kernel
theorem fx_players : fx "layers" 0 = some 0 := by decide +kernel
local macro_rules | `(tactic| walk_at "j") => `(tactic| simp only [↓J.wp_ok, ↓J.wp_stk, ↓J.wp2_ok, ↓J.wp2_stk, ↓J.wp_bind, ↓J.wp_bnd, ↓J.wp2_bind, ↓J.wp2_bnd, ↓J.wp_some, ↓J.wp_none, ↓J.wp_if, ↓J.wp2_if, ↓J.wp2_fi, ↓J.wp_br, ↓J.wp2_br, ↓J.wp_var, ↓J.wp_pl, ↓J.wp_pk, ↓J.wp_i2, ↓J.wp_i2c, ↓J.wp_runF, ↓J.wp_at_map, ↓J.wp_minF, ↓J.wp_maxF, ↓J.wp_idxF, ↓J.wp_cntF, ↓J.wp_inDF, ↓J.wp_inFF, ↓J.wp_for_nil, ↓J.wp_for_cons, ↓J.wp_lc_nil, ↓J.wp_lc_cons, ↓J.wp_eqF, ↓J.wp_neF, ↓J.wp_lci_nil, ↓J.wp_lci_cons, ↓J.wp_lcj_nil, ↓J.wp_lcj_cons, ↓J.wp2_ifr, ↓J.wp_isNF, ↓J.wp_notNF, ↓J.wp_blF, ↓J.wp_isiF, ↓J.wp_isi2F, ↓J.w_evE_var, ↓J.w_evE_con, ↓J.w_evE_op, ↓J.w_evE_cmp, ↓J.w_evE_chn, ↓J.w_evE_neg, ↓J.w_evE_band, ↓J.w_evE_bor, ↓J.w_evE_bone, ↓J.w_evE_bnot, ↓J.w_evE_ife, ↓J.w_evE_fz, ↓J.w_evE_tup, ↓J.w_evE_cb, ↓J.w_evE_cbv, ↓J.w_evE_cmpv, ↓J.w_evE_cmpl, ↓J.w_evE_ix, ↓J.w_evE_slt, ↓J.w_evE_fld, ↓J.w_evE_pth, ↓J.w_evE_popAt, ↓J.w_evE_remI, ↓J.w_evE_isi, ↓J.w_evE_isi2, ↓J.w_evE_idx, ↓J.w_evE_cnt, ↓J.w_evQ_v, ↓J.w_evQ_dsp, ↓J.w_evQ_lst, ↓J.w_evQ_lc, ↓J.w_evQ_lc2, ↓J.w_evQ_call, ↓J.w_evQ_callM, ↓J.w_evQ_make, ↓J.w_evQ_list, ↓J.w_evQ_lrng, ↓J.w_evQ_sll, ↓J.w_evQ_cat, ↓J.w_evQ_rep, ↓J.w_evQ_callK, ↓J.w_evQ_makeK, ↓J.w_evQ_lrng2, ↓J.w_evT_cmp, ↓J.w_evT_chn, ↓J.w_evT_val, ↓J.w_evT_not, ↓J.w_evT_bw, ↓J.w_evT_cmpv, ↓J.w_evT_cmpl, ↓J.w_evW_and1, ↓J.w_evW_or1, ↓J.w_evW_and, ↓J.w_evW_or, ↓J.w_evO_no, ↓J.w_evO_so, ↓J.w_evA_nil, ↓J.w_evA_cons, ↓J.w_evA_star, ↓J.w_evAv_nil, ↓J.w_evAv_cons, ↓J.w_evAv_vw, ↓J.w_evQs_nil, ↓J.w_evQs_cons, ↓J.w_evVx_e, ↓J.w_evVx_p, ↓J.w_evI_sq, ↓J.w_evI_zip, ↓J.w_evI_zip3, ↓J.w_evI_enum, ↓J.w_evI_rng1, ↓J.w_evI_rng2, ↓J.w_evTs_nil, ↓J.w_evTs_one, ↓J.w_evS_set, ↓J.w_evS_setq, ↓J.w_evS_setc, ↓J.w_evS_asg, ↓J.w_evS_ret, ↓J.w_evS_retq, ↓J.w_evS_retN, ↓J.w_evS_exp, ↓J.w_evS_ite, ↓J.w_evS_for, ↓J.w_evS_wh, ↓J.w_evS_pass, ↓J.w_evS_brk, ↓J.w_evS_cnt, ↓J.w_evS_never, ↓J.w_evS_app, ↓J.w_evS_appP, ↓J.w_evS_ext, ↓J.w_evS_fld, ↓J.w_evS_par, ↓J.w_evS_par3, ↓J.w_evS_unp, ↓J.w_evSs_nil, ↓J.w_evSs_cons, ↓J.w_evG_nm, ↓J.w_evG_tup, ↓J.w_evG_set, ↓J.w_evG_fld, ↓J.w_evGs_nil, ↓J.w_evGs_cons, id_eq, J.putAt, Int.cast_ofNat_Int, J.isNon, J.tyK, J.nth_z, J.nth_s, List.set_cons_zero, List.set_cons_succ, J.rootP, J.ofP, J.ofU, J.pfIx, J.pfFld, J.pfNil, J.getP, J.setP, J.kids, J.intsF, J.blsF, J.intsOf_map, J.blsOf_map, J.intsOf_mapf, J.blsOf_mapf, J.toDs_map, J.intsOf, J.blsOf, Option.map_some, J.eqFl_ss, J.eqFl_ii, J.eqFl_si, J.eqFl_is, J.eqFl_nn, J.eqFl_sn, J.eqFl_ns, J.eqFl_in, J.eqFl_ni, J.flat, List.sum_cons, List.sum_nil, Int.add_zero, List.all_cons, List.all_nil, List.any_cons, List.any_nil, J.zipD, J.zipD3, J.deq_tup, J.deq_lst, J.deq_int, J.deq_str, J.deq_bl, J.deq_non, J.deqs_nil, J.deqs_cons, J.deqs_nc, J.deqs_cn, J.deqs_ints, J.deqs_ints_nil, J.shp_ints, J.shp_nil, J.shp_int, J.withKids, J.wipeB, J.mrg, J.keepB, J.ownV, J.endsB, J.toD, J.toDs, J.toDs_v, J.puNeg, J.puOp, J.opF, J.cmpF, J.bfF, J.on1, J.on2, J.startB, J.finB, J.memN_n, J.memN_c, List.map_cons, List.map_nil, List.cons_append, List.nil_append, List.length_cons, List.length_nil, List.length_map, List.replicate, J.ix0, J.ix1, J.ix2, J.ix3, J.ix4, J.ix5, J.ixm1, J.at0, J.at1, J.at2, J.at3, J.at4, J.atm1, J.atm2, J.atm3, J.items, J.intF, J.absF, J.boolF, List.getElem?_cons_zero, List.getElem?_cons_succ, List.eraseIdx_zero, ↓reduceIte, Nat.reduceAdd, Nat.reduceSub, Int.reduceNeg, Int.reduceLT, Int.reduceLE, Int.reduceEq, Int.reduceMul, Int.reduceSub, Int.reduceToNat, Nat.reduceLT, Nat.reduceLeDiff, decide_eq_true_eq, decide_eq_false_iff_not, true_and, and_true, Int.reduceAdd, Int.reducePow, Int.reduceMul, Int.reduceMod, Nat.reduceEqDiff, Bool.or_false, Bool.false_or, Bool.true_or, Bool.or_true, Bool.and_true, Bool.true_and, Bool.and_false, Bool.false_and, Bool.not_true, Bool.not_false, decide_true, decide_false, forall_const, false_and, and_false, and_self, false_implies, implies_true, true_implies, reduceCtorEq, Bool.true_eq_false, Bool.false_eq_true, not_true_eq_false, not_false_eq_true, if_true, if_false, J.K03.fx_scores, J.K03.fx_none, J.K03.fx_late, J.K03.fx_strict, J.K03.fx_hlen, J.K03.fx_heads, J.K03.fx_table, J.K03.fx_shift, J.K03.fx_cap, J.K03.fx_llen, J.K03.fx_rows, J.K03.fx_layers, J.K03.fx_worths, J.K03.fx_letters, J.K03.fx_lengths, J.K03.fx_players])
abbrev rowD (x : Int) : D := .tup [.int x]
abbrev headD (a : Int) (late strict : Bool) : D := .obj 3 [.tup [.tup [.int a]], .tup [.int 0], .bl late, .bl strict, .int 1]
abbrev CJ := callJ tb fx 1000000 kt
theorem at_mem {α : Type} {l : List α} {i : Int} {z : α} (h : atI l i = some z) : z ∈ l := by
  unfold atI at h
  cases e : ixN l.length i with
  | none => rw [e] at h; cases h
  | some j =>
    rw [e] at h
    exact List.mem_of_getElem? h
theorem cml {i : Int} (h : -999 ≤ i ∧ i ≤ 999) : -(2 ^ 64) < i ∧ i < 2 ^ 64 := by
  have e : (2 : Int) ^ 64 = 18446744073709551616 := by decide
  rw [e]
  omega
theorem cms {i j : Int} (h : -999 ≤ i ∧ i ≤ 999) : CMul i j := .inl (cml h)
theorem score_eq {k : Nat} {a x y : Int} {late strict : Bool} (ha : -999 ≤ a ∧ a ≤ 999) (hx : -999 ≤ x ∧ x ≤ 999) (hy : -999 ≤ y ∧ y ≤ 999) :
    CJ (k + 1) 8 [.v (headD a late strict), .v (rowD x), .v (rowD y)] = .ok (.v (.int (x * a * y)), [none, none, none]) := by
  refine eq_of (wp_callJ Has.h ?_)
  simp only [f8_score_of]
  walk_at "j"
  exact ⟨cms hx, .inr (cml hy)⟩
/-- the place of the first least (greatest) of some -/
theorem find_ints {α : Type} {f : α → Int} {v : Int} : ∀ {l : List α} {k j : Nat} {z : α}, l[j]? = some z → f z = v → (∀ (m : Nat) (y : α), m < j → l[m]? = some y → f y ≠ v) → findIx (.int v) (l.map fun y => D.int (f y)) k = some (k + j)
  | [], _, j, z, h, _, _ => by simp at h
  | x :: l, k, 0, z, h, e, _ => by
    simp at h
    subst h
    subst e
    simp [findIx, deq_int]
  | x :: l, k, j + 1, z, h, e, n => by
    have hx := n 0 x (by omega) rfl
    have ih := find_ints (l := l) (k := k + 1) (j := j) (z := z) (by simpa using h) e fun m y hm hy => n (m + 1) y (by omega) (by simpa using hy)
    simp only [List.map_cons, findIx, deq_int, hx, decide_false]
    rw [ih]
    congr 1
    omega
theorem scored_eq {k : Nat} {a z : Int} {late strict le : Bool} {xs : List Int} {j : Nat} {v : Int} (ha : -999 ≤ a ∧ a ≤ 999) (hx : ∀ x ∈ xs, -999 ≤ x ∧ x ≤ 999) (hz : atI xs (-1) = some z) (hj : xs[j]? = some v)
    (hv : ∀ (m : Nat) (y : Int), m < j → xs[m]? = some y → z * a * y ≠ z * a * v) (hm : ∀ y ∈ xs, if le then z * a * v ≤ z * a * y else z * a * y ≤ z * a * v) :
    CJ (k + 2) 7 [.v (headD a late strict), .v (.lst (xs.map rowD)), .v (.bl le)] = .ok (.v (.int (j : Nat)), [none, none, none]) := by
  refine eq_of (wp_callJ Has.h ?_)
  simp only [f7_scored_spot]
  walk_at "j"
  refine wp_lcM rowD (fun y => .v (.int (z * a * y))) xs (fun y hy => ?_) ?_
  · walk_at "j"
    refine ⟨z, hz, ?_⟩
    refine wp2_eq (score_eq ha (hx z (at_mem hz)) (hx y hy)) ?_
    walk_at "j"
  · walk_at "j"
    have hne : xs.map (HMul.hMul (z * a)) ≠ [] := by
      intro h
      rw [List.map_eq_nil_iff] at h
      subst h
      simp at hj
    have hsh : shp (.lst (xs.map fun y => D.int (z * a * y))) = true := by
      have := shp_ints (l := xs.map fun y => z * a * y)
      rw [List.map_map] at this
      exact this
    have hmem : z * a * v ∈ xs.map (HMul.hMul (z * a)) := List.mem_map_of_mem (List.mem_of_getElem? hj)
    have hf : findIx (.int (z * a * v)) (xs.map fun y => D.int (z * a * y)) 0 = some j := by
      rw [find_ints (f := fun y => z * a * y) hj rfl hv, Nat.zero_add]
    refine ⟨fun hle => ⟨hne, hsh, j, ?_, rfl⟩, fun hle => ⟨hne, hsh, j, ?_, rfl⟩⟩
    · rw [minL_eq hmem fun y m => ?_]
      · exact hf
      · rw [List.mem_map] at m
        obtain ⟨w, m, rfl⟩ := m
        have := hm w m
        rw [if_pos hle] at this
        exact this
    · rw [maxL_eq hmem fun y m => ?_]
      · exact hf
      · rw [List.mem_map] at m
        obtain ⟨w, m, rfl⟩ := m
        have := hm w m
        rw [if_neg (by rw [hle]; simp)] at this
        exact this
end J.K03

set_option Elab.async false
set_option linter.all false
set_option maxRecDepth 100000
set_option maxHeartbeats 4000000
namespace J.K03
open PySem PySem.Spec PyProof.Rows L2 J
theorem e_lf : (("last" : Str) = "first") = False := eq_false (by decide +kernel)
theorem e_sf : (("same" : Str) = "first") = False := eq_false (by decide +kernel)
theorem e_sl : (("same" : Str) = "last") = False := eq_false (by decide +kernel)
theorem e_rf : (("row" : Str) = "first") = False := eq_false (by decide +kernel)
theorem e_rl : (("row" : Str) = "last") = False := eq_false (by decide +kernel)
theorem e_rs : (("row" : Str) = "same") = False := eq_false (by decide +kernel)
theorem e_tf : (("least" : Str) = "first") = False := eq_false (by decide +kernel)
theorem e_tl : (("least" : Str) = "last") = False := eq_false (by decide +kernel)
theorem e_ts : (("least" : Str) = "same") = False := eq_false (by decide +kernel)
theorem e_tr : (("least" : Str) = "row") = False := eq_false (by decide +kernel)
theorem e_gf : (("greatest" : Str) = "first") = False := eq_false (by decide +kernel)
theorem e_gl : (("greatest" : Str) = "last") = False := eq_false (by decide +kernel)
theorem e_gs : (("greatest" : Str) = "same") = False := eq_false (by decide +kernel)
theorem e_gr : (("greatest" : Str) = "row") = False := eq_false (by decide +kernel)
theorem e_gt : (("greatest" : Str) = "least") = False := eq_false (by decide +kernel)
theorem e_no : (("new" : Str) = "old") = False := eq_false (by decide +kernel)
theorem e_self {x : Str} : (x = x) = True := eq_self x
theorem h_f : shp (.str "first") = true := by decide +kernel
theorem h_l : shp (.str "last") = true := by decide +kernel
theorem h_s : shp (.str "same") = true := by decide +kernel
theorem h_r : shp (.str "row") = true := by decide +kernel
theorem h_t : shp (.str "least") = true := by decide +kernel
theorem h_g : shp (.str "greatest") = true := by decide +kernel
theorem h_o : shp (.str "old") = true := by decide +kernel
theorem h_n : shp (.str "new") = true := by decide +kernel
local macro_rules | `(tactic| walk_at "j") => `(tactic| simp only [↓J.wp_ok, ↓J.wp_stk, ↓J.wp2_ok, ↓J.wp2_stk, ↓J.wp_bind, ↓J.wp_bnd, ↓J.wp2_bind, ↓J.wp2_bnd, ↓J.wp_some, ↓J.wp_none, ↓J.wp_if, ↓J.wp2_if, ↓J.wp2_fi, ↓J.wp_br, ↓J.wp2_br, ↓J.wp_var, ↓J.wp_pl, ↓J.wp_pk, ↓J.wp_i2, ↓J.wp_i2c, ↓J.wp_runF, ↓J.wp_at_map, ↓J.wp_minF, ↓J.wp_maxF, ↓J.wp_idxF, ↓J.wp_cntF, ↓J.wp_inDF, ↓J.wp_inFF, ↓J.wp_for_nil, ↓J.wp_for_cons, ↓J.wp_lc_nil, ↓J.wp_lc_cons, ↓J.wp_eqF, ↓J.wp_neF, ↓J.wp_lci_nil, ↓J.wp_lci_cons, ↓J.wp_lcj_nil, ↓J.wp_lcj_cons, ↓J.wp2_ifr, ↓J.wp_isNF, ↓J.wp_notNF, ↓J.wp_blF, ↓J.wp_isiF, ↓J.wp_isi2F, ↓J.w_evE_var, ↓J.w_evE_con, ↓J.w_evE_op, ↓J.w_evE_cmp, ↓J.w_evE_chn, ↓J.w_evE_neg, ↓J.w_evE_band, ↓J.w_evE_bor, ↓J.w_evE_bone, ↓J.w_evE_bnot, ↓J.w_evE_ife, ↓J.w_evE_fz, ↓J.w_evE_tup, ↓J.w_evE_cb, ↓J.w_evE_cbv, ↓J.w_evE_cmpv, ↓J.w_evE_cmpl, ↓J.w_evE_ix, ↓J.w_evE_slt, ↓J.w_evE_fld, ↓J.w_evE_pth, ↓J.w_evE_popAt, ↓J.w_evE_remI, ↓J.w_evE_isi, ↓J.w_evE_isi2, ↓J.w_evE_idx, ↓J.w_evE_cnt, ↓J.w_evQ_v, ↓J.w_evQ_dsp, ↓J.w_evQ_lst, ↓J.w_evQ_lc, ↓J.w_evQ_lc2, ↓J.w_evQ_call, ↓J.w_evQ_callM, ↓J.w_evQ_make, ↓J.w_evQ_list, ↓J.w_evQ_lrng, ↓J.w_evQ_sll, ↓J.w_evQ_cat, ↓J.w_evQ_rep, ↓J.w_evQ_callK, ↓J.w_evQ_makeK, ↓J.w_evQ_lrng2, ↓J.w_evT_cmp, ↓J.w_evT_chn, ↓J.w_evT_val, ↓J.w_evT_not, ↓J.w_evT_bw, ↓J.w_evT_cmpv, ↓J.w_evT_cmpl, ↓J.w_evW_and1, ↓J.w_evW_or1, ↓J.w_evW_and, ↓J.w_evW_or, ↓J.w_evO_no, ↓J.w_evO_so, ↓J.w_evA_nil, ↓J.w_evA_cons, ↓J.w_evA_star, ↓J.w_evAv_nil, ↓J.w_evAv_cons, ↓J.w_evAv_vw, ↓J.w_evQs_nil, ↓J.w_evQs_cons, ↓J.w_evVx_e, ↓J.w_evVx_p, ↓J.w_evI_sq, ↓J.w_evI_zip, ↓J.w_evI_zip3, ↓J.w_evI_enum, ↓J.w_evI_rng1, ↓J.w_evI_rng2, ↓J.w_evTs_nil, ↓J.w_evTs_one, ↓J.w_evS_set, ↓J.w_evS_setq, ↓J.w_evS_setc, ↓J.w_evS_asg, ↓J.w_evS_ret, ↓J.w_evS_retq, ↓J.w_evS_retN, ↓J.w_evS_exp, ↓J.w_evS_ite, ↓J.w_evS_for, ↓J.w_evS_wh, ↓J.w_evS_pass, ↓J.w_evS_brk, ↓J.w_evS_cnt, ↓J.w_evS_never, ↓J.w_evS_app, ↓J.w_evS_appP, ↓J.w_evS_ext, ↓J.w_evS_fld, ↓J.w_evS_par, ↓J.w_evS_par3, ↓J.w_evS_unp, ↓J.w_evSs_nil, ↓J.w_evSs_cons, ↓J.w_evG_nm, ↓J.w_evG_tup, ↓J.w_evG_set, ↓J.w_evG_fld, ↓J.w_evGs_nil, ↓J.w_evGs_cons, id_eq, J.putAt, Int.cast_ofNat_Int, J.isNon, J.tyK, J.nth_z, J.nth_s, List.set_cons_zero, List.set_cons_succ, J.rootP, J.ofP, J.ofU, J.pfIx, J.pfFld, J.pfNil, J.getP, J.setP, J.kids, J.intsF, J.blsF, J.intsOf_map, J.blsOf_map, J.intsOf_mapf, J.blsOf_mapf, J.toDs_map, J.intsOf, J.blsOf, Option.map_some, J.eqFl_ss, J.eqFl_ii, J.eqFl_si, J.eqFl_is, J.eqFl_nn, J.eqFl_sn, J.eqFl_ns, J.eqFl_in, J.eqFl_ni, J.flat, List.sum_cons, List.sum_nil, Int.add_zero, List.all_cons, List.all_nil, List.any_cons, List.any_nil, J.zipD, J.zipD3, J.deq_tup, J.deq_lst, J.deq_int, J.deq_str, J.deq_bl, J.deq_non, J.deqs_nil, J.deqs_cons, J.deqs_nc, J.deqs_cn, J.deqs_ints, J.deqs_ints_nil, J.shp_ints, J.shp_nil, J.shp_int, J.withKids, J.wipeB, J.mrg, J.keepB, J.ownV, J.endsB, J.toD, J.toDs, J.toDs_v, J.puNeg, J.puOp, J.opF, J.cmpF, J.bfF, J.on1, J.on2, J.startB, J.finB, J.memN_n, J.memN_c, List.map_cons, List.map_nil, List.cons_append, List.nil_append, List.length_cons, List.length_nil, List.length_map, List.replicate, J.ix0, J.ix1, J.ix2, J.ix3, J.ix4, J.ix5, J.ixm1, J.at0, J.at1, J.at2, J.at3, J.at4, J.atm1, J.atm2, J.atm3, J.items, J.intF, J.absF, J.boolF, List.getElem?_cons_zero, List.getElem?_cons_succ, List.eraseIdx_zero, ↓reduceIte, Nat.reduceAdd, Nat.reduceSub, Int.reduceNeg, Int.reduceLT, Int.reduceLE, Int.reduceEq, Int.reduceMul, Int.reduceSub, Int.reduceToNat, Nat.reduceLT, Nat.reduceLeDiff, decide_eq_true_eq, decide_eq_false_iff_not, true_and, and_true, Int.reduceAdd, Int.reducePow, Int.reduceMul, Int.reduceMod, Nat.reduceEqDiff, Bool.or_false, Bool.false_or, Bool.true_or, Bool.or_true, Bool.and_true, Bool.true_and, Bool.and_false, Bool.false_and, Bool.not_true, Bool.not_false, decide_true, decide_false, forall_const, false_and, and_false, and_self, false_implies, implies_true, true_implies, reduceCtorEq, Bool.true_eq_false, Bool.false_eq_true, not_true_eq_false, not_false_eq_true, if_true, if_false, J.K03.fx_scores, J.K03.fx_none, J.K03.fx_late, J.K03.fx_strict, J.K03.fx_hlen, J.K03.fx_heads, J.K03.fx_table, J.K03.fx_shift, J.K03.fx_cap, J.K03.fx_llen, J.K03.fx_rows, J.K03.fx_layers, J.K03.fx_worths, J.K03.fx_letters, J.K03.fx_lengths, J.K03.fx_players, J.K03.e_lf, J.K03.e_sf, J.K03.e_sl, J.K03.e_rf, J.K03.e_rl, J.K03.e_rs, J.K03.e_tf, J.K03.e_tl, J.K03.e_ts, J.K03.e_tr, J.K03.e_gf, J.K03.e_gl, J.K03.e_gs, J.K03.e_gr, J.K03.e_gt, J.K03.e_no, J.K03.e_self, J.K03.h_f, J.K03.h_l, J.K03.h_s, J.K03.h_r, J.K03.h_t, J.K03.h_g, J.K03.h_o, J.K03.h_n])
abbrev layD (a b : Int) : D := .obj 2 [.tup [headD a true false, headD b false true], .tup [.tup [.int 1, .int 1, .int 1]], .tup [.int 0], .int 9, .int 1]
abbrev optD : Option Nat → D
  | some j => .int (j : Nat)
  | none => .non
def pFirst (s : Nat) (xs : List Int) : Option Nat := if s < xs.length then some s else none
def pLast (s : Nat) (xs : List Int) : Option Nat := if s < xs.length then some (xs.length - 1 - s) else none
theorem first_eq {k s : Nat} {a b : Int} {xs : List Int} : CJ (k + 1) 6 [.v (layD a b), .v (.tup [.str "first", .int (s : Nat)]), .v (.lst (xs.map rowD))] = .ok (.v (optD (pFirst s xs)), [none, none, none]) := by
  refine eq_of (wp_callJ Has.h ?_)
  simp only [f6_spot_by]
  walk_at "j"
  unfold pFirst
  refine ⟨fun h => ?_, fun h => ?_⟩
  · rw [if_pos (by omega)]
  · rw [if_neg (by omega)]
theorem last_eq {k s : Nat} {a b : Int} {xs : List Int} : CJ (k + 1) 6 [.v (layD a b), .v (.tup [.str "last", .int (s : Nat)]), .v (.lst (xs.map rowD))] = .ok (.v (optD (pLast s xs)), [none, none, none]) := by
  refine eq_of (wp_callJ Has.h ?_)
  simp only [f6_spot_by]
  walk_at "j"
  unfold pLast
  refine ⟨fun h => ?_, fun h => ?_⟩
  · rw [if_pos (by omega)]
    congr 2
    omega
  · rw [if_neg (by omega)]
/-! ### the loop -/
theorem onlyL_map {l : List D} : onlyL (.lst (l.map .v)) = true := by
  show onlyLs (l.map .v) = true
  induction l with
  | nil => rfl
  | cons a l ih => exact ih
theorem toDs_fm {α : Type} (p : α → Option Nat) : ∀ l : List α, toDs (l.filterMap fun r => (p r).map fun j => T.v (.int (j : Nat))) = ((l.filterMap p).map fun j : Nat => (j : Int)).map .int
  | [] => rfl
  | r :: l => by
    rw [List.filterMap_cons, List.filterMap_cons]
    cases e : p r with
    | none => exact toDs_fm p l
    | some j => exact congrArg (D.int (j : Nat) :: ·) (toDs_fm p l)
def pickOf (rs : List (D × (List Int → Option Nat))) (xs : List Int) : Nat := ((rs.filterMap fun r => r.2 xs).head?).getD 0
def dropL (p : List Int → Nat) (most : Nat) : Nat → List Int → List Int
  | 0, xs => xs
  | n + 1, xs => if most < xs.length then dropL p most n (xs.eraseIdx (p xs)) else xs
theorem dropped_eq {k : Nat} {a b : Int} {most : Nat} {rs : List (D × (List Int → Option Nat))} (Good : List Int → Prop) (hg : ∀ xs j, Good xs → Good (xs.eraseIdx j))
    (hr : ∀ r ∈ rs, ∀ xs, Good xs → xs ≠ [] → CJ k 6 [.v (layD a b), .v r.1, .v (.lst (xs.map rowD))] = .ok (.v (optD (r.2 xs)), [none, none, none]))
    (hp : ∀ r ∈ rs, ∀ xs j, Good xs → xs ≠ [] → r.2 xs = some j → j < xs.length) {xs : List Int} (hx : Good xs) (hl : xs.length ≤ 1000) :
    CJ (k + 1) 5 [.v (layD a b), .v (.tup [.int (most : Nat), .tup (rs.map (·.1))]), .v (.tup (xs.map rowD))] = .ok (.v (.tup ((dropL (pickOf rs) most xs.length xs).map rowD)), [none, none, none]) := by
  refine eq_of (wp_callJ Has.h ?_)
  simp only [f5_dropped]
  walk_at "j"
  refine wp_while (fun m ρ => ∃ (l : List Int) (s6 : Option T), l.length = m ∧ Good l ∧ dropL (pickOf rs) most l.length l = dropL (pickOf rs) most xs.length xs ∧ l.length ≤ 1000 ∧
    ρ = [some (.v (layD a b)), some (.v (.tup [.int (most : Nat), .tup (rs.map (·.1))])), some (.v (.tup (xs.map rowD))), some (.v (.int (most : Nat))), some (.v (.tup (rs.map (·.1)))), some (.lst ((l.map rowD).map .v)), s6, none, none]) ?_ _ xs.length _ (by omega) ⟨xs, none, rfl, hx, rfl, hl, rfl⟩
  rintro m ρ ⟨l, s6, hlm, hgl, hdl, hl1, rfl⟩
  walk_at "j"
  refine ⟨fun hm => ?_, fun hm => ?_⟩
  · have hne : l ≠ [] := fun z => by subst z; simp at hm; omega
    refine wp_lcM (fun r : D × (List Int → Option Nat) => r.1) (fun r => .v (optD (r.2 l))) rs (fun r hrm => ?_) ?_
    · walk_at "j"
      refine ⟨onlyL_map, ?_⟩
      refine wp2_eq (hr r hrm l hgl hne) ?_
      walk_at "j"
      cases r.2 l <;> exact fun z => by cases z
    · walk_at "j"
      refine wp_lcL (fun r : D × (List Int → Option Nat) => optD (r.2 l)) (fun r => (r.2 l).map fun j => T.v (.int (j : Nat))) rs [] (fun r hrm => ?_) ?_
      · walk_at "j"
        generalize r.2 l = o
        cases o with
        | none =>
          simp only [optD]
          walk_at "j"
          rfl
        | some j =>
          simp only [optD]
          walk_at "j"
      · walk_at "j"
        simp only [toDs_fm]
        have hpk : pickOf rs l = (((rs.filterMap fun r => r.2 l)).head?).getD 0 := rfl
        have hjs : ∀ j ∈ rs.filterMap (fun r => r.2 l), j < l.length := fun j hj => by
          obtain ⟨r, hr1, hr2⟩ := List.mem_filterMap.mp hj
          exact hp r hr1 l j hgl hne hr2
        generalize rs.filterMap (fun r => r.2 l) = js at hpk hjs ⊢
        have hsx : dropL (pickOf rs) most (m - 1) (l.eraseIdx (pickOf rs l)) = dropL (pickOf rs) most xs.length xs := by
          rw [← hdl]
          obtain ⟨n, hn⟩ : ∃ n, l.length = n + 1 := ⟨l.length - 1, by omega⟩
          rw [hn]
          show _ = if most < l.length then _ else _
          rw [if_pos (by omega), show m - 1 = n by omega]
        refine ⟨shp_ints, fun hj => ?_, fun hj => ?_⟩
        · have hj' : js ≠ [] := by
            rintro rfl
            simp [deqs_nil] at hj
          obtain ⟨j, js', rfl⟩ := List.exists_cons_of_ne_nil hj'
          have hjl := hjs j List.mem_cons_self
          have e1 : ixN l.length (j : Nat) = some j := by
            unfold ixN
            rw [if_pos (by omega), if_pos (by omega), Int.toNat_natCast]
          have e2 : ((l.map rowD).map T.v)[j]? = some (.v (rowD l[j])) := by
            rw [List.getElem?_map, List.getElem?_map, List.getElem?_eq_getElem hjl]
            rfl
          walk_at "j"
          refine ⟨(j : Nat), rfl, ?_⟩
          simp only [e1]
          walk_at "j"
          simp only [e2]
          walk_at "j"
          have hk : pickOf rs l = j := hpk
          rw [hk] at hsx
          refine ⟨⟨by omega, by omega⟩, m - 1, by omega, l.eraseIdx j, _, ?_, hg l j hgl, ?_, ?_, by rw [map_erase, map_erase]⟩
          · rw [List.length_eraseIdx, if_pos hjl]; omega
          · rw [List.length_eraseIdx, if_pos hjl, hlm]; exact hsx
          · rw [List.length_eraseIdx, if_pos hjl]; omega
        · have hj' : js = [] := by
            cases js with
            | nil => rfl
            | cons j js' => simp [deqs_nc, deqs_cn] at hj
          subst hj'
          have hk : pickOf rs l = 0 := hpk
          rw [hk] at hsx
          obtain ⟨x, l', rfl⟩ := List.exists_cons_of_ne_nil hne
          simp only [List.length_cons, ix0]
          walk_at "j"
          refine ⟨m - 1, by omega, l', _, ?_, hg (x :: l') 0 hgl, ?_, ?_, rfl⟩
          · rw [← hlm]; rfl
          · rw [show l'.length = m - 1 by rw [← hlm]; rfl]; exact hsx
          · have : l'.length + 1 = m := hlm
            omega
  · rw [← hdl]
    have : dropL (pickOf rs) most l.length l = l := by
      cases hl2 : l.length with
      | zero => rfl
      | succ n =>
        unfold dropL
        rw [if_neg (by omega)]
    rw [this]
end J.K03

set_option Elab.async false
set_option linter.all false
set_option maxRecDepth 100000
set_option maxHeartbeats 4000000
namespace J.K03
open PySem PySem.Spec PyProof.Rows L2 J
local macro_rules | `(tactic| walk_at "j") => `(tactic| simp only [↓J.wp_ok, ↓J.wp_stk, ↓J.wp2_ok, ↓J.wp2_stk, ↓J.wp_bind, ↓J.wp_bnd, ↓J.wp2_bind, ↓J.wp2_bnd, ↓J.wp_some, ↓J.wp_none, ↓J.wp_if, ↓J.wp2_if, ↓J.wp2_fi, ↓J.wp_br, ↓J.wp2_br, ↓J.wp_var, ↓J.wp_pl, ↓J.wp_pk, ↓J.wp_i2, ↓J.wp_i2c, ↓J.wp_runF, ↓J.wp_at_map, ↓J.wp_minF, ↓J.wp_maxF, ↓J.wp_idxF, ↓J.wp_cntF, ↓J.wp_inDF, ↓J.wp_inFF, ↓J.wp_for_nil, ↓J.wp_for_cons, ↓J.wp_lc_nil, ↓J.wp_lc_cons, ↓J.wp_eqF, ↓J.wp_neF, ↓J.wp_lci_nil, ↓J.wp_lci_cons, ↓J.wp_lcj_nil, ↓J.wp_lcj_cons, ↓J.wp2_ifr, ↓J.wp_isNF, ↓J.wp_notNF, ↓J.wp_blF, ↓J.wp_isiF, ↓J.wp_isi2F, ↓J.w_evE_var, ↓J.w_evE_con, ↓J.w_evE_op, ↓J.w_evE_cmp, ↓J.w_evE_chn, ↓J.w_evE_neg, ↓J.w_evE_band, ↓J.w_evE_bor, ↓J.w_evE_bone, ↓J.w_evE_bnot, ↓J.w_evE_ife, ↓J.w_evE_fz, ↓J.w_evE_tup, ↓J.w_evE_cb, ↓J.w_evE_cbv, ↓J.w_evE_cmpv, ↓J.w_evE_cmpl, ↓J.w_evE_ix, ↓J.w_evE_slt, ↓J.w_evE_fld, ↓J.w_evE_pth, ↓J.w_evE_popAt, ↓J.w_evE_remI, ↓J.w_evE_isi, ↓J.w_evE_isi2, ↓J.w_evE_idx, ↓J.w_evE_cnt, ↓J.w_evQ_v, ↓J.w_evQ_dsp, ↓J.w_evQ_lst, ↓J.w_evQ_lc, ↓J.w_evQ_lc2, ↓J.w_evQ_call, ↓J.w_evQ_callM, ↓J.w_evQ_make, ↓J.w_evQ_list, ↓J.w_evQ_lrng, ↓J.w_evQ_sll, ↓J.w_evQ_cat, ↓J.w_evQ_rep, ↓J.w_evQ_callK, ↓J.w_evQ_makeK, ↓J.w_evQ_lrng2, ↓J.w_evT_cmp, ↓J.w_evT_chn, ↓J.w_evT_val, ↓J.w_evT_not, ↓J.w_evT_bw, ↓J.w_evT_cmpv, ↓J.w_evT_cmpl, ↓J.w_evW_and1, ↓J.w_evW_or1, ↓J.w_evW_and, ↓J.w_evW_or, ↓J.w_evO_no, ↓J.w_evO_so, ↓J.w_evA_nil, ↓J.w_evA_cons, ↓J.w_evA_star, ↓J.w_evAv_nil, ↓J.w_evAv_cons, ↓J.w_evAv_vw, ↓J.w_evQs_nil, ↓J.w_evQs_cons, ↓J.w_evVx_e, ↓J.w_evVx_p, ↓J.w_evI_sq, ↓J.w_evI_zip, ↓J.w_evI_zip3, ↓J.w_evI_enum, ↓J.w_evI_rng1, ↓J.w_evI_rng2, ↓J.w_evTs_nil, ↓J.w_evTs_one, ↓J.w_evS_set, ↓J.w_evS_setq, ↓J.w_evS_setc, ↓J.w_evS_asg, ↓J.w_evS_ret, ↓J.w_evS_retq, ↓J.w_evS_retN, ↓J.w_evS_exp, ↓J.w_evS_ite, ↓J.w_evS_for, ↓J.w_evS_wh, ↓J.w_evS_pass, ↓J.w_evS_brk, ↓J.w_evS_cnt, ↓J.w_evS_never, ↓J.w_evS_app, ↓J.w_evS_appP, ↓J.w_evS_ext, ↓J.w_evS_fld, ↓J.w_evS_par, ↓J.w_evS_par3, ↓J.w_evS_unp, ↓J.w_evSs_nil, ↓J.w_evSs_cons, ↓J.w_evG_nm, ↓J.w_evG_tup, ↓J.w_evG_set, ↓J.w_evG_fld, ↓J.w_evGs_nil, ↓J.w_evGs_cons, id_eq, J.putAt, Int.cast_ofNat_Int, J.isNon, J.tyK, J.nth_z, J.nth_s, List.set_cons_zero, List.set_cons_succ, J.rootP, J.ofP, J.ofU, J.pfIx, J.pfFld, J.pfNil, J.getP, J.setP, J.kids, J.intsF, J.blsF, J.intsOf_map, J.blsOf_map, J.intsOf_mapf, J.blsOf_mapf, J.toDs_map, J.intsOf, J.blsOf, Option.map_some, J.eqFl_ss, J.eqFl_ii, J.eqFl_si, J.eqFl_is, J.eqFl_nn, J.eqFl_sn, J.eqFl_ns, J.eqFl_in, J.eqFl_ni, J.flat, List.sum_cons, List.sum_nil, Int.add_zero, List.all_cons, List.all_nil, List.any_cons, List.any_nil, J.zipD, J.zipD3, J.deq_tup, J.deq_lst, J.deq_int, J.deq_str, J.deq_bl, J.deq_non, J.deqs_nil, J.deqs_cons, J.deqs_nc, J.deqs_cn, J.deqs_ints, J.deqs_ints_nil, J.shp_ints, J.shp_nil, J.shp_int, J.withKids, J.wipeB, J.mrg, J.keepB, J.ownV, J.endsB, J.toD, J.toDs, J.toDs_v, J.puNeg, J.puOp, J.opF, J.cmpF, J.bfF, J.on1, J.on2, J.startB, J.finB, J.memN_n, J.memN_c, List.map_cons, List.map_nil, List.cons_append, List.nil_append, List.length_cons, List.length_nil, List.length_map, List.replicate, J.ix0, J.ix1, J.ix2, J.ix3, J.ix4, J.ix5, J.ixm1, J.at0, J.at1, J.at2, J.at3, J.at4, J.atm1, J.atm2, J.atm3, J.items, J.intF, J.absF, J.boolF, List.getElem?_cons_zero, List.getElem?_cons_succ, List.eraseIdx_zero, ↓reduceIte, Nat.reduceAdd, Nat.reduceSub, Int.reduceNeg, Int.reduceLT, Int.reduceLE, Int.reduceEq, Int.reduceMul, Int.reduceSub, Int.reduceToNat, Nat.reduceLT, Nat.reduceLeDiff, decide_eq_true_eq, decide_eq_false_iff_not, true_and, and_true, Int.reduceAdd, Int.reducePow, Int.reduceMul, Int.reduceMod, Nat.reduceEqDiff, Bool.or_false, Bool.false_or, Bool.true_or, Bool.or_true, Bool.and_true, Bool.true_and, Bool.and_false, Bool.false_and, Bool.not_true, Bool.not_false, decide_true, decide_false, forall_const, false_and, and_false, and_self, false_implies, implies_true, true_implies, reduceCtorEq, Bool.true_eq_false, Bool.false_eq_true, not_true_eq_false, not_false_eq_true, if_true, if_false, J.K03.fx_scores, J.K03.fx_none, J.K03.fx_late, J.K03.fx_strict, J.K03.fx_hlen, J.K03.fx_heads, J.K03.fx_table, J.K03.fx_shift, J.K03.fx_cap, J.K03.fx_llen, J.K03.fx_rows, J.K03.fx_layers, J.K03.fx_worths, J.K03.fx_letters, J.K03.fx_lengths, J.K03.fx_players, J.K03.e_lf, J.K03.e_sf, J.K03.e_sl, J.K03.e_rf, J.K03.e_rl, J.K03.e_rs, J.K03.e_tf, J.K03.e_tl, J.K03.e_ts, J.K03.e_tr, J.K03.e_gf, J.K03.e_gl, J.K03.e_gs, J.K03.e_gr, J.K03.e_gt, J.K03.e_no, J.K03.e_self, J.K03.h_f, J.K03.h_l, J.K03.h_s, J.K03.h_r, J.K03.h_t, J.K03.h_g, J.K03.h_o, J.K03.h_n])
/-! ### doubles -/
theorem deq_row {x y : Int} : deq (rowD x) (rowD y) = decide (x = y) := by
  unfold rowD
  rw [deq_tup, deqs_cons, deqs_nil, deq_int, Bool.and_true]
theorem enumD_map {α : Type} {f : α → D} (l : List α) : enumD (l.map f) = l.zipIdx.map fun p => D.tup [.int (p.2 : Nat), f p.1] := by
  unfold enumD
  rw [List.zipIdx_map, List.map_map]
  rfl
def sameJ (xs : List Int) : List Nat := xs.zipIdx.filterMap fun p => if 1 < xs.countP (fun z => decide (z = p.1)) then some p.2 else none
def pSame (new : Bool) (xs : List Int) : Option Nat := if new then (sameJ xs).getLast? else (sameJ xs).head?
theorem shp_rows {xs : List Int} : shp (.lst (xs.map rowD)) = true := by
  refine (shpN_lst (n := 1) fun d m => ?_).shp (by decide)
  rw [List.mem_map] at m
  obtain ⟨i, _, rfl⟩ := m
  refine shpN_tup fun d m => ?_
  rw [List.mem_singleton] at m
  subst m
  exact shpN_int
theorem shp_row {x : Int} : shp (rowD x) = true := by
  refine (shpN_tup (n := 0) fun d m => ?_).shp (by decide)
  rw [List.mem_singleton] at m
  subst m
  exact shpN_int
theorem same_eq {k : Nat} {xs : List Int} : CJ (k + 1) 9 [.v (.lst (xs.map rowD))] = .ok (.v (.lst (((sameJ xs).map fun j : Nat => (j : Int)).map .int)), [none]) := by
  refine eq_of (wp_callJ Has.h ?_)
  simp only [f9_same_spots]
  walk_at "j"
  rw [enumD_map]
  refine wp_lcL (fun p : Int × Nat => D.tup [.int (p.2 : Nat), rowD p.1]) (fun p => if 1 < xs.countP (fun z => decide (z = p.1)) then some (T.v (.int (p.2 : Nat))) else none) xs.zipIdx [] (fun p hp => ?_) ?_
  · walk_at "j"
    refine ⟨⟨shp_rows, shp_row⟩, ?_⟩
    have e : (xs.map rowD).countP (fun z => deq z (rowD p.1)) = xs.countP (fun z => decide (z = p.1)) := by
      rw [List.countP_map]
      congr 1
      funext z
      exact deq_row
    rw [e]
    refine ⟨fun h => ?_, fun h => ?_⟩
    · rw [if_pos (by omega)]
    · rw [if_neg (by omega)]
  · walk_at "j"
    have e : (xs.zipIdx.filterMap fun p => if 1 < xs.countP (fun z => decide (z = p.1)) then some (T.v (.int (p.2 : Nat))) else none) = xs.zipIdx.filterMap fun p => ((fun p : Int × Nat => if 1 < xs.countP (fun z => decide (z = p.1)) then some p.2 else none) p).map fun j => T.v (.int (j : Nat)) := by
      congr 1
      funext p
      show _ = (if 1 < xs.countP (fun z => decide (z = p.1)) then some p.2 else none).map _
      split <;> rfl
    rw [e, toDs_fm]
    rfl
theorem spot_same {k : Nat} {a b : Int} {xs : List Int} (new : Bool) : CJ (k + 2) 6 [.v (layD a b), .v (.tup [.str "same", .str (if new then "new" else "old")]), .v (.lst (xs.map rowD))] = .ok (.v (optD (pSame new xs)), [none, none, none]) := by
  refine eq_of (wp_callJ Has.h ?_)
  simp only [f6_spot_by]
  walk_at "j"
  refine wp2_eq same_eq ?_
  walk_at "j"
  have e1 : atI ((sameJ xs).map fun j : Nat => (j : Int)) 0 = (sameJ xs).head?.map fun j : Nat => (j : Int) := by
    cases sameJ xs with
    | nil => rfl
    | cons x l => exact at0
  have e2 : atI ((sameJ xs).map fun j : Nat => (j : Int)) (-1) = (sameJ xs).getLast?.map fun j : Nat => (j : Int) := by
    cases h : sameJ xs with
    | nil => rfl
    | cons x l =>
      unfold atI
      rw [List.map_cons, List.length_cons, ixm1, List.getLast?_eq_getElem?]
      show ((x :: l).map fun j : Nat => (j : Int))[(l.map fun j : Nat => (j : Int)).length]? = _
      rw [List.getElem?_map, List.length_map]
      rfl
  refine ⟨fun h => ?_, fun h => ⟨?_, fun h2 => ?_, fun h2 => ?_⟩⟩
  · rw [List.map_eq_nil_iff] at h
    unfold pSame
    rw [h]
    cases new <;> rfl
  · cases new
    · exact h_o
    · exact h_n
  · cases new with
    | true =>
      rw [if_pos rfl, e_no] at h2
      exact h2.elim
    | false =>
      cases e : sameJ xs with
      | nil => rw [e] at h; exact absurd rfl h
      | cons x l =>
        rw [e] at e1
        refine ⟨(x : Nat), e1, ?_⟩
        unfold pSame
        rw [e]
        rfl
  · cases new with
    | false => exact absurd rfl h2
    | true =>
      cases e : (sameJ xs).getLast? with
      | none =>
        rw [List.getLast?_eq_none_iff] at e
        rw [e] at h
        exact absurd rfl h
      | some x =>
        rw [e] at e2
        refine ⟨(x : Nat), e2, ?_⟩
        unfold pSame
        rw [if_pos rfl, e]
/-! ### a told row -/
def pRow (x : Int) : List Int → Option Nat
  | [] => none
  | y :: l => if y = x then some 0 else (pRow x l).map (· + 1)
theorem findIx_row {x : Int} : ∀ {l : List Int} {k : Nat}, findIx (rowD x) (l.map rowD) k = (pRow x l).map (k + ·)
  | [], _ => rfl
  | y :: l, k => by
    by_cases h : y = x
    · subst h
      simp [findIx, deq_row, pRow]
    · simp only [List.map_cons, findIx, deq_row, h, decide_false, pRow, if_false]
      rw [findIx_row]
      cases pRow x l with
      | none => rfl
      | some j => simp only [Option.map_some]; congr 1; omega
theorem any_row {x : Int} : ∀ {l : List Int}, (l.map rowD).any (fun z => deq z (rowD x)) = (pRow x l).isSome
  | [] => rfl
  | y :: l => by
    by_cases h : y = x
    · subst h
      simp [deq_row, pRow]
    · simp only [List.map_cons, List.any_cons, deq_row, h, decide_false, pRow, if_false, Bool.false_or]
      rw [any_row]
      cases pRow x l <;> rfl
theorem spot_row {k : Nat} {a b x : Int} {xs : List Int} : CJ (k + 1) 6 [.v (layD a b), .v (.tup [.str "row", rowD x]), .v (.lst (xs.map rowD))] = .ok (.v (optD (pRow x xs)), [none, none, none]) := by
  refine eq_of (wp_callJ Has.h ?_)
  simp only [f6_spot_by]
  walk_at "j"
  rw [any_row]
  refine ⟨⟨shp_row, shp_rows⟩, fun h => ⟨⟨shp_rows, shp_row⟩, ?_⟩, fun h => ?_⟩
  · obtain ⟨j, e⟩ := Option.isSome_iff_exists.mp h
    refine ⟨j, ?_, ?_⟩
    · rw [findIx_row, e]
      simp
    · rw [e]
  · rw [Option.isSome_eq_false_iff, Option.isNone_iff_eq_none] at h
    rw [h]
/-! ### scores -/
def Good (xs : List Int) : Prop := ∀ x ∈ xs, 1 ≤ x ∧ x ≤ 8
theorem Good.erase {xs : List Int} {j : Nat} (h : Good xs) : Good (xs.eraseIdx j) := fun x m => h x (List.mem_of_mem_eraseIdx m)
def pSc (high : Bool) (xs : List Int) : Option Nat := some (xs.idxOf (if high then maxL xs else minL xs))
theorem minL_mem {l : List Int} (h : l ≠ []) : minL l ∈ l := by
  obtain ⟨x, l', rfl⟩ := List.exists_cons_of_ne_nil h
  rcases minI_mem l' x with e | e
  · show minI x l' ∈ _
    rw [e]; exact List.mem_cons_self
  · exact List.mem_cons_of_mem _ e
theorem maxL_mem {l : List Int} (h : l ≠ []) : maxL l ∈ l := by
  obtain ⟨x, l', rfl⟩ := List.exists_cons_of_ne_nil h
  rcases maxI_mem l' x with e | e
  · show maxI x l' ∈ _
    rw [e]; exact List.mem_cons_self
  · exact List.mem_cons_of_mem _ e
theorem minL_le {l : List Int} {y : Int} (h : y ∈ l) : minL l ≤ y := by
  obtain ⟨x, l', rfl⟩ := List.exists_cons_of_ne_nil (List.ne_nil_of_mem h)
  have h1 := minI_le l' x
  rcases List.mem_cons.mp h with rfl | m
  · exact h1.1
  · exact h1.2 y m
theorem le_maxL {l : List Int} {y : Int} (h : y ∈ l) : y ≤ maxL l := by
  obtain ⟨x, l', rfl⟩ := List.exists_cons_of_ne_nil (List.ne_nil_of_mem h)
  have h1 := maxI_le l' x
  rcases List.mem_cons.mp h with rfl | m
  · exact h1.1
  · exact h1.2 y m
theorem last_at {xs : List Int} (h : xs ≠ []) : ∃ z, atI xs (-1) = some z := by
  obtain ⟨x, l, rfl⟩ := List.exists_cons_of_ne_nil h
  unfold atI
  rw [List.length_cons, ixm1]
  exact ⟨(x :: l)[l.length], List.getElem?_eq_getElem (by simp)⟩
theorem spot_sc {k : Nat} {a b : Int} {xs : List Int} (ha : 1 ≤ a ∧ a ≤ 9) (hb : -9 ≤ b ∧ b ≤ -1) (hg : Good xs) (hne : xs ≠ []) (great h1 : Bool) :
    CJ (k + 3) 6 [.v (layD a b), .v (.tup [.str (if great then "greatest" else "least"), .int (if h1 then 1 else 0)]), .v (.lst (xs.map rowD))] = .ok (.v (optD (pSc (great ^^ h1) xs)), [none, none, none]) := by
  obtain ⟨z, hz⟩ := last_at hne
  have hz1 := hg z (at_mem hz)
  have hx : ∀ x ∈ xs, -999 ≤ x ∧ x ≤ 999 := fun x m => by
    have := hg x m
    omega
  have ix : ∀ v ∈ xs, xs[xs.idxOf v]? = some v ∧ ∀ (m : Nat) (y : Int), m < xs.idxOf v → xs[m]? = some y → y ≠ v := fun v hv => by
    have hl := List.idxOf_lt_length_of_mem hv
    refine ⟨by rw [List.getElem?_eq_getElem hl, List.getElem_idxOf hl], fun m y hm hy e => ?_⟩
    have h1 := List.not_of_lt_findIdx (p := fun x => x == v) hm
    obtain ⟨h3, h4⟩ := List.getElem?_eq_some_iff.mp hy
    rw [h4, e] at h1
    simp at h1
  have hza : 0 < z * a := Int.mul_pos (by omega) (by omega)
  have hzb : z * b < 0 := Int.mul_neg_of_pos_of_neg (by omega) (by omega)
  have nea : ∀ y v : Int, y ≠ v → z * a * y ≠ z * a * v := fun y v h e => h (Int.eq_of_mul_eq_mul_left (by omega) e)
  have neb : ∀ y v : Int, y ≠ v → z * b * y ≠ z * b * v := fun y v h e => h (Int.eq_of_mul_eq_mul_left (by omega) e)
  have lea : ∀ y v : Int, y ≤ v → z * a * y ≤ z * a * v := fun y v h => Int.mul_le_mul_of_nonneg_left h (by omega)
  have leb : ∀ y v : Int, y ≤ v → z * b * v ≤ z * b * y := fun y v h => Int.mul_le_mul_of_nonpos_left (by omega) h
  obtain ⟨n1, n2⟩ := ix _ (minL_mem hne)
  obtain ⟨x1, x2⟩ := ix _ (maxL_mem hne)
  refine eq_of (wp_callJ Has.h ?_)
  cases great <;> cases h1 <;> simp only [f6_spot_by, Bool.false_eq_true, if_false, if_true]
  · walk_at "j"
    refine wp2_eq (scored_eq (j := xs.idxOf (minL xs)) (v := minL xs) (by omega) hx hz n1 (fun m y h1 h2 => nea _ _ (n2 m y h1 h2)) (fun y m => ?_)) ?_
    · exact lea _ _ (minL_le m)
    · walk_at "j"
      rfl
  · walk_at "j"
    refine wp2_eq (scored_eq (j := xs.idxOf (maxL xs)) (v := maxL xs) (by omega) hx hz x1 (fun m y h1 h2 => neb _ _ (x2 m y h1 h2)) (fun y m => ?_)) ?_
    · exact leb _ _ (le_maxL m)
    · walk_at "j"
      rfl
  · walk_at "j"
    refine wp2_eq (scored_eq (j := xs.idxOf (maxL xs)) (v := maxL xs) (by omega) hx hz x1 (fun m y h1 h2 => nea _ _ (x2 m y h1 h2)) (fun y m => ?_)) ?_
    · exact lea _ _ (le_maxL m)
    · walk_at "j"
      rfl
  · walk_at "j"
    refine wp2_eq (scored_eq (j := xs.idxOf (minL xs)) (v := minL xs) (by omega) hx hz n1 (fun m y h1 h2 => neb _ _ (n2 m y h1 h2)) (fun y m => ?_)) ?_
    · exact leb _ _ (minL_le m)
    · walk_at "j"
      rfl
end J.K03

set_option Elab.async false
set_option linter.all false
set_option maxRecDepth 100000
set_option maxHeartbeats 4000000
namespace J.K03
open PySem PySem.Spec PyProof.Rows L2 J
theorem kt_ii : kt (.b .int) (.b .int) = some true := by decide +kernel
theorem kt_ib : kt (.b .int) (.b .bl) = some false := by decide +kernel
theorem kt_bi : kt (.b .bl) (.b .int) = some true := by decide +kernel
theorem kt_bb : kt (.b .bl) (.b .bl) = some true := by decide +kernel
theorem kt_ss : kt (.b .str) (.b .str) = some true := by decide +kernel
theorem kt_tl : kt (.b .tup) (.b .lst) = some false := by decide +kernel
theorem kt_tt : kt (.b .tup) (.b .tup) = some true := by decide +kernel
theorem kt_ll : kt (.b .lst) (.b .lst) = some true := by decide +kernel
theorem kt_lt : kt (.b .lst) (.b .tup) = some false := by decide +kernel
theorem kt_il : kt (.b .int) (.b .lst) = some false := by decide +kernel
theorem kt_it : kt (.b .int) (.b .tup) = some false := by decide +kernel
theorem kt_sl : kt (.b .str) (.b .lst) = some false := by decide +kernel
theorem kt_st : kt (.b .str) (.b .tup) = some false := by decide +kernel
theorem kt_c0 : kt (.c 0) (.c 0) = some true := by decide +kernel
theorem kt_c1 : kt (.c 1) (.c 1) = some true := by decide +kernel
theorem kt_c2 : kt (.c 2) (.c 2) = some true := by decide +kernel
theorem kt_c3 : kt (.c 3) (.c 3) = some true := by decide +kernel
theorem e_fl : (("first" : Str) = "last") = False := eq_false (by decide +kernel)
theorem e_fs : (("first" : Str) = "same") = False := eq_false (by decide +kernel)
theorem e_ft : (("first" : Str) = "least") = False := eq_false (by decide +kernel)
theorem e_fg : (("first" : Str) = "greatest") = False := eq_false (by decide +kernel)
theorem e_fr : (("first" : Str) = "row") = False := eq_false (by decide +kernel)
theorem e_ls : (("last" : Str) = "same") = False := eq_false (by decide +kernel)
theorem e_lt : (("last" : Str) = "least") = False := eq_false (by decide +kernel)
theorem e_lg : (("last" : Str) = "greatest") = False := eq_false (by decide +kernel)
theorem e_lr : (("last" : Str) = "row") = False := eq_false (by decide +kernel)
theorem e_st : (("same" : Str) = "least") = False := eq_false (by decide +kernel)
theorem e_sg : (("same" : Str) = "greatest") = False := eq_false (by decide +kernel)
theorem e_sr : (("same" : Str) = "row") = False := eq_false (by decide +kernel)
theorem e_tg : (("least" : Str) = "greatest") = False := eq_false (by decide +kernel)
theorem e_rt : (("row" : Str) = "least") = False := eq_false (by decide +kernel)
theorem e_rg : (("row" : Str) = "greatest") = False := eq_false (by decide +kernel)
theorem e_on : (("old" : Str) = "new") = False := eq_false (by decide +kernel)
local macro_rules | `(tactic| walk_at "j") => `(tactic| simp only [↓J.wp_ok, ↓J.wp_stk, ↓J.wp2_ok, ↓J.wp2_stk, ↓J.wp_bind, ↓J.wp_bnd, ↓J.wp2_bind, ↓J.wp2_bnd, ↓J.wp_some, ↓J.wp_none, ↓J.wp_if, ↓J.wp2_if, ↓J.wp2_fi, ↓J.wp_br, ↓J.wp2_br, ↓J.wp_var, ↓J.wp_pl, ↓J.wp_pk, ↓J.wp_i2, ↓J.wp_i2c, ↓J.wp_runF, ↓J.wp_at_map, ↓J.wp_minF, ↓J.wp_maxF, ↓J.wp_idxF, ↓J.wp_cntF, ↓J.wp_inDF, ↓J.wp_inFF, ↓J.wp_for_nil, ↓J.wp_for_cons, ↓J.wp_lc_nil, ↓J.wp_lc_cons, ↓J.wp_eqF, ↓J.wp_neF, ↓J.wp_lci_nil, ↓J.wp_lci_cons, ↓J.wp_lcj_nil, ↓J.wp_lcj_cons, ↓J.wp2_ifr, ↓J.wp_isNF, ↓J.wp_notNF, ↓J.wp_blF, ↓J.wp_isiF, ↓J.wp_isi2F, ↓J.w_evE_var, ↓J.w_evE_con, ↓J.w_evE_op, ↓J.w_evE_cmp, ↓J.w_evE_chn, ↓J.w_evE_neg, ↓J.w_evE_band, ↓J.w_evE_bor, ↓J.w_evE_bone, ↓J.w_evE_bnot, ↓J.w_evE_ife, ↓J.w_evE_fz, ↓J.w_evE_tup, ↓J.w_evE_cb, ↓J.w_evE_cbv, ↓J.w_evE_cmpv, ↓J.w_evE_cmpl, ↓J.w_evE_ix, ↓J.w_evE_slt, ↓J.w_evE_fld, ↓J.w_evE_pth, ↓J.w_evE_popAt, ↓J.w_evE_remI, ↓J.w_evE_isi, ↓J.w_evE_isi2, ↓J.w_evE_idx, ↓J.w_evE_cnt, ↓J.w_evQ_v, ↓J.w_evQ_dsp, ↓J.w_evQ_lst, ↓J.w_evQ_lc, ↓J.w_evQ_lc2, ↓J.w_evQ_call, ↓J.w_evQ_callM, ↓J.w_evQ_make, ↓J.w_evQ_list, ↓J.w_evQ_lrng, ↓J.w_evQ_sll, ↓J.w_evQ_cat, ↓J.w_evQ_rep, ↓J.w_evQ_callK, ↓J.w_evQ_makeK, ↓J.w_evQ_lrng2, ↓J.w_evT_cmp, ↓J.w_evT_chn, ↓J.w_evT_val, ↓J.w_evT_not, ↓J.w_evT_bw, ↓J.w_evT_cmpv, ↓J.w_evT_cmpl, ↓J.w_evW_and1, ↓J.w_evW_or1, ↓J.w_evW_and, ↓J.w_evW_or, ↓J.w_evO_no, ↓J.w_evO_so, ↓J.w_evA_nil, ↓J.w_evA_cons, ↓J.w_evA_star, ↓J.w_evAv_nil, ↓J.w_evAv_cons, ↓J.w_evAv_vw, ↓J.w_evQs_nil, ↓J.w_evQs_cons, ↓J.w_evVx_e, ↓J.w_evVx_p, ↓J.w_evI_sq, ↓J.w_evI_zip, ↓J.w_evI_zip3, ↓J.w_evI_enum, ↓J.w_evI_rng1, ↓J.w_evI_rng2, ↓J.w_evTs_nil, ↓J.w_evTs_one, ↓J.w_evS_set, ↓J.w_evS_setq, ↓J.w_evS_setc, ↓J.w_evS_asg, ↓J.w_evS_ret, ↓J.w_evS_retq, ↓J.w_evS_retN, ↓J.w_evS_exp, ↓J.w_evS_ite, ↓J.w_evS_for, ↓J.w_evS_wh, ↓J.w_evS_pass, ↓J.w_evS_brk, ↓J.w_evS_cnt, ↓J.w_evS_never, ↓J.w_evS_app, ↓J.w_evS_appP, ↓J.w_evS_ext, ↓J.w_evS_fld, ↓J.w_evS_par, ↓J.w_evS_par3, ↓J.w_evS_unp, ↓J.w_evSs_nil, ↓J.w_evSs_cons, ↓J.w_evG_nm, ↓J.w_evG_tup, ↓J.w_evG_set, ↓J.w_evG_fld, ↓J.w_evGs_nil, ↓J.w_evGs_cons, id_eq, J.putAt, Int.cast_ofNat_Int, J.isNon, J.tyK, J.nth_z, J.nth_s, List.set_cons_zero, List.set_cons_succ, J.rootP, J.ofP, J.ofU, J.pfIx, J.pfFld, J.pfNil, J.getP, J.setP, J.kids, J.intsF, J.blsF, J.intsOf_map, J.blsOf_map, J.intsOf_mapf, J.blsOf_mapf, J.toDs_map, J.intsOf, J.blsOf, Option.map_some, J.eqFl_ss, J.eqFl_ii, J.eqFl_si, J.eqFl_is, J.eqFl_nn, J.eqFl_sn, J.eqFl_ns, J.eqFl_in, J.eqFl_ni, J.flat, List.sum_cons, List.sum_nil, Int.add_zero, List.all_cons, List.all_nil, List.any_cons, List.any_nil, J.zipD, J.zipD3, J.deq_tup, J.deq_lst, J.deq_int, J.deq_str, J.deq_bl, J.deq_non, J.deqs_nil, J.deqs_cons, J.deqs_nc, J.deqs_cn, J.deqs_ints, J.deqs_ints_nil, J.shp_ints, J.shp_nil, J.shp_int, J.withKids, J.wipeB, J.mrg, J.keepB, J.ownV, J.endsB, J.toD, J.toDs, J.toDs_v, J.puNeg, J.puOp, J.opF, J.cmpF, J.bfF, J.on1, J.on2, J.startB, J.finB, J.memN_n, J.memN_c, List.map_cons, List.map_nil, List.cons_append, List.nil_append, List.length_cons, List.length_nil, List.length_map, List.replicate, J.ix0, J.ix1, J.ix2, J.ix3, J.ix4, J.ix5, J.ixm1, J.at0, J.at1, J.at2, J.at3, J.at4, J.atm1, J.atm2, J.atm3, J.items, J.intF, J.absF, J.boolF, List.getElem?_cons_zero, List.getElem?_cons_succ, List.eraseIdx_zero, ↓reduceIte, Nat.reduceAdd, Nat.reduceSub, Int.reduceNeg, Int.reduceLT, Int.reduceLE, Int.reduceEq, Int.reduceMul, Int.reduceSub, Int.reduceToNat, Nat.reduceLT, Nat.reduceLeDiff, decide_eq_true_eq, decide_eq_false_iff_not, true_and, and_true, Int.reduceAdd, Int.reducePow, Int.reduceMul, Int.reduceMod, Nat.reduceEqDiff, Bool.or_false, Bool.false_or, Bool.true_or, Bool.or_true, Bool.and_true, Bool.true_and, Bool.and_false, Bool.false_and, Bool.not_true, Bool.not_false, decide_true, decide_false, forall_const, false_and, and_false, and_self, false_implies, implies_true, true_implies, reduceCtorEq, Bool.true_eq_false, Bool.false_eq_true, not_true_eq_false, not_false_eq_true, if_true, if_false, J.K03.fx_scores, J.K03.fx_none, J.K03.fx_late, J.K03.fx_strict, J.K03.fx_hlen, J.K03.fx_heads, J.K03.fx_table, J.K03.fx_shift, J.K03.fx_cap, J.K03.fx_llen, J.K03.fx_rows, J.K03.fx_layers, J.K03.fx_worths, J.K03.fx_letters, J.K03.fx_lengths, J.K03.fx_players, J.K03.e_lf, J.K03.e_sf, J.K03.e_sl, J.K03.e_rf, J.K03.e_rl, J.K03.e_rs, J.K03.e_tf, J.K03.e_tl, J.K03.e_ts, J.K03.e_tr, J.K03.e_gf, J.K03.e_gl, J.K03.e_gs, J.K03.e_gr, J.K03.e_gt, J.K03.e_no, J.K03.e_self, J.K03.h_f, J.K03.h_l, J.K03.h_s, J.K03.h_r, J.K03.h_t, J.K03.h_g, J.K03.h_o, J.K03.h_n, J.K03.kt_ii, J.K03.kt_ib, J.K03.kt_bi, J.K03.kt_bb, J.K03.kt_ss, J.K03.kt_tl, J.K03.kt_tt, J.K03.kt_ll, J.K03.kt_lt, J.K03.kt_il, J.K03.kt_it, J.K03.kt_sl, J.K03.kt_st, J.K03.kt_c0, J.K03.kt_c1, J.K03.kt_c2, J.K03.kt_c3, J.K03.e_fl, J.K03.e_fs, J.K03.e_ft, J.K03.e_fg, J.K03.e_fr, J.K03.e_ls, J.K03.e_lt, J.K03.e_lg, J.K03.e_lr, J.K03.e_st, J.K03.e_sg, J.K03.e_sr, J.K03.e_tg, J.K03.e_rt, J.K03.e_rg, J.K03.e_on])
inductive Ru where
  | first (s : Nat) | last (s : Nat) | same (new : Bool) | row (x : Int) | sc (great h1 : Bool)
abbrev RuD : Ru → D
  | .first s => .tup [.str "first", .int (s : Nat)]
  | .last s => .tup [.str "last", .int (s : Nat)]
  | .same new => .tup [.str "same", .str (if new then "new" else "old")]
  | .row x => .tup [.str "row", rowD x]
  | .sc great h1 => .tup [.str (if great then "greatest" else "least"), .int (if h1 then 1 else 0)]
def Ru.ok : Ru → Prop
  | .first s => s ≤ 6
  | .last s => s ≤ 6
  | .row x => -999 ≤ x ∧ x ≤ 999
  | _ => True
def pick : Ru → List Int → Option Nat
  | .first s => pFirst s
  | .last s => pLast s
  | .same new => pSame new
  | .row x => pRow x
  | .sc great h1 => pSc (great ^^ h1)
theorem int_eq {k : Nat} {i : Int} : CJ (k + 1) 15 [.v (.int i)] = .ok (.v (.bl true), [none]) := by
  refine eq_of (wp_callJ Has.h ?_)
  simp only [f15_is_integer]
  walk_at "j"
theorem listed_tup {k : Nat} {l : List D} : CJ (k + 1) 17 [.v (.tup l)] = .ok (.v (.bl true), [none]) := by
  refine eq_of (wp_callJ Has.h ?_)
  simp only [f17_is_listed]
  walk_at "j"
theorem listed_lst {k : Nat} {l : List D} : CJ (k + 1) 17 [.v (.lst l)] = .ok (.v (.bl true), [none]) := by
  refine eq_of (wp_callJ Has.h ?_)
  simp only [f17_is_listed]
  walk_at "j"
theorem within_eq {k : Nat} {i a b : Int} (h1 : a ≤ i) (h2 : i ≤ b) : CJ (k + 2) 23 [.v (.int i), .v (.int a), .v (.int b)] = .ok (.v (.bl true), [none, none, none]) := by
  refine eq_of (wp_callJ Has.h ?_)
  simp only [f23_is_within]
  walk_at "j"
  refine wp2_eq int_eq ?_
  walk_at "j"
  exact ⟨fun _ => by rw [decide_eq_true h2], fun h => absurd h1 h⟩
theorem row_tup {k : Nat} {l : List D} {n : Int} (h : (l.length : Int) = n) : CJ (k + 2) 16 [.v (.tup l), .v (.int n)] = .ok (.v (.bl true), [none, none]) := by
  refine eq_of (wp_callJ Has.h ?_)
  simp only [f16_is_row]
  walk_at "j"
  refine wp2_eq listed_tup ?_
  walk_at "j"
  rw [decide_eq_true h]
theorem row_lst {k : Nat} {l : List D} {n : Int} (h : (l.length : Int) = n) : CJ (k + 2) 16 [.v (.lst l), .v (.int n)] = .ok (.v (.bl true), [none, none]) := by
  refine eq_of (wp_callJ Has.h ?_)
  simp only [f16_is_row]
  walk_at "j"
  refine wp2_eq listed_lst ?_
  walk_at "j"
  rw [decide_eq_true h]
theorem numbers_eq {k : Nat} {x : Int} (h : -999 ≤ x ∧ x ≤ 999) : CJ (k + 2) 24 [.v (rowD x)] = .ok (.v (.bl true), [none]) := by
  refine eq_of (wp_callJ Has.h ?_)
  simp only [f24_are_numbers]
  walk_at "j"
  refine wp2_eq int_eq ?_
  walk_at "j"
  exact ⟨fun _ => by rw [decide_eq_true h.2], fun z => absurd (by omega) z⟩
theorem oneof_eq {k : Nat} {x : Str} {l : List D} (h1 : l.all flat = true) (h : (l.any fun z => eqFl z (.str x)) = true) : CJ (k + 1) 41 [.v (.str x), .v (.tup l)] = .ok (.v (.bl true), [none, none]) := by
  refine eq_of (wp_callJ Has.h ?_)
  simp only [f41_is_one_of]
  walk_at "j"
  exact ⟨h1, by rw [h]⟩
theorem rule_eq {k : Nat} {r : Ru} (h : r.ok) : CJ (k + 4) 42 [.v (RuD r)] = .ok (.v (.bl true), [none]) := by
  refine eq_of (wp_callJ Has.h ?_)
  cases r with
  | first s =>
    have h : s ≤ 6 := h
    simp only [f42_is_rule]
    walk_at "j"
    refine wp2_eq (row_tup rfl) ?_
    walk_at "j"
    refine wp2_eq (oneof_eq (by decide +kernel) (by decide +kernel)) ?_
    walk_at "j"
    refine wp2_eq (within_eq (by first | omega | decide) (by first | omega | decide)) ?_
    walk_at "j"
  | last s =>
    have h : s ≤ 6 := h
    simp only [f42_is_rule]
    walk_at "j"
    refine wp2_eq (row_tup rfl) ?_
    walk_at "j"
    refine wp2_eq (oneof_eq (by decide +kernel) (by decide +kernel)) ?_
    walk_at "j"
    refine wp2_eq (within_eq (by first | omega | decide) (by first | omega | decide)) ?_
    walk_at "j"
  | same new =>
    cases new <;> simp only [f42_is_rule, Bool.false_eq_true, if_false, if_true] <;> walk_at "j" <;> refine wp2_eq (row_tup rfl) ?_ <;> walk_at "j" <;> refine wp2_eq (oneof_eq (by decide +kernel) (by decide +kernel)) ?_ <;> walk_at "j" <;> refine wp2_eq (oneof_eq (by decide +kernel) (by decide +kernel)) ?_ <;> walk_at "j"
  | row x =>
    simp only [f42_is_rule]
    walk_at "j"
    refine wp2_eq (row_tup rfl) ?_
    walk_at "j"
    refine wp2_eq (oneof_eq (by decide +kernel) (by decide +kernel)) ?_
    walk_at "j"
    refine wp2_eq listed_tup ?_
    walk_at "j"
    refine wp2_eq (numbers_eq h) ?_
    walk_at "j"
  | sc great h1 =>
    cases great <;> cases h1 <;> simp only [f42_is_rule, Bool.false_eq_true, if_false, if_true] <;> walk_at "j" <;> refine wp2_eq (row_tup rfl) ?_ <;> walk_at "j" <;> refine wp2_eq (oneof_eq (by decide +kernel) (by decide +kernel)) ?_ <;> walk_at "j" <;> refine wp2_eq (within_eq (by first | omega | decide) (by first | omega | decide)) ?_ <;> walk_at "j"
end J.K03

set_option Elab.async false
set_option linter.all false
set_option maxRecDepth 100000
set_option maxHeartbeats 4000000
namespace J.K03
open PySem PySem.Spec PyProof.Rows L2 J
local macro_rules | `(tactic| walk_at "j") => `(tactic| simp only [↓J.wp_ok, ↓J.wp_stk, ↓J.wp2_ok, ↓J.wp2_stk, ↓J.wp_bind, ↓J.wp_bnd, ↓J.wp2_bind, ↓J.wp2_bnd, ↓J.wp_some, ↓J.wp_none, ↓J.wp_if, ↓J.wp2_if, ↓J.wp2_fi, ↓J.wp_br, ↓J.wp2_br, ↓J.wp_var, ↓J.wp_pl, ↓J.wp_pk, ↓J.wp_i2, ↓J.wp_i2c, ↓J.wp_runF, ↓J.wp_at_map, ↓J.wp_minF, ↓J.wp_maxF, ↓J.wp_idxF, ↓J.wp_cntF, ↓J.wp_inDF, ↓J.wp_inFF, ↓J.wp_for_nil, ↓J.wp_for_cons, ↓J.wp_lc_nil, ↓J.wp_lc_cons, ↓J.wp_eqF, ↓J.wp_neF, ↓J.wp_lci_nil, ↓J.wp_lci_cons, ↓J.wp_lcj_nil, ↓J.wp_lcj_cons, ↓J.wp2_ifr, ↓J.wp_isNF, ↓J.wp_notNF, ↓J.wp_blF, ↓J.wp_isiF, ↓J.wp_isi2F, ↓J.w_evE_var, ↓J.w_evE_con, ↓J.w_evE_op, ↓J.w_evE_cmp, ↓J.w_evE_chn, ↓J.w_evE_neg, ↓J.w_evE_band, ↓J.w_evE_bor, ↓J.w_evE_bone, ↓J.w_evE_bnot, ↓J.w_evE_ife, ↓J.w_evE_fz, ↓J.w_evE_tup, ↓J.w_evE_cb, ↓J.w_evE_cbv, ↓J.w_evE_cmpv, ↓J.w_evE_cmpl, ↓J.w_evE_ix, ↓J.w_evE_slt, ↓J.w_evE_fld, ↓J.w_evE_pth, ↓J.w_evE_popAt, ↓J.w_evE_remI, ↓J.w_evE_isi, ↓J.w_evE_isi2, ↓J.w_evE_idx, ↓J.w_evE_cnt, ↓J.w_evQ_v, ↓J.w_evQ_dsp, ↓J.w_evQ_lst, ↓J.w_evQ_lc, ↓J.w_evQ_lc2, ↓J.w_evQ_call, ↓J.w_evQ_callM, ↓J.w_evQ_make, ↓J.w_evQ_list, ↓J.w_evQ_lrng, ↓J.w_evQ_sll, ↓J.w_evQ_cat, ↓J.w_evQ_rep, ↓J.w_evQ_callK, ↓J.w_evQ_makeK, ↓J.w_evQ_lrng2, ↓J.w_evT_cmp, ↓J.w_evT_chn, ↓J.w_evT_val, ↓J.w_evT_not, ↓J.w_evT_bw, ↓J.w_evT_cmpv, ↓J.w_evT_cmpl, ↓J.w_evW_and1, ↓J.w_evW_or1, ↓J.w_evW_and, ↓J.w_evW_or, ↓J.w_evO_no, ↓J.w_evO_so, ↓J.w_evA_nil, ↓J.w_evA_cons, ↓J.w_evA_star, ↓J.w_evAv_nil, ↓J.w_evAv_cons, ↓J.w_evAv_vw, ↓J.w_evQs_nil, ↓J.w_evQs_cons, ↓J.w_evVx_e, ↓J.w_evVx_p, ↓J.w_evI_sq, ↓J.w_evI_zip, ↓J.w_evI_zip3, ↓J.w_evI_enum, ↓J.w_evI_rng1, ↓J.w_evI_rng2, ↓J.w_evTs_nil, ↓J.w_evTs_one, ↓J.w_evS_set, ↓J.w_evS_setq, ↓J.w_evS_setc, ↓J.w_evS_asg, ↓J.w_evS_ret, ↓J.w_evS_retq, ↓J.w_evS_retN, ↓J.w_evS_exp, ↓J.w_evS_ite, ↓J.w_evS_for, ↓J.w_evS_wh, ↓J.w_evS_pass, ↓J.w_evS_brk, ↓J.w_evS_cnt, ↓J.w_evS_never, ↓J.w_evS_app, ↓J.w_evS_appP, ↓J.w_evS_ext, ↓J.w_evS_fld, ↓J.w_evS_par, ↓J.w_evS_par3, ↓J.w_evS_unp, ↓J.w_evSs_nil, ↓J.w_evSs_cons, ↓J.w_evG_nm, ↓J.w_evG_tup, ↓J.w_evG_set, ↓J.w_evG_fld, ↓J.w_evGs_nil, ↓J.w_evGs_cons, id_eq, J.putAt, Int.cast_ofNat_Int, J.isNon, J.tyK, J.nth_z, J.nth_s, List.set_cons_zero, List.set_cons_succ, J.rootP, J.ofP, J.ofU, J.pfIx, J.pfFld, J.pfNil, J.getP, J.setP, J.kids, J.intsF, J.blsF, J.intsOf_map, J.blsOf_map, J.intsOf_mapf, J.blsOf_mapf, J.toDs_map, J.intsOf, J.blsOf, Option.map_some, J.eqFl_ss, J.eqFl_ii, J.eqFl_si, J.eqFl_is, J.eqFl_nn, J.eqFl_sn, J.eqFl_ns, J.eqFl_in, J.eqFl_ni, J.flat, List.sum_cons, List.sum_nil, Int.add_zero, List.all_cons, List.all_nil, List.any_cons, List.any_nil, J.zipD, J.zipD3, J.deq_tup, J.deq_lst, J.deq_int, J.deq_str, J.deq_bl, J.deq_non, J.deqs_nil, J.deqs_cons, J.deqs_nc, J.deqs_cn, J.deqs_ints, J.deqs_ints_nil, J.shp_ints, J.shp_nil, J.shp_int, J.withKids, J.wipeB, J.mrg, J.keepB, J.ownV, J.endsB, J.toD, J.toDs, J.toDs_v, J.puNeg, J.puOp, J.opF, J.cmpF, J.bfF, J.on1, J.on2, J.startB, J.finB, J.memN_n, J.memN_c, List.map_cons, List.map_nil, List.cons_append, List.nil_append, List.length_cons, List.length_nil, List.length_map, List.replicate, J.ix0, J.ix1, J.ix2, J.ix3, J.ix4, J.ix5, J.ixm1, J.at0, J.at1, J.at2, J.at3, J.at4, J.atm1, J.atm2, J.atm3, J.items, J.intF, J.absF, J.boolF, List.getElem?_cons_zero, List.getElem?_cons_succ, List.eraseIdx_zero, ↓reduceIte, Nat.reduceAdd, Nat.reduceSub, Int.reduceNeg, Int.reduceLT, Int.reduceLE, Int.reduceEq, Int.reduceMul, Int.reduceSub, Int.reduceToNat, Nat.reduceLT, Nat.reduceLeDiff, decide_eq_true_eq, decide_eq_false_iff_not, true_and, and_true, Int.reduceAdd, Int.reducePow, Int.reduceMul, Int.reduceMod, Nat.reduceEqDiff, Bool.or_false, Bool.false_or, Bool.true_or, Bool.or_true, Bool.and_true, Bool.true_and, Bool.and_false, Bool.false_and, Bool.not_true, Bool.not_false, decide_true, decide_false, forall_const, false_and, and_false, and_self, false_implies, implies_true, true_implies, reduceCtorEq, Bool.true_eq_false, Bool.false_eq_true, not_true_eq_false, not_false_eq_true, if_true, if_false, J.K03.fx_scores, J.K03.fx_none, J.K03.fx_late, J.K03.fx_strict, J.K03.fx_hlen, J.K03.fx_heads, J.K03.fx_table, J.K03.fx_shift, J.K03.fx_cap, J.K03.fx_llen, J.K03.fx_rows, J.K03.fx_layers, J.K03.fx_worths, J.K03.fx_letters, J.K03.fx_lengths, J.K03.fx_players, J.K03.e_lf, J.K03.e_sf, J.K03.e_sl, J.K03.e_rf, J.K03.e_rl, J.K03.e_rs, J.K03.e_tf, J.K03.e_tl, J.K03.e_ts, J.K03.e_tr, J.K03.e_gf, J.K03.e_gl, J.K03.e_gs, J.K03.e_gr, J.K03.e_gt, J.K03.e_no, J.K03.e_self, J.K03.h_f, J.K03.h_l, J.K03.h_s, J.K03.h_r, J.K03.h_t, J.K03.h_g, J.K03.h_o, J.K03.h_n, J.K03.kt_ii, J.K03.kt_ib, J.K03.kt_bi, J.K03.kt_bb, J.K03.kt_ss, J.K03.kt_tl, J.K03.kt_tt, J.K03.kt_ll, J.K03.kt_lt, J.K03.kt_il, J.K03.kt_it, J.K03.kt_sl, J.K03.kt_st, J.K03.kt_c0, J.K03.kt_c1, J.K03.kt_c2, J.K03.kt_c3, J.K03.e_fl, J.K03.e_fs, J.K03.e_ft, J.K03.e_fg, J.K03.e_fr, J.K03.e_ls, J.K03.e_lt, J.K03.e_lg, J.K03.e_lr, J.K03.e_st, J.K03.e_sg, J.K03.e_sr, J.K03.e_tg, J.K03.e_rt, J.K03.e_rg, J.K03.e_on])
theorem layer_rule_eq {k m : Nat} {rs : List Ru} (h : ∀ r ∈ rs, r.ok) (hm : m ≤ 6) (hl : rs.length ≤ 8) : CJ (k + 5) 43 [.v (.tup [.int (m : Nat), .lst (rs.map RuD)])] = .ok (.v (.bl true), [none]) := by
  refine eq_of (wp_callJ Has.h ?_)
  simp only [f43_is_layer_rule]
  walk_at "j"
  refine wp2_eq (row_tup rfl) ?_
  walk_at "j"
  refine wp2_eq (within_eq (by first | omega | decide) (by first | omega | decide)) ?_
  walk_at "j"
  refine wp2_eq listed_lst ?_
  walk_at "j"
  refine ⟨fun _ => ?_, fun z => absurd (by omega) z⟩
  refine wp_lcM RuD (fun _ => .v (.bl true)) rs (fun r hr => ?_) ?_
  · walk_at "j"
    refine wp2_eq (rule_eq (h r hr)) ?_
    walk_at "j"
  · walk_at "j"
    rw [show (rs.map fun _ => true).all id = true by simp]
/-! ### fixed: lists told as tuples -/
theorem fixed_int {k : Nat} {i : Int} : CJ (k + 1) 11 [.v (.int i)] = .ok (.v (.int i), [none]) := by
  refine eq_of (wp_callJ Has.h ?_)
  simp only [f11_fixed]
  walk_at "j"
theorem fixed_str {k : Nat} {i : Str} : CJ (k + 1) 11 [.v (.str i)] = .ok (.v (.str i), [none]) := by
  refine eq_of (wp_callJ Has.h ?_)
  simp only [f11_fixed]
  walk_at "j"
theorem fixed_tup {α : Type} {k : Nat} (φ ψ : α → D) (l : List α) (h : ∀ a ∈ l, CJ k 11 [.v (φ a)] = .ok (.v (ψ a), [none])) : CJ (k + 1) 11 [.v (.tup (l.map φ))] = .ok (.v (.tup (l.map ψ)), [none]) := by
  refine eq_of (wp_callJ Has.h ?_)
  simp only [f11_fixed]
  walk_at "j"
  refine wp_lcM φ (fun a => .v (ψ a)) l (fun a m => ?_) ?_
  · walk_at "j"
    refine wp2_eq (h a m) ?_
    walk_at "j"
  · walk_at "j"
theorem fixed_lst {α : Type} {k : Nat} (φ ψ : α → D) (l : List α) (h : ∀ a ∈ l, CJ k 11 [.v (φ a)] = .ok (.v (ψ a), [none])) : CJ (k + 1) 11 [.v (.lst (l.map φ))] = .ok (.v (.tup (l.map ψ)), [none]) := by
  refine eq_of (wp_callJ Has.h ?_)
  simp only [f11_fixed]
  walk_at "j"
  refine wp_lcM φ (fun a => .v (ψ a)) l (fun a m => ?_) ?_
  · walk_at "j"
    refine wp2_eq (h a m) ?_
    walk_at "j"
  · walk_at "j"
theorem fixed_id {k : Nat} (l : List D) (h : ∀ a ∈ l, CJ k 11 [.v a] = .ok (.v a, [none])) : CJ (k + 1) 11 [.v (.tup l)] = .ok (.v (.tup l), [none]) := by
  have := fixed_tup id id l h
  rwa [List.map_id] at this
theorem fixed_ru {k : Nat} (r : Ru) : CJ (k + 3) 11 [.v (RuD r)] = .ok (.v (RuD r), [none]) := by
  have two : ∀ {x : Str} {d : D}, CJ (k + 2) 11 [.v d] = .ok (.v d, [none]) → CJ (k + 3) 11 [.v (.tup [.str x, d])] = .ok (.v (.tup [.str x, d]), [none]) := fun h => fixed_id _ fun a m => by
    rcases List.mem_cons.mp m with rfl | m
    · exact fixed_str
    · rw [List.mem_singleton] at m
      subst m
      exact h
  cases r with
  | first s => exact two fixed_int
  | last s => exact two fixed_int
  | same n => exact two fixed_str
  | row x => exact two (fixed_id _ fun a m => by
      rw [List.mem_singleton] at m
      subst m
      exact fixed_int)
  | sc g h => exact two fixed_int
abbrev polD (m : Nat) (rs : List Ru) : D := .obj 0 [.tup [.tup [.int (m : Nat), .tup (rs.map RuD)]]]
theorem policy_eq {k m : Nat} {rs : List Ru} (h : ∀ r ∈ rs, r.ok) (hm : m ≤ 6) (hl : rs.length ≤ 8) :
    CJ (k + 7) 44 [.ins 0 [], .v (.lst [.tup [.int (m : Nat), .lst (rs.map RuD)]])] = .ok (.v .non, [some (.ins 0 [.v (.tup [.tup [.int (m : Nat), .tup (rs.map RuD)]])]), none]) := by
  refine eq_of (wp_callJ Has.h ?_)
  simp only [f44_Policy___init__]
  walk_at "j"
  refine wp2_eq listed_lst ?_
  walk_at "j"
  refine wp2_eq (layer_rule_eq h hm hl) ?_
  walk_at "j"
  have hf : CJ (k + 6) 11 [.v (.lst [.tup [.int (m : Nat), .lst (rs.map RuD)]])] = .ok (.v (.tup [.tup [.int (m : Nat), .tup (rs.map RuD)]]), [none]) :=
    fixed_lst (fun _ : Unit => .tup [.int (m : Nat), .lst (rs.map RuD)]) (fun _ : Unit => .tup [.int (m : Nat), .tup (rs.map RuD)]) [()] fun _ _ =>
      fixed_tup (fun b : Bool => if b then .int (m : Nat) else .lst (rs.map RuD)) (fun b : Bool => if b then .int (m : Nat) else .tup (rs.map RuD)) [true, false] fun b _ => by
        cases b with
        | true => exact fixed_int
        | false => exact fixed_lst RuD RuD rs fun r _ => fixed_ru r
  refine wp2_eq hf ?_
  walk_at "j"
abbrev netD (a b : Int) : D := .obj 1 [.tup [rowD 0, rowD 1, rowD 2], .tup [layD a b], .tup [rowD 1, rowD 2], .int 2, .tup [.int 1, .int 1]]
theorem need_net_eq {k : Nat} {a b : Int} : CJ (k + 1) 19 [.v (netD a b)] = .ok (.v .non, [none]) := by
  refine eq_of (wp_callJ Has.h ?_)
  simp only [f19_need_net]
  walk_at "j"
theorem need_policy_eq {k m : Nat} {a b : Int} {rs : List Ru} : CJ (k + 1) 18 [.v (netD a b), .v (polD m rs)] = .ok (.v .non, [none, none]) := by
  refine eq_of (wp_callJ Has.h ?_)
  simp only [f18_need_policy]
  walk_at "j"
  refine wp_forL RuD (fun _ ρ => ∃ x y, ρ = [some (.v (netD a b)), some (.v (polD m rs)), some (.v (.int (m : Nat))), some (.v (.tup (rs.map RuD))), some (.v (layD a b)), x, y]) (fun r l ρ ⟨x, y, hρ⟩ => ?_) (fun ρ ⟨x, y, hρ⟩ => ?_) rs _ ⟨none, none, rfl⟩
  · subst hρ
    cases r with
    | first s =>
      walk_at "j"
      exact ⟨_, _, rfl⟩
    | last s =>
      walk_at "j"
      exact ⟨_, _, rfl⟩
    | same new =>
      cases new <;> walk_at "j" <;> exact ⟨_, _, rfl⟩
    | row x =>
      walk_at "j"
      exact ⟨_, _, rfl⟩
    | sc g h =>
      cases g <;> cases h <;> walk_at "j" <;> exact ⟨_, _, rfl⟩
  · subst hρ
    walk_at "j"
/-! ### shelves -/
theorem bounded_row {k : Nat} {x m : Int} (h : -m ≤ x ∧ x ≤ m) : CJ (k + 3) 14 [.v (rowD x), .v (.int 1), .v (.int m)] = .ok (.v (.bl true), [none, none, none]) := by
  refine eq_of (wp_callJ Has.h ?_)
  simp only [f14_is_bounded]
  walk_at "j"
  refine wp2_eq (row_tup rfl) ?_
  walk_at "j"
  refine wp2_eq int_eq ?_
  walk_at "j"
  exact ⟨fun _ => by rw [decide_eq_true h.2], fun z => absurd (by omega) z⟩
theorem list_eq {k : Nat} {a b : Int} {xs : List Int} (h : ∀ x ∈ xs, -999 ≤ x ∧ x ≤ 999) (hl : xs.length ≤ 60) : CJ (k + 4) 13 [.v (layD a b), .v (.int 1), .v (.lst (xs.map rowD))] = .ok (.v (.bl true), [none, none, none]) := by
  refine eq_of (wp_callJ Has.h ?_)
  simp only [f13_is_list]
  walk_at "j"
  refine wp2_eq listed_lst ?_
  walk_at "j"
  refine ⟨fun z => absurd z (by omega), fun _ => ?_⟩
  refine wp_lcM rowD (fun _ => .v (.bl true)) xs (fun x hx => ?_) ?_
  · walk_at "j"
    refine wp2_eq (bounded_row (h x hx)) ?_
    walk_at "j"
  · walk_at "j"
    rw [show (xs.map fun _ => true).all id = true by simp]
abbrev shelfD (xs : List Int) : D := .lst [.lst (xs.map rowD)]
theorem is_shelf_eq {k : Nat} {a b : Int} {xs : List Int} (h : ∀ x ∈ xs, -999 ≤ x ∧ x ≤ 999) (hl : xs.length ≤ 60) : CJ (k + 5) 12 [.v (netD a b), .v (shelfD xs)] = .ok (.v (.bl true), [none, none]) := by
  refine eq_of (wp_callJ Has.h ?_)
  simp only [f12_is_shelf]
  walk_at "j"
  refine wp2_eq (row_lst rfl) ?_
  walk_at "j"
  refine wp2_eq (list_eq h hl) ?_
  walk_at "j"
theorem fixed_row {k : Nat} {x : Int} : CJ (k + 2) 11 [.v (rowD x)] = .ok (.v (rowD x), [none]) := fixed_id _ fun a m => by
  rw [List.mem_singleton] at m
  subst m
  exact fixed_int
theorem fixed_shelf {k : Nat} {xs : List Int} : CJ (k + 4) 11 [.v (shelfD xs)] = .ok (.v (.tup [.tup (xs.map rowD)]), [none]) :=
  fixed_lst (fun _ : Unit => .lst (xs.map rowD)) (fun _ : Unit => .tup (xs.map rowD)) [()] fun _ _ => fixed_lst rowD rowD xs fun _ _ => fixed_row
theorem need_shelf_eq {k : Nat} {a b : Int} {xs : List Int} (h : ∀ x ∈ xs, -999 ≤ x ∧ x ≤ 999) (hl : xs.length ≤ 60) : CJ (k + 6) 10 [.v (netD a b), .v (shelfD xs), .v (.str "shelf")] = .ok (.v (.tup [.tup (xs.map rowD)]), [none, none, none]) := by
  refine eq_of (wp_callJ Has.h ?_)
  simp only [f10_need_shelf]
  walk_at "j"
  refine wp2_eq (is_shelf_eq h hl) ?_
  walk_at "j"
  refine wp2_eq fixed_shelf ?_
  walk_at "j"
def rsP (rs : List Ru) : List (D × (List Int → Option Nat)) := rs.map fun r => (RuD r, pick r)
theorem rsP_fst {rs : List Ru} : (rsP rs).map (·.1) = rs.map RuD := by
  unfold rsP
  rw [List.map_map]
  rfl
theorem spot_ok {k : Nat} {a b : Int} {xs : List Int} (ha : 1 ≤ a ∧ a ≤ 9) (hb : -9 ≤ b ∧ b ≤ -1) (hg : Good xs) (hne : xs ≠ []) (r : Ru) : CJ (k + 3) 6 [.v (layD a b), .v (RuD r), .v (.lst (xs.map rowD))] = .ok (.v (optD (pick r xs)), [none, none, none]) := by
  cases r with
  | first s => exact first_eq
  | last s => exact last_eq
  | same n => exact spot_same n
  | row x => exact spot_row
  | sc g h => exact spot_sc ha hb hg hne g h
theorem pRow_lt {x : Int} : ∀ {l : List Int} {j : Nat}, pRow x l = some j → j < l.length
  | [], _, h => by cases h
  | y :: l, j, h => by
    unfold pRow at h
    split at h
    · cases h
      exact Nat.zero_lt_succ _
    · obtain ⟨i, h1, rfl⟩ := Option.map_eq_some_iff.mp h
      have := pRow_lt h1
      simpa using this
theorem pick_lt (r : Ru) {xs : List Int} {j : Nat} (hne : xs ≠ []) (h : pick r xs = some j) : j < xs.length := by
  cases r with
  | first s =>
    have h : pFirst s xs = some j := h
    unfold pFirst at h
    split at h
    · cases h; assumption
    · cases h
  | last s =>
    have h : pLast s xs = some j := h
    unfold pLast at h
    split at h
    · cases h; omega
    · cases h
  | same n =>
    have h : pSame n xs = some j := h
    have hm : j ∈ sameJ xs := by
      unfold pSame at h
      split at h
      · exact List.mem_of_getLast? h
      · exact List.mem_of_head? h
    obtain ⟨p, hp, e⟩ := List.mem_filterMap.mp hm
    split at e
    · cases e
      have := List.mem_zipIdx hp
      omega
    · cases e
  | row x => exact pRow_lt h
  | sc g h1 =>
    have h : pSc (g ^^ h1) xs = some j := h
    unfold pSc at h
    cases h
    apply List.idxOf_lt_length_of_mem
    split
    · exact maxL_mem hne
    · exact minL_mem hne
end J.K03

set_option Elab.async false
set_option linter.all false
set_option maxRecDepth 100000
set_option maxHeartbeats 4000000
namespace J.K03
open PySem PySem.Spec PyProof.Rows L2 J
local macro_rules | `(tactic| walk_at "j") => `(tactic| simp only [↓J.wp_ok, ↓J.wp_stk, ↓J.wp2_ok, ↓J.wp2_stk, ↓J.wp_bind, ↓J.wp_bnd, ↓J.wp2_bind, ↓J.wp2_bnd, ↓J.wp_some, ↓J.wp_none, ↓J.wp_if, ↓J.wp2_if, ↓J.wp2_fi, ↓J.wp_br, ↓J.wp2_br, ↓J.wp_var, ↓J.wp_pl, ↓J.wp_pk, ↓J.wp_i2, ↓J.wp_i2c, ↓J.wp_runF, ↓J.wp_at_map, ↓J.wp_minF, ↓J.wp_maxF, ↓J.wp_idxF, ↓J.wp_cntF, ↓J.wp_inDF, ↓J.wp_inFF, ↓J.wp_for_nil, ↓J.wp_for_cons, ↓J.wp_lc_nil, ↓J.wp_lc_cons, ↓J.wp_eqF, ↓J.wp_neF, ↓J.wp_lci_nil, ↓J.wp_lci_cons, ↓J.wp_lcj_nil, ↓J.wp_lcj_cons, ↓J.wp2_ifr, ↓J.wp_isNF, ↓J.wp_notNF, ↓J.wp_blF, ↓J.wp_isiF, ↓J.wp_isi2F, ↓J.w_evE_var, ↓J.w_evE_con, ↓J.w_evE_op, ↓J.w_evE_cmp, ↓J.w_evE_chn, ↓J.w_evE_neg, ↓J.w_evE_band, ↓J.w_evE_bor, ↓J.w_evE_bone, ↓J.w_evE_bnot, ↓J.w_evE_ife, ↓J.w_evE_fz, ↓J.w_evE_tup, ↓J.w_evE_cb, ↓J.w_evE_cbv, ↓J.w_evE_cmpv, ↓J.w_evE_cmpl, ↓J.w_evE_ix, ↓J.w_evE_slt, ↓J.w_evE_fld, ↓J.w_evE_pth, ↓J.w_evE_popAt, ↓J.w_evE_remI, ↓J.w_evE_isi, ↓J.w_evE_isi2, ↓J.w_evE_idx, ↓J.w_evE_cnt, ↓J.w_evQ_v, ↓J.w_evQ_dsp, ↓J.w_evQ_lst, ↓J.w_evQ_lc, ↓J.w_evQ_lc2, ↓J.w_evQ_call, ↓J.w_evQ_callM, ↓J.w_evQ_make, ↓J.w_evQ_list, ↓J.w_evQ_lrng, ↓J.w_evQ_sll, ↓J.w_evQ_cat, ↓J.w_evQ_rep, ↓J.w_evQ_callK, ↓J.w_evQ_makeK, ↓J.w_evQ_lrng2, ↓J.w_evT_cmp, ↓J.w_evT_chn, ↓J.w_evT_val, ↓J.w_evT_not, ↓J.w_evT_bw, ↓J.w_evT_cmpv, ↓J.w_evT_cmpl, ↓J.w_evW_and1, ↓J.w_evW_or1, ↓J.w_evW_and, ↓J.w_evW_or, ↓J.w_evO_no, ↓J.w_evO_so, ↓J.w_evA_nil, ↓J.w_evA_cons, ↓J.w_evA_star, ↓J.w_evAv_nil, ↓J.w_evAv_cons, ↓J.w_evAv_vw, ↓J.w_evQs_nil, ↓J.w_evQs_cons, ↓J.w_evVx_e, ↓J.w_evVx_p, ↓J.w_evI_sq, ↓J.w_evI_zip, ↓J.w_evI_zip3, ↓J.w_evI_enum, ↓J.w_evI_rng1, ↓J.w_evI_rng2, ↓J.w_evTs_nil, ↓J.w_evTs_one, ↓J.w_evS_set, ↓J.w_evS_setq, ↓J.w_evS_setc, ↓J.w_evS_asg, ↓J.w_evS_ret, ↓J.w_evS_retq, ↓J.w_evS_retN, ↓J.w_evS_exp, ↓J.w_evS_ite, ↓J.w_evS_for, ↓J.w_evS_wh, ↓J.w_evS_pass, ↓J.w_evS_brk, ↓J.w_evS_cnt, ↓J.w_evS_never, ↓J.w_evS_app, ↓J.w_evS_appP, ↓J.w_evS_ext, ↓J.w_evS_fld, ↓J.w_evS_par, ↓J.w_evS_par3, ↓J.w_evS_unp, ↓J.w_evSs_nil, ↓J.w_evSs_cons, ↓J.w_evG_nm, ↓J.w_evG_tup, ↓J.w_evG_set, ↓J.w_evG_fld, ↓J.w_evGs_nil, ↓J.w_evGs_cons, id_eq, J.putAt, Int.cast_ofNat_Int, J.isNon, J.tyK, J.nth_z, J.nth_s, List.set_cons_zero, List.set_cons_succ, J.rootP, J.ofP, J.ofU, J.pfIx, J.pfFld, J.pfNil, J.getP, J.setP, J.kids, J.intsF, J.blsF, J.intsOf_map, J.blsOf_map, J.intsOf_mapf, J.blsOf_mapf, J.toDs_map, J.intsOf, J.blsOf, Option.map_some, J.eqFl_ss, J.eqFl_ii, J.eqFl_si, J.eqFl_is, J.eqFl_nn, J.eqFl_sn, J.eqFl_ns, J.eqFl_in, J.eqFl_ni, J.flat, List.sum_cons, List.sum_nil, Int.add_zero, List.all_cons, List.all_nil, List.any_cons, List.any_nil, J.zipD, J.zipD3, J.deq_tup, J.deq_lst, J.deq_int, J.deq_str, J.deq_bl, J.deq_non, J.deqs_nil, J.deqs_cons, J.deqs_nc, J.deqs_cn, J.deqs_ints, J.deqs_ints_nil, J.shp_ints, J.shp_nil, J.shp_int, J.withKids, J.wipeB, J.mrg, J.keepB, J.ownV, J.endsB, J.toD, J.toDs, J.toDs_v, J.puNeg, J.puOp, J.opF, J.cmpF, J.bfF, J.on1, J.on2, J.startB, J.finB, J.memN_n, J.memN_c, List.map_cons, List.map_nil, List.cons_append, List.nil_append, List.length_cons, List.length_nil, List.length_map, List.replicate, J.ix0, J.ix1, J.ix2, J.ix3, J.ix4, J.ix5, J.ixm1, J.at0, J.at1, J.at2, J.at3, J.at4, J.atm1, J.atm2, J.atm3, J.items, J.intF, J.absF, J.boolF, List.getElem?_cons_zero, List.getElem?_cons_succ, List.eraseIdx_zero, ↓reduceIte, Nat.reduceAdd, Nat.reduceSub, Int.reduceNeg, Int.reduceLT, Int.reduceLE, Int.reduceEq, Int.reduceMul, Int.reduceSub, Int.reduceToNat, Nat.reduceLT, Nat.reduceLeDiff, decide_eq_true_eq, decide_eq_false_iff_not, true_and, and_true, Int.reduceAdd, Int.reducePow, Int.reduceMul, Int.reduceMod, Nat.reduceEqDiff, Bool.or_false, Bool.false_or, Bool.true_or, Bool.or_true, Bool.and_true, Bool.true_and, Bool.and_false, Bool.false_and, Bool.not_true, Bool.not_false, decide_true, decide_false, forall_const, false_and, and_false, and_self, false_implies, implies_true, true_implies, reduceCtorEq, Bool.true_eq_false, Bool.false_eq_true, not_true_eq_false, not_false_eq_true, if_true, if_false, J.K03.fx_scores, J.K03.fx_none, J.K03.fx_late, J.K03.fx_strict, J.K03.fx_hlen, J.K03.fx_heads, J.K03.fx_table, J.K03.fx_shift, J.K03.fx_cap, J.K03.fx_llen, J.K03.fx_rows, J.K03.fx_layers, J.K03.fx_worths, J.K03.fx_letters, J.K03.fx_lengths, J.K03.fx_players, J.K03.e_lf, J.K03.e_sf, J.K03.e_sl, J.K03.e_rf, J.K03.e_rl, J.K03.e_rs, J.K03.e_tf, J.K03.e_tl, J.K03.e_ts, J.K03.e_tr, J.K03.e_gf, J.K03.e_gl, J.K03.e_gs, J.K03.e_gr, J.K03.e_gt, J.K03.e_no, J.K03.e_self, J.K03.h_f, J.K03.h_l, J.K03.h_s, J.K03.h_r, J.K03.h_t, J.K03.h_g, J.K03.h_o, J.K03.h_n, J.K03.kt_ii, J.K03.kt_ib, J.K03.kt_bi, J.K03.kt_bb, J.K03.kt_ss, J.K03.kt_tl, J.K03.kt_tt, J.K03.kt_ll, J.K03.kt_lt, J.K03.kt_il, J.K03.kt_it, J.K03.kt_sl, J.K03.kt_st, J.K03.kt_c0, J.K03.kt_c1, J.K03.kt_c2, J.K03.kt_c3, J.K03.e_fl, J.K03.e_fs, J.K03.e_ft, J.K03.e_fg, J.K03.e_fr, J.K03.e_ls, J.K03.e_lt, J.K03.e_lg, J.K03.e_lr, J.K03.e_st, J.K03.e_sg, J.K03.e_sr, J.K03.e_tg, J.K03.e_rt, J.K03.e_rg, J.K03.e_on])
section
variable {k m : Nat} {a b : Int} {rs : List Ru} {xs : List Int}
theorem kept_eq (ha : 1 ≤ a ∧ a ≤ 9) (hb : -9 ≤ b ∧ b ≤ -1) (hg : Good xs) (hl : xs.length ≤ 60) : CJ (k + 5) 4 [.v (netD a b), .v (polD m rs), .v (.tup [.tup (xs.map rowD)])] = .ok (.v (.tup [.tup ((dropL (pickOf (rsP rs)) m xs.length xs).map rowD)]), [none, none, none]) := by
  have hd := dropped_eq (k := k + 3) (most := m) (rs := rsP rs) (a := a) (b := b) Good (fun _ _ h => h.erase) (fun r hr ys hy hn => by
    obtain ⟨r0, _, rfl⟩ := List.mem_map.mp hr
    exact spot_ok ha hb hy hn r0) (fun r hr ys j hy hn e => by
    obtain ⟨r0, _, rfl⟩ := List.mem_map.mp hr
    exact pick_lt r0 hn e) hg (by omega)
  rw [rsP_fst] at hd
  refine eq_of (wp_callJ Has.h ?_)
  simp only [f4_kept_by]
  walk_at "j"
  refine wp2_eq hd ?_
  walk_at "j"
theorem shelf_by_eq (ha : 1 ≤ a ∧ a ≤ 9) (hb : -9 ≤ b ∧ b ≤ -1) (hg : Good xs) (hl : xs.length ≤ 60) : CJ (k + 7) 3 [.v (netD a b), .v (polD m rs), .v (shelfD xs)] = .ok (.v (.tup [.tup ((dropL (pickOf (rsP rs)) m xs.length xs).map rowD)]), [none, none, none]) := by
  have h9 : ∀ x ∈ xs, -999 ≤ x ∧ x ≤ 999 := fun x h => by
    have := hg x h
    omega
  refine eq_of (wp_callJ Has.h ?_)
  simp only [f3_shelf_by]
  walk_at "j"
  refine wp2_eq need_net_eq ?_
  walk_at "j"
  refine wp2_eq need_policy_eq ?_
  walk_at "j"
  refine wp2_eq (need_shelf_eq h9 hl) ?_
  walk_at "j"
  refine wp2_eq (kept_eq ha hb hg hl) ?_
  walk_at "j"
theorem left_eq (ha : 1 ≤ a ∧ a ≤ 9) (hb : -9 ≤ b ∧ b ≤ -1) (hg : Good xs) (hl : xs.length ≤ 60) (h : ∀ r ∈ rs, r.ok) (hm : m ≤ 6) (hl8 : rs.length ≤ 8) :
    CJ (k + 8) 45 [.v (netD a b), .v (.int (m : Nat)), .v (.lst (rs.map RuD)), .v (.lst (xs.map .int))] = .ok (.v (.lst ((dropL (pickOf (rsP rs)) m xs.length xs).map .int)), [none, none, none, none]) := by
  refine eq_of (wp_callJ Has.h ?_)
  simp only [f45__law_left]
  walk_at "j"
  refine wp2_eq (policy_eq h hm hl8) ?_
  walk_at "j"
  refine wp_lcM D.int (fun x => .v (rowD x)) xs (fun x _ => ?_) ?_
  · walk_at "j"
  · walk_at "j"
    refine wp2_eq (shelf_by_eq ha hb hg hl) ?_
    walk_at "j"
    refine wp_lcM rowD (fun x => .v (.int x)) _ (fun x _ => ?_) ?_
    · walk_at "j"
    · walk_at "j"
end
end J.K03

set_option Elab.async false
set_option linter.all false
set_option maxRecDepth 100000
set_option maxHeartbeats 4000000
namespace J.K03
open PySem PySem.Spec PyProof.Rows L2 J
local macro_rules | `(tactic| walk_at "j") => `(tactic| simp only [↓J.wp_ok, ↓J.wp_stk, ↓J.wp2_ok, ↓J.wp2_stk, ↓J.wp_bind, ↓J.wp_bnd, ↓J.wp2_bind, ↓J.wp2_bnd, ↓J.wp_some, ↓J.wp_none, ↓J.wp_if, ↓J.wp2_if, ↓J.wp2_fi, ↓J.wp_br, ↓J.wp2_br, ↓J.wp_var, ↓J.wp_pl, ↓J.wp_pk, ↓J.wp_i2, ↓J.wp_i2c, ↓J.wp_runF, ↓J.wp_at_map, ↓J.wp_minF, ↓J.wp_maxF, ↓J.wp_idxF, ↓J.wp_cntF, ↓J.wp_inDF, ↓J.wp_inFF, ↓J.wp_for_nil, ↓J.wp_for_cons, ↓J.wp_lc_nil, ↓J.wp_lc_cons, ↓J.wp_eqF, ↓J.wp_neF, ↓J.wp_lci_nil, ↓J.wp_lci_cons, ↓J.wp_lcj_nil, ↓J.wp_lcj_cons, ↓J.wp2_ifr, ↓J.wp_isNF, ↓J.wp_notNF, ↓J.wp_blF, ↓J.wp_isiF, ↓J.wp_isi2F, ↓J.w_evE_var, ↓J.w_evE_con, ↓J.w_evE_op, ↓J.w_evE_cmp, ↓J.w_evE_chn, ↓J.w_evE_neg, ↓J.w_evE_band, ↓J.w_evE_bor, ↓J.w_evE_bone, ↓J.w_evE_bnot, ↓J.w_evE_ife, ↓J.w_evE_fz, ↓J.w_evE_tup, ↓J.w_evE_cb, ↓J.w_evE_cbv, ↓J.w_evE_cmpv, ↓J.w_evE_cmpl, ↓J.w_evE_ix, ↓J.w_evE_slt, ↓J.w_evE_fld, ↓J.w_evE_pth, ↓J.w_evE_popAt, ↓J.w_evE_remI, ↓J.w_evE_isi, ↓J.w_evE_isi2, ↓J.w_evE_idx, ↓J.w_evE_cnt, ↓J.w_evQ_v, ↓J.w_evQ_dsp, ↓J.w_evQ_lst, ↓J.w_evQ_lc, ↓J.w_evQ_lc2, ↓J.w_evQ_call, ↓J.w_evQ_callM, ↓J.w_evQ_make, ↓J.w_evQ_list, ↓J.w_evQ_lrng, ↓J.w_evQ_sll, ↓J.w_evQ_cat, ↓J.w_evQ_rep, ↓J.w_evQ_callK, ↓J.w_evQ_makeK, ↓J.w_evQ_lrng2, ↓J.w_evT_cmp, ↓J.w_evT_chn, ↓J.w_evT_val, ↓J.w_evT_not, ↓J.w_evT_bw, ↓J.w_evT_cmpv, ↓J.w_evT_cmpl, ↓J.w_evW_and1, ↓J.w_evW_or1, ↓J.w_evW_and, ↓J.w_evW_or, ↓J.w_evO_no, ↓J.w_evO_so, ↓J.w_evA_nil, ↓J.w_evA_cons, ↓J.w_evA_star, ↓J.w_evAv_nil, ↓J.w_evAv_cons, ↓J.w_evAv_vw, ↓J.w_evQs_nil, ↓J.w_evQs_cons, ↓J.w_evVx_e, ↓J.w_evVx_p, ↓J.w_evI_sq, ↓J.w_evI_zip, ↓J.w_evI_zip3, ↓J.w_evI_enum, ↓J.w_evI_rng1, ↓J.w_evI_rng2, ↓J.w_evTs_nil, ↓J.w_evTs_one, ↓J.w_evS_set, ↓J.w_evS_setq, ↓J.w_evS_setc, ↓J.w_evS_asg, ↓J.w_evS_ret, ↓J.w_evS_retq, ↓J.w_evS_retN, ↓J.w_evS_exp, ↓J.w_evS_ite, ↓J.w_evS_for, ↓J.w_evS_wh, ↓J.w_evS_pass, ↓J.w_evS_brk, ↓J.w_evS_cnt, ↓J.w_evS_never, ↓J.w_evS_app, ↓J.w_evS_appP, ↓J.w_evS_ext, ↓J.w_evS_fld, ↓J.w_evS_par, ↓J.w_evS_par3, ↓J.w_evS_unp, ↓J.w_evSs_nil, ↓J.w_evSs_cons, ↓J.w_evG_nm, ↓J.w_evG_tup, ↓J.w_evG_set, ↓J.w_evG_fld, ↓J.w_evGs_nil, ↓J.w_evGs_cons, id_eq, J.putAt, Int.cast_ofNat_Int, J.isNon, J.tyK, J.nth_z, J.nth_s, List.set_cons_zero, List.set_cons_succ, J.rootP, J.ofP, J.ofU, J.pfIx, J.pfFld, J.pfNil, J.getP, J.setP, J.kids, J.intsF, J.blsF, J.intsOf_map, J.blsOf_map, J.intsOf_mapf, J.blsOf_mapf, J.toDs_map, J.intsOf, J.blsOf, Option.map_some, J.eqFl_ss, J.eqFl_ii, J.eqFl_si, J.eqFl_is, J.eqFl_nn, J.eqFl_sn, J.eqFl_ns, J.eqFl_in, J.eqFl_ni, J.flat, List.sum_cons, List.sum_nil, Int.add_zero, List.all_cons, List.all_nil, List.any_cons, List.any_nil, J.zipD, J.zipD3, J.deq_tup, J.deq_lst, J.deq_int, J.deq_str, J.deq_bl, J.deq_non, J.deqs_nil, J.deqs_cons, J.deqs_nc, J.deqs_cn, J.deqs_ints, J.deqs_ints_nil, J.shp_ints, J.shp_nil, J.shp_int, J.withKids, J.wipeB, J.mrg, J.keepB, J.ownV, J.endsB, J.toD, J.toDs, J.toDs_v, J.puNeg, J.puOp, J.opF, J.cmpF, J.bfF, J.on1, J.on2, J.startB, J.finB, J.memN_n, J.memN_c, List.map_cons, List.map_nil, List.cons_append, List.nil_append, List.length_cons, List.length_nil, List.length_map, List.replicate, J.ix0, J.ix1, J.ix2, J.ix3, J.ix4, J.ix5, J.ixm1, J.at0, J.at1, J.at2, J.at3, J.at4, J.atm1, J.atm2, J.atm3, J.items, J.intF, J.absF, J.boolF, List.getElem?_cons_zero, List.getElem?_cons_succ, List.eraseIdx_zero, ↓reduceIte, Nat.reduceAdd, Nat.reduceSub, Int.reduceNeg, Int.reduceLT, Int.reduceLE, Int.reduceEq, Int.reduceMul, Int.reduceSub, Int.reduceToNat, Nat.reduceLT, Nat.reduceLeDiff, decide_eq_true_eq, decide_eq_false_iff_not, true_and, and_true, Int.reduceAdd, Int.reducePow, Int.reduceMul, Int.reduceMod, Nat.reduceEqDiff, Bool.or_false, Bool.false_or, Bool.true_or, Bool.or_true, Bool.and_true, Bool.true_and, Bool.and_false, Bool.false_and, Bool.not_true, Bool.not_false, decide_true, decide_false, forall_const, false_and, and_false, and_self, false_implies, implies_true, true_implies, reduceCtorEq, Bool.true_eq_false, Bool.false_eq_true, not_true_eq_false, not_false_eq_true, if_true, if_false, J.K03.fx_scores, J.K03.fx_none, J.K03.fx_late, J.K03.fx_strict, J.K03.fx_hlen, J.K03.fx_heads, J.K03.fx_table, J.K03.fx_shift, J.K03.fx_cap, J.K03.fx_llen, J.K03.fx_rows, J.K03.fx_layers, J.K03.fx_worths, J.K03.fx_letters, J.K03.fx_lengths, J.K03.fx_players, J.K03.e_lf, J.K03.e_sf, J.K03.e_sl, J.K03.e_rf, J.K03.e_rl, J.K03.e_rs, J.K03.e_tf, J.K03.e_tl, J.K03.e_ts, J.K03.e_tr, J.K03.e_gf, J.K03.e_gl, J.K03.e_gs, J.K03.e_gr, J.K03.e_gt, J.K03.e_no, J.K03.e_self, J.K03.h_f, J.K03.h_l, J.K03.h_s, J.K03.h_r, J.K03.h_t, J.K03.h_g, J.K03.h_o, J.K03.h_n, J.K03.kt_ii, J.K03.kt_ib, J.K03.kt_bi, J.K03.kt_bb, J.K03.kt_ss, J.K03.kt_tl, J.K03.kt_tt, J.K03.kt_ll, J.K03.kt_lt, J.K03.kt_il, J.K03.kt_it, J.K03.kt_sl, J.K03.kt_st, J.K03.kt_c0, J.K03.kt_c1, J.K03.kt_c2, J.K03.kt_c3, J.K03.e_fl, J.K03.e_fs, J.K03.e_ft, J.K03.e_fg, J.K03.e_fr, J.K03.e_ls, J.K03.e_lt, J.K03.e_lg, J.K03.e_lr, J.K03.e_st, J.K03.e_sg, J.K03.e_sr, J.K03.e_tg, J.K03.e_rt, J.K03.e_rg, J.K03.e_on])
theorem head_eq {k : Nat} {a : Int} {late strict : Bool} (ha : -999 ≤ a ∧ a ≤ 999) : CJ (k + 4) 39 [.ins 3 [], .v (.tup [rowD a]), .v (.tup [.int 0]), .v (.bl late), .v (.bl strict)] =
    .ok (.v .non, [some (.ins 3 [.v (.tup [rowD a]), .v (.tup [.int 0]), .v (.bl late), .v (.bl strict), .v (.int 1)]), none, none, none, none]) := by
  refine eq_of (wp_callJ Has.h ?_)
  simp only [f39_Head___init__]
  walk_at "j"
  refine wp2_eq listed_tup ?_
  walk_at "j"
  refine wp2_eq (bounded_row ha) ?_
  walk_at "j"
  refine wp2_eq (bounded_row (by decide)) ?_
  walk_at "j"
abbrev headsD (a b : Int) : D := .lst [headD a true false, headD b false true]
theorem are_heads_eq {k : Nat} {a b : Int} : CJ (k + 2) 38 [.v (headsD a b)] = .ok (.v (.bl true), [none]) := by
  refine eq_of (wp_callJ Has.h ?_)
  simp only [f38_are_heads]
  walk_at "j"
  refine wp2_eq listed_lst ?_
  walk_at "j"
theorem bounded_eq {k : Nat} {l : List Int} {n m : Int} (hn : (l.length : Int) = n) (h : ∀ x ∈ l, -m ≤ x ∧ x ≤ m) : CJ (k + 3) 14 [.v (.tup (l.map .int)), .v (.int n), .v (.int m)] = .ok (.v (.bl true), [none, none, none]) := by
  refine eq_of (wp_callJ Has.h ?_)
  simp only [f14_is_bounded]
  walk_at "j"
  refine wp2_eq (row_tup (by rw [List.length_map]; exact hn)) ?_
  walk_at "j"
  refine wp_lcM D.int (fun _ => .v (.bl true)) l (fun x hx => ?_) ?_
  · walk_at "j"
    refine wp2_eq int_eq ?_
    walk_at "j"
    have := h x hx
    exact ⟨fun _ => by rw [decide_eq_true this.2], fun z => absurd (by omega) z⟩
  · walk_at "j"
    rw [show (l.map fun _ => true).all id = true by simp]
theorem is_table_eq {k : Nat} {a b : Int} : CJ (k + 4) 37 [.v (.tup [.tup [.int 1, .int 1, .int 1]]), .v (headsD a b)] = .ok (.v (.bl true), [none, none]) := by
  refine eq_of (wp_callJ Has.h ?_)
  simp only [f37_is_table]
  walk_at "j"
  refine wp2_eq listed_tup ?_
  walk_at "j"
  refine wp2_eq listed_tup ?_
  walk_at "j"
  refine ⟨.inl ⟨by decide, by decide⟩, wp2_eq (bounded_eq (l := [1, 1, 1]) (m := 999) (n := 3) rfl (by decide)) ?_⟩
  walk_at "j"
theorem layer_eq {k : Nat} {a b : Int} : CJ (k + 5) 36 [.ins 2 [], .v (headsD a b), .v (.tup [.tup [.int 1, .int 1, .int 1]]), .v (.tup [.int 0]), .v (.int 9)] =
    .ok (.v .non, [some (.ins 2 [.v (.tup [headD a true false, headD b false true]), .v (.tup [.tup [.int 1, .int 1, .int 1]]), .v (.tup [.int 0]), .v (.int 9), .v (.int 1)]), none, none, none, none]) := by
  refine eq_of (wp_callJ Has.h ?_)
  simp only [f36_Layer___init__]
  walk_at "j"
  refine wp2_eq are_heads_eq ?_
  walk_at "j"
  refine wp2_eq is_table_eq ?_
  walk_at "j"
  refine wp2_eq (bounded_row (by decide)) ?_
  walk_at "j"
  refine wp2_eq (within_eq (by decide) (by decide)) ?_
  walk_at "j"
  exact ⟨⟨by decide, by decide⟩, rfl⟩
theorem rows_eq {k : Nat} {l : List Int} {n : Int} (hn : (l.length : Int) = n) (h : ∀ x ∈ l, -999 ≤ x ∧ x ≤ 999) : CJ (k + 4) 33 [.v (.tup (l.map rowD)), .v (.int n), .v (.int 1)] = .ok (.v (.bl true), [none, none, none]) := by
  refine eq_of (wp_callJ Has.h ?_)
  simp only [f33_are_rows]
  walk_at "j"
  refine wp2_eq listed_tup ?_
  walk_at "j"
  simp only [hn, decide_true]
  refine ⟨fun z => (by cases z), fun _ => ?_⟩
  refine wp_lcM rowD (fun _ => .v (.bl true)) l (fun x hx => ?_) ?_
  · walk_at "j"
    refine wp2_eq (bounded_row (h x hx)) ?_
    walk_at "j"
  · walk_at "j"
    rw [show (l.map fun _ => true).all id = true by simp]
theorem letters_eq {k : Nat} : CJ (k + 5) 35 [.v (.tup [rowD 0, rowD 1, rowD 2])] = .ok (.v (.bl true), [none]) := by
  refine eq_of (wp_callJ Has.h ?_)
  simp only [f35_are_letter_rows]
  walk_at "j"
  refine wp2_eq listed_tup ?_
  walk_at "j"
  refine wp2_eq listed_tup ?_
  walk_at "j"
  refine wp2_eq (rows_eq (l := [0, 1, 2]) rfl (by decide)) ?_
  walk_at "j"
theorem layers_eq {k : Nat} {a b : Int} : CJ (k + 2) 34 [.v (.lst [layD a b]), .v (.int 1)] = .ok (.v (.bl true), [none, none]) := by
  refine eq_of (wp_callJ Has.h ?_)
  simp only [f34_are_layers]
  walk_at "j"
  refine wp2_eq listed_lst ?_
  walk_at "j"
theorem net_init_eq {k : Nat} {a b : Int} : CJ (k + 6) 32 [.ins 1 [], .v (.tup [rowD 0, rowD 1, rowD 2]), .v (.lst [layD a b]), .v (.tup [rowD 1, rowD 2])] =
    .ok (.v .non, [some (.ins 1 [.v (.tup [rowD 0, rowD 1, rowD 2]), .v (.tup [layD a b]), .v (.tup [rowD 1, rowD 2]), .v (.int 2), .v (.tup [.int 1, .int 1])]), none, none, none]) := by
  refine eq_of (wp_callJ Has.h ?_)
  simp only [f32_Net___init__]
  walk_at "j"
  refine wp2_eq letters_eq ?_
  walk_at "j"
  refine wp2_eq layers_eq ?_
  walk_at "j"
  refine wp2_eq (rows_eq (l := [1, 2]) rfl (by decide)) ?_
  walk_at "j"
theorem net_eq {k : Nat} {a b : Int} (ha : -999 ≤ a ∧ a ≤ 999) (hb : -999 ≤ b ∧ b ≤ 999) : CJ (k + 7) 31 [.v (.int a), .v (.int b)] = .ok (.v (netD a b), [none, none]) := by
  refine eq_of (wp_callJ Has.h ?_)
  simp only [f31__law_net_of]
  walk_at "j"
  refine wp2_eq (head_eq ha) ?_
  walk_at "j"
  refine wp2_eq (head_eq hb) ?_
  walk_at "j"
  refine wp2_eq layer_eq ?_
  walk_at "j"
  refine wp2_eq net_init_eq ?_
  walk_at "j"
end J.K03

set_option Elab.async false
set_option linter.all false
set_option maxRecDepth 100000
set_option maxHeartbeats 4000000
namespace J.K03
open PySem PySem.Spec PyProof.Rows L2 J
local macro_rules | `(tactic| walk_at "j") => `(tactic| simp only [↓J.wp_ok, ↓J.wp_stk, ↓J.wp2_ok, ↓J.wp2_stk, ↓J.wp_bind, ↓J.wp_bnd, ↓J.wp2_bind, ↓J.wp2_bnd, ↓J.wp_some, ↓J.wp_none, ↓J.wp_if, ↓J.wp2_if, ↓J.wp2_fi, ↓J.wp_br, ↓J.wp2_br, ↓J.wp_var, ↓J.wp_pl, ↓J.wp_pk, ↓J.wp_i2, ↓J.wp_i2c, ↓J.wp_runF, ↓J.wp_at_map, ↓J.wp_minF, ↓J.wp_maxF, ↓J.wp_idxF, ↓J.wp_cntF, ↓J.wp_inDF, ↓J.wp_inFF, ↓J.wp_for_nil, ↓J.wp_for_cons, ↓J.wp_lc_nil, ↓J.wp_lc_cons, ↓J.wp_eqF, ↓J.wp_neF, ↓J.wp_lci_nil, ↓J.wp_lci_cons, ↓J.wp_lcj_nil, ↓J.wp_lcj_cons, ↓J.wp2_ifr, ↓J.wp_isNF, ↓J.wp_notNF, ↓J.wp_blF, ↓J.wp_isiF, ↓J.wp_isi2F, ↓J.w_evE_var, ↓J.w_evE_con, ↓J.w_evE_op, ↓J.w_evE_cmp, ↓J.w_evE_chn, ↓J.w_evE_neg, ↓J.w_evE_band, ↓J.w_evE_bor, ↓J.w_evE_bone, ↓J.w_evE_bnot, ↓J.w_evE_ife, ↓J.w_evE_fz, ↓J.w_evE_tup, ↓J.w_evE_cb, ↓J.w_evE_cbv, ↓J.w_evE_cmpv, ↓J.w_evE_cmpl, ↓J.w_evE_ix, ↓J.w_evE_slt, ↓J.w_evE_fld, ↓J.w_evE_pth, ↓J.w_evE_popAt, ↓J.w_evE_remI, ↓J.w_evE_isi, ↓J.w_evE_isi2, ↓J.w_evE_idx, ↓J.w_evE_cnt, ↓J.w_evQ_v, ↓J.w_evQ_dsp, ↓J.w_evQ_lst, ↓J.w_evQ_lc, ↓J.w_evQ_lc2, ↓J.w_evQ_call, ↓J.w_evQ_callM, ↓J.w_evQ_make, ↓J.w_evQ_list, ↓J.w_evQ_lrng, ↓J.w_evQ_sll, ↓J.w_evQ_cat, ↓J.w_evQ_rep, ↓J.w_evQ_callK, ↓J.w_evQ_makeK, ↓J.w_evQ_lrng2, ↓J.w_evT_cmp, ↓J.w_evT_chn, ↓J.w_evT_val, ↓J.w_evT_not, ↓J.w_evT_bw, ↓J.w_evT_cmpv, ↓J.w_evT_cmpl, ↓J.w_evW_and1, ↓J.w_evW_or1, ↓J.w_evW_and, ↓J.w_evW_or, ↓J.w_evO_no, ↓J.w_evO_so, ↓J.w_evA_nil, ↓J.w_evA_cons, ↓J.w_evA_star, ↓J.w_evAv_nil, ↓J.w_evAv_cons, ↓J.w_evAv_vw, ↓J.w_evQs_nil, ↓J.w_evQs_cons, ↓J.w_evVx_e, ↓J.w_evVx_p, ↓J.w_evI_sq, ↓J.w_evI_zip, ↓J.w_evI_zip3, ↓J.w_evI_enum, ↓J.w_evI_rng1, ↓J.w_evI_rng2, ↓J.w_evTs_nil, ↓J.w_evTs_one, ↓J.w_evS_set, ↓J.w_evS_setq, ↓J.w_evS_setc, ↓J.w_evS_asg, ↓J.w_evS_ret, ↓J.w_evS_retq, ↓J.w_evS_retN, ↓J.w_evS_exp, ↓J.w_evS_ite, ↓J.w_evS_for, ↓J.w_evS_wh, ↓J.w_evS_pass, ↓J.w_evS_brk, ↓J.w_evS_cnt, ↓J.w_evS_never, ↓J.w_evS_app, ↓J.w_evS_appP, ↓J.w_evS_ext, ↓J.w_evS_fld, ↓J.w_evS_par, ↓J.w_evS_par3, ↓J.w_evS_unp, ↓J.w_evSs_nil, ↓J.w_evSs_cons, ↓J.w_evG_nm, ↓J.w_evG_tup, ↓J.w_evG_set, ↓J.w_evG_fld, ↓J.w_evGs_nil, ↓J.w_evGs_cons, id_eq, J.putAt, Int.cast_ofNat_Int, J.isNon, J.tyK, J.nth_z, J.nth_s, List.set_cons_zero, List.set_cons_succ, J.rootP, J.ofP, J.ofU, J.pfIx, J.pfFld, J.pfNil, J.getP, J.setP, J.kids, J.intsF, J.blsF, J.intsOf_map, J.blsOf_map, J.intsOf_mapf, J.blsOf_mapf, J.toDs_map, J.intsOf, J.blsOf, Option.map_some, J.eqFl_ss, J.eqFl_ii, J.eqFl_si, J.eqFl_is, J.eqFl_nn, J.eqFl_sn, J.eqFl_ns, J.eqFl_in, J.eqFl_ni, J.flat, List.sum_cons, List.sum_nil, Int.add_zero, List.all_cons, List.all_nil, List.any_cons, List.any_nil, J.zipD, J.zipD3, J.deq_tup, J.deq_lst, J.deq_int, J.deq_str, J.deq_bl, J.deq_non, J.deqs_nil, J.deqs_cons, J.deqs_nc, J.deqs_cn, J.deqs_ints, J.deqs_ints_nil, J.shp_ints, J.shp_nil, J.shp_int, J.withKids, J.wipeB, J.mrg, J.keepB, J.ownV, J.endsB, J.toD, J.toDs, J.toDs_v, J.puNeg, J.puOp, J.opF, J.cmpF, J.bfF, J.on1, J.on2, J.startB, J.finB, J.memN_n, J.memN_c, List.map_cons, List.map_nil, List.cons_append, List.nil_append, List.length_cons, List.length_nil, List.length_map, List.replicate, J.ix0, J.ix1, J.ix2, J.ix3, J.ix4, J.ix5, J.ixm1, J.at0, J.at1, J.at2, J.at3, J.at4, J.atm1, J.atm2, J.atm3, J.items, J.intF, J.absF, J.boolF, List.getElem?_cons_zero, List.getElem?_cons_succ, List.eraseIdx_zero, ↓reduceIte, Nat.reduceAdd, Nat.reduceSub, Int.reduceNeg, Int.reduceLT, Int.reduceLE, Int.reduceEq, Int.reduceMul, Int.reduceSub, Int.reduceToNat, Nat.reduceLT, Nat.reduceLeDiff, decide_eq_true_eq, decide_eq_false_iff_not, true_and, and_true, Int.reduceAdd, Int.reducePow, Int.reduceMul, Int.reduceMod, Nat.reduceEqDiff, Bool.or_false, Bool.false_or, Bool.true_or, Bool.or_true, Bool.and_true, Bool.true_and, Bool.and_false, Bool.false_and, Bool.not_true, Bool.not_false, decide_true, decide_false, forall_const, false_and, and_false, and_self, false_implies, implies_true, true_implies, reduceCtorEq, Bool.true_eq_false, Bool.false_eq_true, not_true_eq_false, not_false_eq_true, if_true, if_false, J.K03.fx_scores, J.K03.fx_none, J.K03.fx_late, J.K03.fx_strict, J.K03.fx_hlen, J.K03.fx_heads, J.K03.fx_table, J.K03.fx_shift, J.K03.fx_cap, J.K03.fx_llen, J.K03.fx_rows, J.K03.fx_layers, J.K03.fx_worths, J.K03.fx_letters, J.K03.fx_lengths, J.K03.fx_players, J.K03.e_lf, J.K03.e_sf, J.K03.e_sl, J.K03.e_rf, J.K03.e_rl, J.K03.e_rs, J.K03.e_tf, J.K03.e_tl, J.K03.e_ts, J.K03.e_tr, J.K03.e_gf, J.K03.e_gl, J.K03.e_gs, J.K03.e_gr, J.K03.e_gt, J.K03.e_no, J.K03.e_self, J.K03.h_f, J.K03.h_l, J.K03.h_s, J.K03.h_r, J.K03.h_t, J.K03.h_g, J.K03.h_o, J.K03.h_n, J.K03.kt_ii, J.K03.kt_ib, J.K03.kt_bi, J.K03.kt_bb, J.K03.kt_ss, J.K03.kt_tl, J.K03.kt_tt, J.K03.kt_ll, J.K03.kt_lt, J.K03.kt_il, J.K03.kt_it, J.K03.kt_sl, J.K03.kt_st, J.K03.kt_c0, J.K03.kt_c1, J.K03.kt_c2, J.K03.kt_c3, J.K03.e_fl, J.K03.e_fs, J.K03.e_ft, J.K03.e_fg, J.K03.e_fr, J.K03.e_ls, J.K03.e_lt, J.K03.e_lg, J.K03.e_lr, J.K03.e_st, J.K03.e_sg, J.K03.e_sr, J.K03.e_tg, J.K03.e_rt, J.K03.e_rg, J.K03.e_on])
section
variable {k m s : Nat} {xs : List Int}
theorem drop_end {p : List Int → Nat} : ∀ {n : Nat} {l : List Int}, l.length ≤ m → dropL p m n l = l
  | 0, _, _ => rfl
  | n + 1, l, h => by
    unfold dropL
    rw [if_neg (by omega)]
theorem drop_step {p : List Int → Nat} {l : List Int} (h : m < l.length) : dropL p m (l.length - 1) (l.eraseIdx (p l)) = dropL p m l.length l := by
  obtain ⟨n, hn⟩ : ∃ n, l.length = n + 1 := ⟨l.length - 1, by omega⟩
  rw [hn]
  show _ = if m < l.length then _ else _
  rw [if_pos h]
  rfl
theorem ixN_nat {j n : Nat} (h : j < n) : ixN n (j : Nat) = some j := by
  unfold ixN
  rw [if_pos (by omega), if_pos (by omega), Int.toNat_natCast]
theorem ixN_of {i : Int} {j n : Nat} (e : i = (j : Nat)) (h : j < n) : ixN n i = some j := by
  subst e
  exact ixN_nat h
theorem get_ints {l : List Int} {j : Nat} (h : j < l.length) : ((l.map D.int).map T.v)[j]? = some (.v (.int l[j])) := by
  rw [List.getElem?_map, List.getElem?_map, List.getElem?_eq_getElem h]
  rfl
theorem fall_eq (hl : xs.length ≤ 1000) : CJ (k + 1) 28 [.v (.lst (xs.map .int)), .v (.int (m : Nat)), .v (.int (s : Nat))] = .ok (.v (.lst ((dropL (pickOf (rsP [.first s])) m xs.length xs).map .int)), [none, none, none]) := by
  refine eq_of (wp_callJ Has.h ?_)
  simp only [f28__law_fall]
  walk_at "j"
  refine wp_while (fun n ρ => ∃ l : List Int, l.length = n ∧ dropL (pickOf (rsP [.first s])) m l.length l = dropL (pickOf (rsP [.first s])) m xs.length xs ∧ l.length ≤ 1000 ∧
    ρ = [some (.v (.lst (xs.map .int))), some (.v (.int (m : Nat))), some (.v (.int (s : Nat))), some (.lst ((l.map .int).map .v))]) ?_ _ xs.length _ (by omega) ⟨xs, rfl, rfl, hl, rfl⟩
  rintro n ρ ⟨l, hln, hdl, hl1, rfl⟩
  walk_at "j"
  have hp : pickOf (rsP [.first s]) l = if s < l.length then s else 0 := by
    show ((List.filterMap (fun r : D × (List Int → Option Nat) => r.2 l) [(RuD (.first s), pFirst s)]).head?).getD 0 = _
    unfold pFirst
    by_cases h : s < l.length <;> simp [h]
  refine ⟨fun hm => ⟨fun hs => ?_, fun hs => ?_⟩, fun hm => ?_⟩
  · have hs' : s < l.length := by omega
    have st := drop_step (p := pickOf (rsP [.first s])) (m := m) (l := l) (by omega)
    rw [hp, if_pos hs'] at st
    simp only [ixN_nat hs']
    walk_at "j"
    simp only [get_ints hs']
    walk_at "j"
    refine ⟨⟨by omega, by omega⟩, n - 1, by omega, l.eraseIdx s, ?_, ?_, ?_, by rw [map_erase, map_erase]⟩
    · rw [List.length_eraseIdx, if_pos hs']; omega
    · rw [List.length_eraseIdx, if_pos hs', st]; exact hdl
    · rw [List.length_eraseIdx, if_pos hs']; omega
  · have hs' : ¬ s < l.length := by omega
    have h0 : 0 < l.length := by omega
    have st := drop_step (p := pickOf (rsP [.first s])) (m := m) (l := l) (by omega)
    rw [hp, if_neg hs'] at st
    have e1 : ixN l.length 0 = some 0 := ixN_of rfl h0
    simp only [e1]
    walk_at "j"
    simp only [get_ints h0]
    walk_at "j"
    refine ⟨n - 1, by omega, l.eraseIdx 0, ?_, ?_, ?_, by rw [← List.eraseIdx_zero, map_erase, map_erase]⟩
    · rw [List.length_eraseIdx, if_pos h0]; omega
    · rw [List.length_eraseIdx, if_pos h0, st]; exact hdl
    · rw [List.length_eraseIdx, if_pos h0]; omega
  · rw [← hdl, drop_end (by omega)]
theorem late_eq (hl : xs.length ≤ 1000) : CJ (k + 1) 27 [.v (.lst (xs.map .int)), .v (.int (m : Nat)), .v (.int (s : Nat))] = .ok (.v (.lst ((dropL (pickOf (rsP [.last s])) m xs.length xs).map .int)), [none, none, none]) := by
  refine eq_of (wp_callJ Has.h ?_)
  simp only [f27__law_fall_late]
  walk_at "j"
  refine wp_while (fun n ρ => ∃ l : List Int, l.length = n ∧ dropL (pickOf (rsP [.last s])) m l.length l = dropL (pickOf (rsP [.last s])) m xs.length xs ∧ l.length ≤ 1000 ∧
    ρ = [some (.v (.lst (xs.map .int))), some (.v (.int (m : Nat))), some (.v (.int (s : Nat))), some (.lst ((l.map .int).map .v))]) ?_ _ xs.length _ (by omega) ⟨xs, rfl, rfl, hl, rfl⟩
  rintro n ρ ⟨l, hln, hdl, hl1, rfl⟩
  walk_at "j"
  have hp : pickOf (rsP [.last s]) l = if s < l.length then l.length - 1 - s else 0 := by
    show ((List.filterMap (fun r : D × (List Int → Option Nat) => r.2 l) [(RuD (.last s), pLast s)]).head?).getD 0 = _
    unfold pLast
    by_cases h : s < l.length <;> simp [h]
  refine ⟨fun hm => ⟨fun hs => ?_, fun hs => ?_⟩, fun hm => ?_⟩
  · have hs0 : s < l.length := by omega
    have hs' : l.length - 1 - s < l.length := by omega
    have st := drop_step (p := pickOf (rsP [.last s])) (m := m) (l := l) (by omega)
    rw [hp, if_pos hs0] at st
    have e1 : ixN l.length ((l.length : Int) - 1 - (s : Int)) = some (l.length - 1 - s) := ixN_of (by omega) hs'
    simp only [e1]
    walk_at "j"
    simp only [get_ints hs']
    walk_at "j"
    refine ⟨⟨by omega, by omega⟩, n - 1, by omega, l.eraseIdx (l.length - 1 - s), ?_, ?_, ?_, by rw [map_erase, map_erase]⟩
    · rw [List.length_eraseIdx, if_pos hs']; omega
    · rw [List.length_eraseIdx, if_pos hs', st]; exact hdl
    · rw [List.length_eraseIdx, if_pos hs']; omega
  · have hs' : ¬ s < l.length := by omega
    have h0 : 0 < l.length := by omega
    have st := drop_step (p := pickOf (rsP [.last s])) (m := m) (l := l) (by omega)
    rw [hp, if_neg hs'] at st
    have e1 : ixN l.length 0 = some 0 := ixN_of rfl h0
    simp only [e1]
    walk_at "j"
    simp only [get_ints h0]
    walk_at "j"
    refine ⟨n - 1, by omega, l.eraseIdx 0, ?_, ?_, ?_, by rw [← List.eraseIdx_zero, map_erase, map_erase]⟩
    · rw [List.length_eraseIdx, if_pos h0]; omega
    · rw [List.length_eraseIdx, if_pos h0, st]; exact hdl
    · rw [List.length_eraseIdx, if_pos h0]; omega
  · rw [← hdl, drop_end (by omega)]
end
end J.K03

set_option Elab.async false
set_option linter.all false
set_option maxRecDepth 100000
set_option maxHeartbeats 4000000
namespace J.K03
open PySem PySem.Spec PyProof.Rows L2 J
local macro_rules | `(tactic| walk_at "j") => `(tactic| simp only [↓J.wp_ok, ↓J.wp_stk, ↓J.wp2_ok, ↓J.wp2_stk, ↓J.wp_bind, ↓J.wp_bnd, ↓J.wp2_bind, ↓J.wp2_bnd, ↓J.wp_some, ↓J.wp_none, ↓J.wp_if, ↓J.wp2_if, ↓J.wp2_fi, ↓J.wp_br, ↓J.wp2_br, ↓J.wp_var, ↓J.wp_pl, ↓J.wp_pk, ↓J.wp_i2, ↓J.wp_i2c, ↓J.wp_runF, ↓J.wp_at_map, ↓J.wp_minF, ↓J.wp_maxF, ↓J.wp_idxF, ↓J.wp_cntF, ↓J.wp_inDF, ↓J.wp_inFF, ↓J.wp_for_nil, ↓J.wp_for_cons, ↓J.wp_lc_nil, ↓J.wp_lc_cons, ↓J.wp_eqF, ↓J.wp_neF, ↓J.wp_lci_nil, ↓J.wp_lci_cons, ↓J.wp_lcj_nil, ↓J.wp_lcj_cons, ↓J.wp2_ifr, ↓J.wp_isNF, ↓J.wp_notNF, ↓J.wp_blF, ↓J.wp_isiF, ↓J.wp_isi2F, ↓J.w_evE_var, ↓J.w_evE_con, ↓J.w_evE_op, ↓J.w_evE_cmp, ↓J.w_evE_chn, ↓J.w_evE_neg, ↓J.w_evE_band, ↓J.w_evE_bor, ↓J.w_evE_bone, ↓J.w_evE_bnot, ↓J.w_evE_ife, ↓J.w_evE_fz, ↓J.w_evE_tup, ↓J.w_evE_cb, ↓J.w_evE_cbv, ↓J.w_evE_cmpv, ↓J.w_evE_cmpl, ↓J.w_evE_ix, ↓J.w_evE_slt, ↓J.w_evE_fld, ↓J.w_evE_pth, ↓J.w_evE_popAt, ↓J.w_evE_remI, ↓J.w_evE_isi, ↓J.w_evE_isi2, ↓J.w_evE_idx, ↓J.w_evE_cnt, ↓J.w_evQ_v, ↓J.w_evQ_dsp, ↓J.w_evQ_lst, ↓J.w_evQ_lc, ↓J.w_evQ_lc2, ↓J.w_evQ_call, ↓J.w_evQ_callM, ↓J.w_evQ_make, ↓J.w_evQ_list, ↓J.w_evQ_lrng, ↓J.w_evQ_sll, ↓J.w_evQ_cat, ↓J.w_evQ_rep, ↓J.w_evQ_callK, ↓J.w_evQ_makeK, ↓J.w_evQ_lrng2, ↓J.w_evT_cmp, ↓J.w_evT_chn, ↓J.w_evT_val, ↓J.w_evT_not, ↓J.w_evT_bw, ↓J.w_evT_cmpv, ↓J.w_evT_cmpl, ↓J.w_evW_and1, ↓J.w_evW_or1, ↓J.w_evW_and, ↓J.w_evW_or, ↓J.w_evO_no, ↓J.w_evO_so, ↓J.w_evA_nil, ↓J.w_evA_cons, ↓J.w_evA_star, ↓J.w_evAv_nil, ↓J.w_evAv_cons, ↓J.w_evAv_vw, ↓J.w_evQs_nil, ↓J.w_evQs_cons, ↓J.w_evVx_e, ↓J.w_evVx_p, ↓J.w_evI_sq, ↓J.w_evI_zip, ↓J.w_evI_zip3, ↓J.w_evI_enum, ↓J.w_evI_rng1, ↓J.w_evI_rng2, ↓J.w_evTs_nil, ↓J.w_evTs_one, ↓J.w_evS_set, ↓J.w_evS_setq, ↓J.w_evS_setc, ↓J.w_evS_asg, ↓J.w_evS_ret, ↓J.w_evS_retq, ↓J.w_evS_retN, ↓J.w_evS_exp, ↓J.w_evS_ite, ↓J.w_evS_for, ↓J.w_evS_wh, ↓J.w_evS_pass, ↓J.w_evS_brk, ↓J.w_evS_cnt, ↓J.w_evS_never, ↓J.w_evS_app, ↓J.w_evS_appP, ↓J.w_evS_ext, ↓J.w_evS_fld, ↓J.w_evS_par, ↓J.w_evS_par3, ↓J.w_evS_unp, ↓J.w_evSs_nil, ↓J.w_evSs_cons, ↓J.w_evG_nm, ↓J.w_evG_tup, ↓J.w_evG_set, ↓J.w_evG_fld, ↓J.w_evGs_nil, ↓J.w_evGs_cons, id_eq, J.putAt, Int.cast_ofNat_Int, J.isNon, J.tyK, J.nth_z, J.nth_s, List.set_cons_zero, List.set_cons_succ, J.rootP, J.ofP, J.ofU, J.pfIx, J.pfFld, J.pfNil, J.getP, J.setP, J.kids, J.intsF, J.blsF, J.intsOf_map, J.blsOf_map, J.intsOf_mapf, J.blsOf_mapf, J.toDs_map, J.intsOf, J.blsOf, Option.map_some, J.eqFl_ss, J.eqFl_ii, J.eqFl_si, J.eqFl_is, J.eqFl_nn, J.eqFl_sn, J.eqFl_ns, J.eqFl_in, J.eqFl_ni, J.flat, List.sum_cons, List.sum_nil, Int.add_zero, List.all_cons, List.all_nil, List.any_cons, List.any_nil, J.zipD, J.zipD3, J.deq_tup, J.deq_lst, J.deq_int, J.deq_str, J.deq_bl, J.deq_non, J.deqs_nil, J.deqs_cons, J.deqs_nc, J.deqs_cn, J.deqs_ints, J.deqs_ints_nil, J.shp_ints, J.shp_nil, J.shp_int, J.withKids, J.wipeB, J.mrg, J.keepB, J.ownV, J.endsB, J.toD, J.toDs, J.toDs_v, J.puNeg, J.puOp, J.opF, J.cmpF, J.bfF, J.on1, J.on2, J.startB, J.finB, J.memN_n, J.memN_c, List.map_cons, List.map_nil, List.cons_append, List.nil_append, List.length_cons, List.length_nil, List.length_map, List.replicate, J.ix0, J.ix1, J.ix2, J.ix3, J.ix4, J.ix5, J.ixm1, J.at0, J.at1, J.at2, J.at3, J.at4, J.atm1, J.atm2, J.atm3, J.items, J.intF, J.absF, J.boolF, List.getElem?_cons_zero, List.getElem?_cons_succ, List.eraseIdx_zero, ↓reduceIte, Nat.reduceAdd, Nat.reduceSub, Int.reduceNeg, Int.reduceLT, Int.reduceLE, Int.reduceEq, Int.reduceMul, Int.reduceSub, Int.reduceToNat, Nat.reduceLT, Nat.reduceLeDiff, decide_eq_true_eq, decide_eq_false_iff_not, true_and, and_true, Int.reduceAdd, Int.reducePow, Int.reduceMul, Int.reduceMod, Nat.reduceEqDiff, Bool.or_false, Bool.false_or, Bool.true_or, Bool.or_true, Bool.and_true, Bool.true_and, Bool.and_false, Bool.false_and, Bool.not_true, Bool.not_false, decide_true, decide_false, forall_const, false_and, and_false, and_self, false_implies, implies_true, true_implies, reduceCtorEq, Bool.true_eq_false, Bool.false_eq_true, not_true_eq_false, not_false_eq_true, if_true, if_false, J.K03.fx_scores, J.K03.fx_none, J.K03.fx_late, J.K03.fx_strict, J.K03.fx_hlen, J.K03.fx_heads, J.K03.fx_table, J.K03.fx_shift, J.K03.fx_cap, J.K03.fx_llen, J.K03.fx_rows, J.K03.fx_layers, J.K03.fx_worths, J.K03.fx_letters, J.K03.fx_lengths, J.K03.fx_players, J.K03.e_lf, J.K03.e_sf, J.K03.e_sl, J.K03.e_rf, J.K03.e_rl, J.K03.e_rs, J.K03.e_tf, J.K03.e_tl, J.K03.e_ts, J.K03.e_tr, J.K03.e_gf, J.K03.e_gl, J.K03.e_gs, J.K03.e_gr, J.K03.e_gt, J.K03.e_no, J.K03.e_self, J.K03.h_f, J.K03.h_l, J.K03.h_s, J.K03.h_r, J.K03.h_t, J.K03.h_g, J.K03.h_o, J.K03.h_n, J.K03.kt_ii, J.K03.kt_ib, J.K03.kt_bi, J.K03.kt_bb, J.K03.kt_ss, J.K03.kt_tl, J.K03.kt_tt, J.K03.kt_ll, J.K03.kt_lt, J.K03.kt_il, J.K03.kt_it, J.K03.kt_sl, J.K03.kt_st, J.K03.kt_c0, J.K03.kt_c1, J.K03.kt_c2, J.K03.kt_c3, J.K03.e_fl, J.K03.e_fs, J.K03.e_ft, J.K03.e_fg, J.K03.e_fr, J.K03.e_ls, J.K03.e_lt, J.K03.e_lg, J.K03.e_lr, J.K03.e_st, J.K03.e_sg, J.K03.e_sr, J.K03.e_tg, J.K03.e_rt, J.K03.e_rg, J.K03.e_on])
section
variable {k m s : Nat} {xs : List Int}
theorem intsT_ints : ∀ l : List Int, intsT ((l.map .int).map .v) = some l
  | [] => rfl
  | x :: l => by
    have ih := intsT_ints l
    simp only [List.map_cons, intsT, ih]
    rfl
theorem erase_idx {l : List Int} {v : Int} : l.erase v = l.eraseIdx (l.idxOf v) := List.erase_eq_eraseIdx_of_idxOf rfl
theorem scores_eq {high : Bool} (hl : xs.length ≤ 1000) : CJ (k + 1) 26 [.v (.lst (xs.map .int)), .v (.int (m : Nat)), .v (.bl (!high))] = .ok (.v (.lst ((dropL (fun l => l.idxOf (if high then maxL l else minL l)) m xs.length xs).map .int)), [none, none, none]) := by
  refine eq_of (wp_callJ Has.h ?_)
  simp only [f26__law_by_scores]
  walk_at "j"
  refine wp_while (fun n ρ => ∃ l : List Int, l.length = n ∧ dropL (fun l => l.idxOf (if high then maxL l else minL l)) m l.length l = dropL (fun l => l.idxOf (if high then maxL l else minL l)) m xs.length xs ∧ l.length ≤ 1000 ∧
    ρ = [some (.v (.lst (xs.map .int))), some (.v (.int (m : Nat))), some (.v (.bl (!high))), some (.lst ((l.map .int).map .v))]) ?_ _ xs.length _ (by omega) ⟨xs, rfl, rfl, hl, rfl⟩
  rintro n ρ ⟨l, hln, hdl, hl1, rfl⟩
  walk_at "j"
  have fin : ∀ v : Int, v ∈ l → v = (if high then maxL l else minL l) → (m : Int) < (l.length : Int) → ∃ m', m' < n ∧ ∃ l' : List Int, l'.length = m' ∧ dropL (fun l => l.idxOf (if high then maxL l else minL l)) m l'.length l' = dropL (fun l => l.idxOf (if high then maxL l else minL l)) m xs.length xs ∧ l'.length ≤ 1000 ∧
      ([some (.v (.lst (xs.map .int))), some (.v (.int (m : Nat))), some (.v (.bl (!high))), some (.lst ((l.erase v).map fun n => .v (.int n)))] : Env) = [some (.v (.lst (xs.map .int))), some (.v (.int (m : Nat))), some (.v (.bl (!high))), some (.lst ((l'.map .int).map .v))] := fun v hv e hm => by
    have st := drop_step (p := fun l => l.idxOf (if high then maxL l else minL l)) (m := m) (l := l) (by omega)
    have he : l.erase v = l.eraseIdx (l.idxOf (if high then maxL l else minL l)) := by rw [← e]; exact erase_idx
    have hi := List.idxOf_lt_length_of_mem hv
    rw [e] at hi
    refine ⟨n - 1, by omega, l.erase v, ?_, ?_, ?_, by rw [List.map_map]; rfl⟩
    · rw [he, List.length_eraseIdx, if_pos hi]; omega
    · rw [he, List.length_eraseIdx, if_pos hi, ← hdl]; exact st
    · rw [he, List.length_eraseIdx, if_pos hi]; omega
  refine ⟨fun hm => ?_, fun hm => ?_⟩
  · have hne : l ≠ [] := fun z => by subst z; simp at hm; omega
    refine ⟨fun hh => ⟨hne, ?_⟩, fun hh => ⟨hne, ?_⟩⟩
    · simp only [intsT_ints]
      walk_at "j"
      refine ⟨minL_mem hne, ?_⟩
      have hh' : high = false := by cases high <;> simp_all
      exact fin _ (minL_mem hne) (by rw [hh']; rfl) hm
    · simp only [intsT_ints]
      walk_at "j"
      refine ⟨maxL_mem hne, ?_⟩
      have hh' : high = true := by cases high <;> simp_all
      exact fin _ (maxL_mem hne) (by rw [hh']; rfl) hm
  · rw [← hdl, drop_end (by omega)]
end
end J.K03

set_option Elab.async false
set_option linter.all false
set_option maxRecDepth 100000
set_option maxHeartbeats 4000000
namespace J.K03
open PySem PySem.Spec PyProof.Rows L2 J
local macro_rules | `(tactic| walk_at "j") => `(tactic| simp only [↓J.wp_ok, ↓J.wp_stk, ↓J.wp2_ok, ↓J.wp2_stk, ↓J.wp_bind, ↓J.wp_bnd, ↓J.wp2_bind, ↓J.wp2_bnd, ↓J.wp_some, ↓J.wp_none, ↓J.wp_if, ↓J.wp2_if, ↓J.wp2_fi, ↓J.wp_br, ↓J.wp2_br, ↓J.wp_var, ↓J.wp_pl, ↓J.wp_pk, ↓J.wp_i2, ↓J.wp_i2c, ↓J.wp_runF, ↓J.wp_at_map, ↓J.wp_minF, ↓J.wp_maxF, ↓J.wp_idxF, ↓J.wp_cntF, ↓J.wp_inDF, ↓J.wp_inFF, ↓J.wp_for_nil, ↓J.wp_for_cons, ↓J.wp_lc_nil, ↓J.wp_lc_cons, ↓J.wp_eqF, ↓J.wp_neF, ↓J.wp_lci_nil, ↓J.wp_lci_cons, ↓J.wp_lcj_nil, ↓J.wp_lcj_cons, ↓J.wp2_ifr, ↓J.wp_isNF, ↓J.wp_notNF, ↓J.wp_blF, ↓J.wp_isiF, ↓J.wp_isi2F, ↓J.w_evE_var, ↓J.w_evE_con, ↓J.w_evE_op, ↓J.w_evE_cmp, ↓J.w_evE_chn, ↓J.w_evE_neg, ↓J.w_evE_band, ↓J.w_evE_bor, ↓J.w_evE_bone, ↓J.w_evE_bnot, ↓J.w_evE_ife, ↓J.w_evE_fz, ↓J.w_evE_tup, ↓J.w_evE_cb, ↓J.w_evE_cbv, ↓J.w_evE_cmpv, ↓J.w_evE_cmpl, ↓J.w_evE_ix, ↓J.w_evE_slt, ↓J.w_evE_fld, ↓J.w_evE_pth, ↓J.w_evE_popAt, ↓J.w_evE_remI, ↓J.w_evE_isi, ↓J.w_evE_isi2, ↓J.w_evE_idx, ↓J.w_evE_cnt, ↓J.w_evQ_v, ↓J.w_evQ_dsp, ↓J.w_evQ_lst, ↓J.w_evQ_lc, ↓J.w_evQ_lc2, ↓J.w_evQ_call, ↓J.w_evQ_callM, ↓J.w_evQ_make, ↓J.w_evQ_list, ↓J.w_evQ_lrng, ↓J.w_evQ_sll, ↓J.w_evQ_cat, ↓J.w_evQ_rep, ↓J.w_evQ_callK, ↓J.w_evQ_makeK, ↓J.w_evQ_lrng2, ↓J.w_evT_cmp, ↓J.w_evT_chn, ↓J.w_evT_val, ↓J.w_evT_not, ↓J.w_evT_bw, ↓J.w_evT_cmpv, ↓J.w_evT_cmpl, ↓J.w_evW_and1, ↓J.w_evW_or1, ↓J.w_evW_and, ↓J.w_evW_or, ↓J.w_evO_no, ↓J.w_evO_so, ↓J.w_evA_nil, ↓J.w_evA_cons, ↓J.w_evA_star, ↓J.w_evAv_nil, ↓J.w_evAv_cons, ↓J.w_evAv_vw, ↓J.w_evQs_nil, ↓J.w_evQs_cons, ↓J.w_evVx_e, ↓J.w_evVx_p, ↓J.w_evI_sq, ↓J.w_evI_zip, ↓J.w_evI_zip3, ↓J.w_evI_enum, ↓J.w_evI_rng1, ↓J.w_evI_rng2, ↓J.w_evTs_nil, ↓J.w_evTs_one, ↓J.w_evS_set, ↓J.w_evS_setq, ↓J.w_evS_setc, ↓J.w_evS_asg, ↓J.w_evS_ret, ↓J.w_evS_retq, ↓J.w_evS_retN, ↓J.w_evS_exp, ↓J.w_evS_ite, ↓J.w_evS_for, ↓J.w_evS_wh, ↓J.w_evS_pass, ↓J.w_evS_brk, ↓J.w_evS_cnt, ↓J.w_evS_never, ↓J.w_evS_app, ↓J.w_evS_appP, ↓J.w_evS_ext, ↓J.w_evS_fld, ↓J.w_evS_par, ↓J.w_evS_par3, ↓J.w_evS_unp, ↓J.w_evSs_nil, ↓J.w_evSs_cons, ↓J.w_evG_nm, ↓J.w_evG_tup, ↓J.w_evG_set, ↓J.w_evG_fld, ↓J.w_evGs_nil, ↓J.w_evGs_cons, id_eq, J.putAt, Int.cast_ofNat_Int, J.isNon, J.tyK, J.nth_z, J.nth_s, List.set_cons_zero, List.set_cons_succ, J.rootP, J.ofP, J.ofU, J.pfIx, J.pfFld, J.pfNil, J.getP, J.setP, J.kids, J.intsF, J.blsF, J.intsOf_map, J.blsOf_map, J.intsOf_mapf, J.blsOf_mapf, J.toDs_map, J.intsOf, J.blsOf, Option.map_some, J.eqFl_ss, J.eqFl_ii, J.eqFl_si, J.eqFl_is, J.eqFl_nn, J.eqFl_sn, J.eqFl_ns, J.eqFl_in, J.eqFl_ni, J.flat, List.sum_cons, List.sum_nil, Int.add_zero, List.all_cons, List.all_nil, List.any_cons, List.any_nil, J.zipD, J.zipD3, J.deq_tup, J.deq_lst, J.deq_int, J.deq_str, J.deq_bl, J.deq_non, J.deqs_nil, J.deqs_cons, J.deqs_nc, J.deqs_cn, J.deqs_ints, J.deqs_ints_nil, J.shp_ints, J.shp_nil, J.shp_int, J.withKids, J.wipeB, J.mrg, J.keepB, J.ownV, J.endsB, J.toD, J.toDs, J.toDs_v, J.puNeg, J.puOp, J.opF, J.cmpF, J.bfF, J.on1, J.on2, J.startB, J.finB, J.memN_n, J.memN_c, List.map_cons, List.map_nil, List.cons_append, List.nil_append, List.length_cons, List.length_nil, List.length_map, List.replicate, J.ix0, J.ix1, J.ix2, J.ix3, J.ix4, J.ix5, J.ixm1, J.at0, J.at1, J.at2, J.at3, J.at4, J.atm1, J.atm2, J.atm3, J.items, J.intF, J.absF, J.boolF, List.getElem?_cons_zero, List.getElem?_cons_succ, List.eraseIdx_zero, ↓reduceIte, Nat.reduceAdd, Nat.reduceSub, Int.reduceNeg, Int.reduceLT, Int.reduceLE, Int.reduceEq, Int.reduceMul, Int.reduceSub, Int.reduceToNat, Nat.reduceLT, Nat.reduceLeDiff, decide_eq_true_eq, decide_eq_false_iff_not, true_and, and_true, Int.reduceAdd, Int.reducePow, Int.reduceMul, Int.reduceMod, Nat.reduceEqDiff, Bool.or_false, Bool.false_or, Bool.true_or, Bool.or_true, Bool.and_true, Bool.true_and, Bool.and_false, Bool.false_and, Bool.not_true, Bool.not_false, decide_true, decide_false, forall_const, false_and, and_false, and_self, false_implies, implies_true, true_implies, reduceCtorEq, Bool.true_eq_false, Bool.false_eq_true, not_true_eq_false, not_false_eq_true, if_true, if_false, J.K03.fx_scores, J.K03.fx_none, J.K03.fx_late, J.K03.fx_strict, J.K03.fx_hlen, J.K03.fx_heads, J.K03.fx_table, J.K03.fx_shift, J.K03.fx_cap, J.K03.fx_llen, J.K03.fx_rows, J.K03.fx_layers, J.K03.fx_worths, J.K03.fx_letters, J.K03.fx_lengths, J.K03.fx_players, J.K03.e_lf, J.K03.e_sf, J.K03.e_sl, J.K03.e_rf, J.K03.e_rl, J.K03.e_rs, J.K03.e_tf, J.K03.e_tl, J.K03.e_ts, J.K03.e_tr, J.K03.e_gf, J.K03.e_gl, J.K03.e_gs, J.K03.e_gr, J.K03.e_gt, J.K03.e_no, J.K03.e_self, J.K03.h_f, J.K03.h_l, J.K03.h_s, J.K03.h_r, J.K03.h_t, J.K03.h_g, J.K03.h_o, J.K03.h_n, J.K03.kt_ii, J.K03.kt_ib, J.K03.kt_bi, J.K03.kt_bb, J.K03.kt_ss, J.K03.kt_tl, J.K03.kt_tt, J.K03.kt_ll, J.K03.kt_lt, J.K03.kt_il, J.K03.kt_it, J.K03.kt_sl, J.K03.kt_st, J.K03.kt_c0, J.K03.kt_c1, J.K03.kt_c2, J.K03.kt_c3, J.K03.e_fl, J.K03.e_fs, J.K03.e_ft, J.K03.e_fg, J.K03.e_fr, J.K03.e_ls, J.K03.e_lt, J.K03.e_lg, J.K03.e_lr, J.K03.e_st, J.K03.e_sg, J.K03.e_sr, J.K03.e_tg, J.K03.e_rt, J.K03.e_rg, J.K03.e_on])
/-! ### what the rules leave, by formula -/
theorem er_take {xs : List Int} {j : Nat} (h : j < xs.length) : (xs.eraseIdx j).take j = xs.take j := by
  rw [List.eraseIdx_eq_take_drop_succ, List.take_append_of_le_length (by rw [List.length_take]; omega), List.take_take, Nat.min_self]
theorem er_drop {xs : List Int} {j d : Nat} (h : j < xs.length) : (xs.eraseIdx j).drop (j + d) = xs.drop (j + 1 + d) := by
  rw [List.eraseIdx_eq_take_drop_succ, List.drop_append, List.drop_eq_nil_of_le (by rw [List.length_take]; omega), List.nil_append, List.length_take, List.drop_drop]
  congr 1
  omega
theorem pk_first {s : Nat} {l : List Int} (h : s < l.length) : pickOf (rsP [.first s]) l = s := by
  show ((List.filterMap (fun r : D × (List Int → Option Nat) => r.2 l) [(RuD (.first s), pFirst s)]).head?).getD 0 = _
  unfold pFirst
  simp [h]
theorem pk_last {s : Nat} {l : List Int} (h : s < l.length) : pickOf (rsP [.last s]) l = l.length - 1 - s := by
  show ((List.filterMap (fun r : D × (List Int → Option Nat) => r.2 l) [(RuD (.last s), pLast s)]).head?).getD 0 = _
  unfold pLast
  simp [h]
theorem first_gen {m s : Nat} (hs : s < m) : ∀ (d : Nat) (xs : List Int), xs.length = m + d → dropL (pickOf (rsP [.first s])) m xs.length xs = xs.take s ++ xs.drop (s + d)
  | 0, xs, h => by rw [drop_end (by omega), Nat.add_zero, List.take_append_drop]
  | d + 1, xs, h => by
    have hl : (xs.eraseIdx s).length = xs.length - 1 := by rw [List.length_eraseIdx, if_pos (by omega)]
    have ih := first_gen hs d (xs.eraseIdx s) (by rw [hl]; omega)
    rw [← drop_step (by omega), pk_first (by omega), ← hl, ih, er_take (by omega), er_drop (by omega), show s + 1 + d = s + (d + 1) by omega]
theorem last_gen {m s : Nat} (hs : s < m) : ∀ (d : Nat) (xs : List Int), xs.length = m + d → dropL (pickOf (rsP [.last s])) m xs.length xs = xs.take (m - s) ++ xs.drop (m - s + d)
  | 0, xs, h => by rw [drop_end (by omega), Nat.add_zero, List.take_append_drop]
  | d + 1, xs, h => by
    have e : pickOf (rsP [.last s]) xs = m - s + d := by rw [pk_last (by omega)]; omega
    have hl : (xs.eraseIdx (m - s + d)).length = xs.length - 1 := by rw [List.length_eraseIdx, if_pos (by omega)]
    have ih := last_gen hs d (xs.eraseIdx (m - s + d)) (by rw [hl]; omega)
    rw [← drop_step (by omega), e, ← hl, ih]
    congr 1
    · rw [List.eraseIdx_eq_take_drop_succ, List.take_append_of_le_length (by rw [List.length_take]; omega), List.take_take, Nat.min_eq_left (by omega)]
    · have := er_drop (xs := xs) (j := m - s + d) (d := 0) (by omega)
      rw [Nat.add_zero] at this
      rw [this]
      congr 1
theorem first_form {xs : List Int} {m s : Nat} (h : xs.length = 8) (hm : m ≤ 6) (hs : s < m) : dropL (pickOf (rsP [.first s])) m xs.length xs = xs.take s ++ xs.drop (8 - m + s) := by
  rw [first_gen hs (8 - m) xs (by omega), Nat.add_comm]
theorem last_form {xs : List Int} {m s : Nat} (h : xs.length = 8) (hm : m ≤ 6) (hs : s < m) : dropL (pickOf (rsP [.last s])) m xs.length xs = xs.take (m - s) ++ xs.drop (8 - s) := by
  rw [last_gen hs (8 - m) xs (by omega), show m - s + (8 - m) = 8 - s by omega]
theorem sc_form {g h : Bool} {m : Nat} {xs : List Int} : dropL (pickOf (rsP [.sc g h])) m xs.length xs = dropL (fun l => l.idxOf (if g ^^ h then maxL l else minL l)) m xs.length xs := rfl
theorem old5 {a b c f : Int} (h1 : a ≠ b) (h2 : a ≠ c) (h3 : a ≠ f) (h4 : b ≠ c) (h5 : b ≠ f) (h6 : c ≠ f) : dropL (pickOf (rsP [.same false])) 5 6 [a, b, c, a, b, f] = [b, c, a, b, f] := by
  simp [dropL, pickOf, rsP, pick, pSame, sameJ, h1, h2, h3, h4, h5, h6, h1.symm, h2.symm, h3.symm, h4.symm, h5.symm, h6.symm]
theorem old4 {a b c f : Int} (h1 : a ≠ b) (h2 : a ≠ c) (h3 : a ≠ f) (h4 : b ≠ c) (h5 : b ≠ f) (h6 : c ≠ f) : dropL (pickOf (rsP [.same false])) 4 6 [a, b, c, a, b, f] = [c, a, b, f] := by
  simp [dropL, pickOf, rsP, pick, pSame, sameJ, h1, h2, h3, h4, h5, h6, h1.symm, h2.symm, h3.symm, h4.symm, h5.symm, h6.symm]
theorem new5 {a b c f : Int} (h1 : a ≠ b) (h2 : a ≠ c) (h3 : a ≠ f) (h4 : b ≠ c) (h5 : b ≠ f) (h6 : c ≠ f) : dropL (pickOf (rsP [.same true])) 5 6 [a, b, c, a, b, f] = [a, b, c, a, f] := by
  simp [dropL, pickOf, rsP, pick, pSame, sameJ, h1, h2, h3, h4, h5, h6, h1.symm, h2.symm, h3.symm, h4.symm, h5.symm, h6.symm]
theorem new3 {a b c f : Int} (h1 : a ≠ b) (h2 : a ≠ c) (h3 : a ≠ f) (h4 : b ≠ c) (h5 : b ≠ f) (h6 : c ≠ f) : dropL (pickOf (rsP [.same true, .row c])) 3 6 [a, b, c, a, b, f] = [a, b, f] := by
  simp [dropL, pickOf, rsP, pick, pSame, sameJ, pRow, h1, h2, h3, h4, h5, h6, h1.symm, h2.symm, h3.symm, h4.symm, h5.symm, h6.symm]
theorem row4 {a b c f : Int} (h1 : a ≠ b) (h2 : a ≠ c) (h3 : a ≠ f) (h4 : b ≠ c) (h5 : b ≠ f) (h6 : c ≠ f) (g1 : a ≠ 99) (g2 : b ≠ 99) (g3 : c ≠ 99) (g4 : f ≠ 99) : dropL (pickOf (rsP [.row 99, .row b])) 4 6 [a, b, c, a, b, f] = [a, c, a, f] := by
  simp [dropL, pickOf, rsP, pick, pSame, sameJ, pRow, h1, h2, h3, h4, h5, h6, h1.symm, h2.symm, h3.symm, h4.symm, h5.symm, h6.symm, g1, g2, g3, g4]
end J.K03

set_option Elab.async false
set_option linter.all false
set_option maxRecDepth 100000
set_option maxHeartbeats 4000000
namespace J.K03
open PySem PySem.Spec PyProof.Rows L2 J

theorem ints08 : intsD 0 8 = [(0 : Int), 1, 2, 3, 4, 5, 6, 7].map D.int := by rfl
theorem ints19 : intsD 1 9 = [(1 : Int), 2, 3, 4, 5, 6, 7, 8].map D.int := by rfl
theorem ct {α : Type} {f : α → D} {xs : List α} {i : Int} {s : Nat} (h : i = s) : cutD (xs.map f) none (some i) = (xs.take s).map f := by
  subst h
  unfold cutD
  rw [HT.sIx_nat]
  show ((xs.map f).drop 0).take (min s (xs.map f).length - 0) = _
  rw [List.drop_zero, Nat.sub_zero, ← List.map_take, List.length_map]
  congr 1
  by_cases h : s ≤ xs.length
  · rw [Nat.min_eq_left h]
  · rw [Nat.min_eq_right (by omega), List.take_length, List.take_of_length_le (by omega)]
theorem cd {α : Type} {f : α → D} {xs : List α} {i : Int} {s : Nat} (h : i = s) : cutD (xs.map f) (some i) none = (xs.drop s).map f := by
  subst h
  unfold cutD
  rw [HT.sIx_nat]
  show ((xs.map f).drop (min s (xs.map f).length)).take ((xs.map f).length - min s (xs.map f).length) = _
  rw [List.length_map]
  by_cases h : s ≤ xs.length
  · rw [Nat.min_eq_left h, List.take_of_length_le (by simp), List.map_drop]
  · rw [Nat.min_eq_right (by omega), List.drop_of_length_le (by simp), List.drop_of_length_le (by omega), List.map_nil, List.take_nil]
theorem tv {l : List D} : toDs (l.map T.v) = l := by
  rw [toDs_map, List.map_id']
theorem eight {xs : List Int} (h : xs.length = 8) : ∃ a b c d e f g i, xs = [a, b, c, d, e, f, g, i] := by
  match xs, h with
  | [a, b, c, d, e, f, g, i], _ => exact ⟨a, b, c, d, e, f, g, i, rfl⟩
theorem unl {y0 y1 y2 y3 y4 y5 y6 y7 : Int} (h : [y0, y1, y2, y3, y4, y5, y6, y7].Nodup) : y0 ≠ y1 ∧ y0 ≠ y2 ∧ y0 ≠ y5 ∧ y1 ≠ y2 ∧ y1 ≠ y5 ∧ y2 ≠ y5 := by
  simp at h
  exact ⟨h.1.1, h.1.2.1, h.1.2.2.2.2.1, h.2.1.1, h.2.1.2.2.2.1, h.2.2.1.2.2.1⟩
theorem six {y0 y1 y2 y3 y4 y5 y6 y7 : Int} (h : Good [y0, y1, y2, y3, y4, y5, y6, y7]) : Good [y0, y1, y2, y0, y1, y5] := fun z hz => h z (by
  simp at hz
  rcases hz with rfl | rfl | rfl | rfl | rfl | rfl <;> simp)
def scL (high : Bool) (m : Nat) (xs : List Int) : List Int := dropL (fun l => l.idxOf (if high then maxL l else minL l)) m xs.length xs
theorem left_sc {k m : Nat} {a b : Int} {xs : List Int} {g h hi : Bool} (e : (g ^^ h) = hi) (ha : 1 ≤ a ∧ a ≤ 9) (hb : -9 ≤ b ∧ b ≤ -1) (hg : Good xs) (hl : xs.length ≤ 60) (hm : m ≤ 6) :
    CJ (k + 8) 45 [.v (netD a b), .v (.int (m : Nat)), .v (.lst [RuD (.sc g h)]), .v (.lst (xs.map .int))] = .ok (.v (.lst ((scL hi m xs).map .int)), [none, none, none, none]) := by
  have := left_eq (k := k) (m := m) (rs := [.sc g h]) ha hb hg hl (by simp [Ru.ok]) hm (by simp)
  rw [sc_form, e] at this
  exact this
theorem scores_sc {k m : Nat} {xs : List Int} {lo high : Bool} (e : (!high) = lo) (hl : xs.length ≤ 1000) : CJ (k + 1) 26 [.v (.lst (xs.map .int)), .v (.int (m : Nat)), .v (.bl lo)] = .ok (.v (.lst ((scL high m xs).map .int)), [none, none, none]) := by
  subst e
  exact scores_eq hl
section
variable {a b c d e f g i : D}
theorem c3 : cutD [a, b, c, d, e, f, g, i] none (some 3) = [a, b, c] := rfl
theorem c2 : cutD [a, b, c, d, e, f, g, i] none (some 2) = [a, b] := rfl
theorem c5 : cutD [a, b, c, d, e, f, g, i] (some 5) (some 6) = [f] := rfl
theorem d1 : cutD [a, b, c, d, e, f] (some 1) none = [b, c, d, e, f] := rfl
theorem d2 : cutD [a, b, c, d, e, f] (some 2) none = [c, d, e, f] := rfl
theorem d4 : cutD [a, b, c, d, e, f] none (some 4) = [a, b, c, d] := rfl
theorem d5 : cutD [a, b, c, d, e, f] (some 5) none = [f] := rfl
theorem dt2 : cutD [a, b, c, d, e, f] none (some 2) = [a, b] := rfl
end
local macro_rules | `(tactic| walk_at "j") => `(tactic| simp only [↓J.wp_ok, ↓J.wp_stk, ↓J.wp2_ok, ↓J.wp2_stk, ↓J.wp_bind, ↓J.wp_bnd, ↓J.wp2_bind, ↓J.wp2_bnd, ↓J.wp_some, ↓J.wp_none, ↓J.wp_if, ↓J.wp2_if, ↓J.wp2_fi, ↓J.wp_br, ↓J.wp2_br, ↓J.wp_var, ↓J.wp_pl, ↓J.wp_pk, ↓J.wp_i2, ↓J.wp_i2c, ↓J.wp_runF, ↓J.wp_at_map, ↓J.wp_minF, ↓J.wp_maxF, ↓J.wp_idxF, ↓J.wp_cntF, ↓J.wp_inDF, ↓J.wp_inFF, ↓J.wp_for_nil, ↓J.wp_for_cons, ↓J.wp_lc_nil, ↓J.wp_lc_cons, ↓J.wp_eqF, ↓J.wp_neF, ↓J.wp_lci_nil, ↓J.wp_lci_cons, ↓J.wp_lcj_nil, ↓J.wp_lcj_cons, ↓J.wp2_ifr, ↓J.wp_isNF, ↓J.wp_notNF, ↓J.wp_blF, ↓J.wp_isiF, ↓J.wp_isi2F, ↓J.w_evE_var, ↓J.w_evE_con, ↓J.w_evE_op, ↓J.w_evE_cmp, ↓J.w_evE_chn, ↓J.w_evE_neg, ↓J.w_evE_band, ↓J.w_evE_bor, ↓J.w_evE_bone, ↓J.w_evE_bnot, ↓J.w_evE_ife, ↓J.w_evE_fz, ↓J.w_evE_tup, ↓J.w_evE_cb, ↓J.w_evE_cbv, ↓J.w_evE_cmpv, ↓J.w_evE_cmpl, ↓J.w_evE_ix, ↓J.w_evE_slt, ↓J.w_evE_fld, ↓J.w_evE_pth, ↓J.w_evE_popAt, ↓J.w_evE_remI, ↓J.w_evE_isi, ↓J.w_evE_isi2, ↓J.w_evE_idx, ↓J.w_evE_cnt, ↓J.w_evQ_v, ↓J.w_evQ_dsp, ↓J.w_evQ_lst, ↓J.w_evQ_lc, ↓J.w_evQ_lc2, ↓J.w_evQ_call, ↓J.w_evQ_callM, ↓J.w_evQ_make, ↓J.w_evQ_list, ↓J.w_evQ_lrng, ↓J.w_evQ_sll, ↓J.w_evQ_cat, ↓J.w_evQ_rep, ↓J.w_evQ_callK, ↓J.w_evQ_makeK, ↓J.w_evQ_lrng2, ↓J.w_evT_cmp, ↓J.w_evT_chn, ↓J.w_evT_val, ↓J.w_evT_not, ↓J.w_evT_bw, ↓J.w_evT_cmpv, ↓J.w_evT_cmpl, ↓J.w_evW_and1, ↓J.w_evW_or1, ↓J.w_evW_and, ↓J.w_evW_or, ↓J.w_evO_no, ↓J.w_evO_so, ↓J.w_evA_nil, ↓J.w_evA_cons, ↓J.w_evA_star, ↓J.w_evAv_nil, ↓J.w_evAv_cons, ↓J.w_evAv_vw, ↓J.w_evQs_nil, ↓J.w_evQs_cons, ↓J.w_evVx_e, ↓J.w_evVx_p, ↓J.w_evI_sq, ↓J.w_evI_zip, ↓J.w_evI_zip3, ↓J.w_evI_enum, ↓J.w_evI_rng1, ↓J.w_evI_rng2, ↓J.w_evTs_nil, ↓J.w_evTs_one, ↓J.w_evS_set, ↓J.w_evS_setq, ↓J.w_evS_setc, ↓J.w_evS_asg, ↓J.w_evS_ret, ↓J.w_evS_retq, ↓J.w_evS_retN, ↓J.w_evS_exp, ↓J.w_evS_ite, ↓J.w_evS_for, ↓J.w_evS_wh, ↓J.w_evS_pass, ↓J.w_evS_brk, ↓J.w_evS_cnt, ↓J.w_evS_never, ↓J.w_evS_app, ↓J.w_evS_appP, ↓J.w_evS_ext, ↓J.w_evS_fld, ↓J.w_evS_par, ↓J.w_evS_par3, ↓J.w_evS_unp, ↓J.w_evSs_nil, ↓J.w_evSs_cons, ↓J.w_evG_nm, ↓J.w_evG_tup, ↓J.w_evG_set, ↓J.w_evG_fld, ↓J.w_evGs_nil, ↓J.w_evGs_cons, id_eq, J.putAt, Int.cast_ofNat_Int, J.isNon, J.tyK, J.nth_z, J.nth_s, List.set_cons_zero, List.set_cons_succ, J.rootP, J.ofP, J.ofU, J.pfIx, J.pfFld, J.pfNil, J.getP, J.setP, J.kids, J.intsF, J.blsF, J.intsOf_map, J.blsOf_map, J.intsOf_mapf, J.blsOf_mapf, J.toDs_map, J.intsOf, J.blsOf, Option.map_some, J.eqFl_ss, J.eqFl_ii, J.eqFl_si, J.eqFl_is, J.eqFl_nn, J.eqFl_sn, J.eqFl_ns, J.eqFl_in, J.eqFl_ni, J.flat, List.sum_cons, List.sum_nil, Int.add_zero, List.all_cons, List.all_nil, List.any_cons, List.any_nil, J.zipD, J.zipD3, J.deq_tup, J.deq_lst, J.deq_int, J.deq_str, J.deq_bl, J.deq_non, J.deqs_nil, J.deqs_cons, J.deqs_nc, J.deqs_cn, J.deqs_ints, J.deqs_ints_nil, J.shp_ints, J.shp_nil, J.shp_int, J.withKids, J.wipeB, J.mrg, J.keepB, J.ownV, J.endsB, J.toD, J.toDs, J.toDs_v, J.puNeg, J.puOp, J.opF, J.cmpF, J.bfF, J.on1, J.on2, J.startB, J.finB, J.memN_n, J.memN_c, List.map_cons, List.map_nil, List.cons_append, List.nil_append, List.length_cons, List.length_nil, List.length_map, List.replicate, J.ix0, J.ix1, J.ix2, J.ix3, J.ix4, J.ix5, J.ixm1, J.at0, J.at1, J.at2, J.at3, J.at4, J.atm1, J.atm2, J.atm3, J.items, J.intF, J.absF, J.boolF, List.getElem?_cons_zero, List.getElem?_cons_succ, List.eraseIdx_zero, ↓reduceIte, Nat.reduceAdd, Nat.reduceSub, Int.reduceNeg, Int.reduceLT, Int.reduceLE, Int.reduceEq, Int.reduceMul, Int.reduceSub, Int.reduceToNat, Nat.reduceLT, Nat.reduceLeDiff, decide_eq_true_eq, decide_eq_false_iff_not, true_and, and_true, Int.reduceAdd, Int.reducePow, Int.reduceMul, Int.reduceMod, Nat.reduceEqDiff, Bool.or_false, Bool.false_or, Bool.true_or, Bool.or_true, Bool.and_true, Bool.true_and, Bool.and_false, Bool.false_and, Bool.not_true, Bool.not_false, decide_true, decide_false, forall_const, false_and, and_false, and_self, false_implies, implies_true, true_implies, reduceCtorEq, Bool.true_eq_false, Bool.false_eq_true, not_true_eq_false, not_false_eq_true, if_true, if_false, J.K03.c3, J.K03.c2, J.K03.c5, J.K03.d1, J.K03.d2, J.K03.d4, J.K03.d5, J.K03.dt2, J.K03.e_self, J.K03.h_f, J.K03.h_l, J.K03.h_s, J.K03.h_r, J.K03.h_t, J.K03.h_g, J.K03.h_o, J.K03.h_n])
def Inv (ns : List Int) (l : List Int) (ρ : Env) : Prop := ∃ (n : Nat) (t : T) (a2 a3 a4 a5 a6 a7 a8 a9 a10 a11 a12 : Option T), WellAt n t ∧ n + 100 * l.length ≤ 1000 ∧ ρ = [some (.v (.scr ns)), some t, a2, a3, a4, a5, a6, a7, a8, a9, a10, a11, a12]
theorem law_true : ∀ ns : List Int, ns.length ≤ 63 → ∃ us, callJ tb fx 1000000 kt 24 46 [.v (.scr ns)] = .ok (.v (.bl true), us) := by
  intro ns _
  suffices h : wp2 (callJ tb fx 1000000 kt 24 46 [.v (.scr ns)]) fun t us => t = .v (.bl true) by
    obtain ⟨t, us, e, rfl⟩ := h
    exact ⟨us, e⟩
  refine wp_callJ Has.h ?_
  simp only [f46_law]
  walk_at "j"
  refine sp_well fun t hw => ?_
  walk_at "j"
  rw [ints08]
  refine wp_forL D.int (Inv ns) ?_ ?_ _ _ ⟨0, t, none, none, none, none, none, none, none, none, none, none, none, hw, by decide, rfl⟩
  · rintro a l ρ ⟨n, t, a2, a3, a4, a5, a6, a7, a8, a9, a10, a11, a12, hw, hn, rfl⟩
    rw [List.length_cons] at hn
    walk_at "j"
    refine sp_draw hw (by omega) (by omega) (by omega) fun x t h0 h1 hw => ?_
    walk_at "j"
    refine sp_draw hw (by omega) (by omega) (by omega) fun y t hy0 hy1 hw => ?_
    walk_at "j"
    refine wp2_eq (net_eq (by omega) (by omega)) ?_
    walk_at "j"
    rw [ints19]
    refine sp_mixed (xs := [(1 : Int), 2, 3, 4, 5, 6, 7, 8]) hw (by simp; omega) (by simp) fun ys t hp hw => ?_
    have hlen : ys.length = 8 := hp.length_eq
    have hgood : Good ys := fun x m => by
      have := hp.mem_iff.mp m
      simp at this
      omega
    have hnd : ys.Nodup := hp.nodup_iff.mpr (by decide)
    walk_at "j"
    refine sp_draw hw (by simp; omega) (by omega) (by omega) fun m t hm0 hm1 hw => ?_
    walk_at "j"
    refine sp_draw hw (by simp; omega) (by omega) (by omega) fun s t hs0 hs1 hw => ?_
    walk_at "j"
    obtain ⟨m, rfl⟩ : ∃ k : Nat, m = k := ⟨m.toNat, by omega⟩
    obtain ⟨s, rfl⟩ : ∃ k : Nat, s = k := ⟨s.toNat, by omega⟩
    have hb1 : 1 ≤ 1 + x ∧ 1 + x ≤ 9 := by omega
    have hb2 : -9 ≤ -1 - y ∧ -1 - y ≤ -1 := by omega
    have e8 : ys.length ≤ 60 := by omega
    rcases Decidable.em (s < m) with hsm | hsm
    case' inl =>
      rw [ct (s := s) rfl, cd (s := 8 - m + s) (by omega), ct (s := m - s) (by omega), cd (s := 8 - s) (by omega), ← List.map_append, ← List.map_append, tv]
      refine ⟨fun _ => ⟨by simp; omega, fun _ => ⟨by simp; omega, ?_⟩, fun h => absurd h (by omega)⟩, fun h => absurd h (by omega)⟩
      refine wp2_eq (left_eq (m := m) (rs := [.first s]) hb1 hb2 hgood e8 (by simp [Ru.ok]; omega) (by omega) (by simp)) ?_
      rw [first_form hlen (by omega) hsm]
      walk_at "j"
      refine ⟨fun _ => ?_, fun h => absurd h (by omega)⟩
      refine wp2_eq (left_eq (m := m) (rs := [.last s]) hb1 hb2 hgood e8 (by simp [Ru.ok]; omega) (by omega) (by simp)) ?_
      rw [last_form hlen (by omega) hsm]
      walk_at "j"
      refine ⟨fun _ => ?_, fun h => absurd h (by omega)⟩
    case' inr =>
      refine ⟨fun h => absurd h (by omega), fun _ => ⟨fun h => absurd h (by omega), fun _ => ?_⟩⟩
      rw [ct (s := m) rfl, cd (i := 8 - (m : Int)) (s := 8 - m) (by omega)]
      refine wp2_eq (left_eq (m := m) (rs := [.first s]) hb1 hb2 hgood e8 (by simp [Ru.ok]; omega) (by omega) (by simp)) ?_
      walk_at "j"
      refine ⟨fun h => absurd h (by omega), fun _ => ?_⟩
      refine wp2_eq (fall_eq (m := m) (s := s) (by omega)) ?_
      walk_at "j"
      refine wp2_eq (left_eq (m := m) (rs := [.last s]) hb1 hb2 hgood e8 (by simp [Ru.ok]; omega) (by omega) (by simp)) ?_
      walk_at "j"
      refine ⟨fun h => absurd h (by omega), fun _ => ?_⟩
      refine wp2_eq (late_eq (m := m) (s := s) (by omega)) ?_
      walk_at "j"
    all_goals
      rcases Decidable.em (0 < m) with hmp | hmp
      case' inl =>
        refine ⟨fun _ => ?_, fun h => absurd h (by omega)⟩
        refine wp2_eq (scores_sc (high := false) rfl (by omega)) ?_
        walk_at "j"
        have hm6 : m ≤ 6 := by omega
        refine wp2_eq (left_sc (hi := false) (g := false) (h := false) rfl hb1 hb2 hgood e8 hm6) ?_
        walk_at "j"
        refine wp2_eq (left_sc (hi := false) (g := true) (h := true) rfl hb1 hb2 hgood e8 hm6) ?_
        walk_at "j"
        refine wp2_eq (scores_sc (high := true) rfl (by omega)) ?_
        walk_at "j"
        refine wp2_eq (left_sc (hi := true) (g := true) (h := false) rfl hb1 hb2 hgood e8 hm6) ?_
        walk_at "j"
        refine wp2_eq (left_sc (hi := true) (g := false) (h := true) rfl hb1 hb2 hgood e8 hm6) ?_
        walk_at "j"
      case' inr =>
        refine ⟨fun h => absurd h (by omega), fun _ => ?_⟩
      all_goals
        clear hp
        obtain ⟨y0, y1, y2, y3, y4, y5, y6, y7, rfl⟩ := eight hlen
        have hg6 := six hgood
        have g0 := hgood y0 (by simp)
        have g1 := hgood y1 (by simp)
        have g2 := hgood y2 (by simp)
        have g5 := hgood y5 (by simp)
        obtain ⟨n01, n02, n05, n12, n15, n25⟩ := unl hnd
        clear hgood hnd
        have q1 := left_eq (k := 15) (m := 5) (rs := [.same false]) hb1 hb2 hg6 (by simp) (by simp [Ru.ok]) (by decide) (by simp)
        rw [show [y0, y1, y2, y0, y1, y5].length = 6 from rfl, old5 n01 n02 n05 n12 n15 n25] at q1
        have q2 := left_eq (k := 15) (m := 4) (rs := [.same false]) hb1 hb2 hg6 (by simp) (by simp [Ru.ok]) (by decide) (by simp)
        rw [show [y0, y1, y2, y0, y1, y5].length = 6 from rfl, old4 n01 n02 n05 n12 n15 n25] at q2
        have q3 := left_eq (k := 15) (m := 5) (rs := [.same true]) hb1 hb2 hg6 (by simp) (by simp [Ru.ok]) (by decide) (by simp)
        rw [show [y0, y1, y2, y0, y1, y5].length = 6 from rfl, new5 n01 n02 n05 n12 n15 n25] at q3
        have q4 := left_eq (k := 15) (m := 3) (rs := [.same true, .row y2]) hb1 hb2 hg6 (by simp) (by simp [Ru.ok]; omega) (by decide) (by simp)
        rw [show [y0, y1, y2, y0, y1, y5].length = 6 from rfl, new3 n01 n02 n05 n12 n15 n25] at q4
        have q5 := left_eq (k := 15) (m := 4) (rs := [.row 99, .row y1]) hb1 hb2 hg6 (by simp) (by simp [Ru.ok]; omega) (by decide) (by simp)
        rw [show [y0, y1, y2, y0, y1, y5].length = 6 from rfl, row4 n01 n02 n05 n12 n15 n25 (by omega) (by omega) (by omega) (by omega)] at q5
        rw [show cutD (List.map D.int [y0, y1, y2, y3, y4, y5, y6, y7]) none (some 3) ++ cutD (List.map D.int [y0, y1, y2, y3, y4, y5, y6, y7]) none (some 2) ++ cutD (List.map D.int [y0, y1, y2, y3, y4, y5, y6, y7]) (some 5) (some 6) = List.map D.int [y0, y1, y2, y0, y1, y5] from rfl,
          show cutD (List.map D.int [y0, y1, y2, y3, y4, y5, y6, y7]) none (some 3) ++ cutD (List.map D.int [y0, y1, y2, y3, y4, y5, y6, y7]) none (some 2) = List.map D.int [y0, y1, y2, y0, y1] from rfl]
        refine ⟨by simp [c2, c3, c5], by simp [c2, c3, c5], ?_⟩
        refine wp2_eq q1 ?_
        walk_at "j"
        refine ⟨shp_ints (l := [y1, y2, y0, y1, y5]), ?_⟩
        refine wp2_eq q2 ?_
        walk_at "j"
        refine ⟨shp_ints (l := [y2, y0, y1, y5]), ?_⟩
        refine wp2_eq q3 ?_
        walk_at "j"
        refine ⟨shp_ints (l := [y0, y1, y2, y0, y5]), ?_⟩
        refine wp2_eq q4 ?_
        walk_at "j"
        refine ⟨shp_ints (l := [y0, y1, y5]), ?_⟩
        refine wp2_eq q5 ?_
        walk_at "j"
        refine ⟨.int y5, rfl, ?_⟩
        walk_at "j"
        refine ⟨shp_ints (l := [y0, y2, y0, y5]), ?_⟩
        exact ⟨_, _, _, _, _, _, _, _, _, _, _, _, _, hw, by simp only [List.length_cons, List.length_nil]; omega, rfl⟩
  · rintro ρ ⟨n, t, a2, a3, a4, a5, a6, a7, a8, a9, a10, a11, a12, hw, hn, rfl⟩
    walk_at "j"
end J.K03

set_option Elab.async false
set_option linter.all false
set_option maxRecDepth 100000
set_option maxHeartbeats 4000000
namespace J.K03
open PySem PySem.Spec PyProof.Rows L2 J
set_option pp.maxSteps 2 in
theorem all_mk {l : PySem.W.OpenLaw} {w : World} {K : PySem.W.Frag} {h : Heap} {mg : Str → Option Value} {fa f0 f1 f2 f3 f4 f5 f6 f7 f8 f9 f10 f11 f12 f13 t13 f14 f15 f16 f17 f18 f19 f20 f21 f22 f23 f24 f25 f26 f27 f28 f29 f30 f31 f32 f33 f34 f35 f36 t36 f37 f38 f39 c_Policy c_Net c_Layer c_Head g_WORDS : Addr} (X : K.In h) (G : h.Ns mainGlobals mg) (hfa : mg "law" = some (.ref fa))
    {od0 an0 od1 an1 od2 an2 od3 an3 od4 an4 od5 an5 od6 an6 od7 an7 od8 an8 od9 an9 od10 an10 od11 an11 od12 an12 od13 an13 od14 an14 od15 an15 od16 an16 od17 an17 od18 an18 od19 an19 od20 an20 od21 an21 od22 an22 od23 an23 od24 an24 od25 an25 od26 an26 od27 an27 od28 an28 od29 an29 od30 an30 od31 an31 od32 an32 od33 an33 od34 an34 od35 an35 od36 an36 od37 an37 od38 an38 od39 an39 : Option Addr} {sl0 sl1 sl2 sl3 sl4 sl5 sl6 sl7 sl8 sl9 sl10 sl11 sl12 sl13 sl14 sl15 sl16 sl17 sl18 sl19 sl20 sl21 sl22 sl23 sl24 sl25 sl26 sl27 sl28 sl29 sl30 sl31 sl32 sl33 sl34 sl35 sl36 sl37 sl38 sl39 : Array (Option Value)} {oc0 kV0 dc0 pm0 cd0 ct0 oc1 kV1 dc1 pm1 cd1 ct1 oc2 kV2 dc2 pm2 cd2 ct2 oc3 kV3 dc3 pm3 cd3 ct3 oc4 kV4 dc4 pm4 cd4 ct4 oc5 kV5 dc5 pm5 cd5 ct5 oc6 kV6 dc6 pm6 cd6 ct6 oc7 kV7 dc7 pm7 cd7 ct7 oc8 kV8 dc8 pm8 cd8 ct8 oc9 kV9 dc9 pm9 cd9 ct9 oc10 kV10 dc10 pm10 cd10 ct10 oc11 kV11 dc11 pm11 cd11 ct11 oc12 kV12 dc12 pm12 cd12 ct12 oc13 kV13 dc13 pm13 cd13 ct13 oc14 kV14 dc14 pm14 cd14 ct14 oc15 kV15 dc15 pm15 cd15 ct15 oc16 kV16 dc16 pm16 cd16 ct16 oc17 kV17 dc17 pm17 cd17 ct17 oc18 kV18 dc18 pm18 cd18 ct18 oc19 kV19 dc19 pm19 cd19 ct19 oc20 kV20 dc20 pm20 cd20 ct20 oc21 kV21 dc21 pm21 cd21 ct21 oc22 kV22 dc22 pm22 cd22 ct22 oc23 kV23 dc23 pm23 cd23 ct23 oc24 kV24 dc24 pm24 cd24 ct24 oc25 kV25 dc25 pm25 cd25 ct25 oc26 kV26 dc26 pm26 cd26 ct26 oc27 kV27 dc27 pm27 cd27 ct27 oc28 kV28 dc28 pm28 cd28 ct28 oc29 kV29 dc29 pm29 cd29 ct29 oc30 kV30 dc30 pm30 cd30 ct30 oc31 kV31 dc31 pm31 cd31 ct31 oc32 kV32 dc32 pm32 cd32 ct32 oc33 kV33 dc33 pm33 cd33 ct33 oc34 kV34 dc34 pm34 cd34 ct34 oc35 kV35 dc35 pm35 cd35 ct35 oc36 kV36 dc36 pm36 cd36 ct36 oc37 kV37 dc37 pm37 cd37 ct37 oc38 kV38 dc38 pm38 cd38 ct38 oc39 kV39 dc39 pm39 cd39 ct39 : Value}
    {tk_LEAST tk_ROW tk_SAME tk_OLD tk_LAST tk_FIRST tk_MOST_NUMBER_heads tk_MOST_KEPT tk_GREATEST tk_MOST_ROWS tk_MOST_NUMBER_policies tk_MOST_LENGTH_policies tk_NEW tq_WORDS_0 tq_WORDS_1 tq_WORDS_2 tq_WORDS_3 tq_WORDS_4 tq_WORDS_5 tk_MOST_RULES tk_MOST_LAYERS_policies tk_MOST_LAYERS_nets tk_MOST_LENGTH_heads tk_LEAST_LETTERS tk_MOST_LETTERS tk_MOST_CAP tk_MOST_SHIFT tk_MOST_HEADS : Tok}
    {to13 : Value} {td13 : Option Addr} {tn13 : Nat} {ts13 : Array (Option Value)} {tz13_0 : Tok}
    {to36 : Value} {td36 : Option Addr} {tn36 : Nat} {ts36 : Array (Option Value)}
    {gd_WORDS : Option Addr} {gn_WORDS : Nat} {gs_WORDS : Array (Option Value)}
    (a0 : PySem.W.nsIn K mainGlobals "score_of" = some (some (.ref f0)))
    (l0 : K.lookup f0 = some ⟨oc0, od0, .func (PySem.W.fnOf "score_of" "score_of" (defArgs s_score_of) (defBody s_score_of) (defScope s_score_of) .none kV0 dc0 pm0 an0 cd0 ct0), sl0⟩)
    (h0 : PySem.W.codeIn K cd0 "score_of" = true)
    (k0 : PySem.W.keepIn K (.ref f0) = true)
    (a1 : PySem.W.nsIn K mainGlobals "scored_spot" = some (some (.ref f1)))
    (l1 : K.lookup f1 = some ⟨oc1, od1, .func (PySem.W.fnOf "scored_spot" "scored_spot" (defArgs s_scored_spot) (defBody s_scored_spot) (defScope s_scored_spot) .none kV1 dc1 pm1 an1 cd1 ct1), sl1⟩)
    (h1 : PySem.W.codeIn K cd1 "scored_spot" = true)
    (k1 : PySem.W.keepIn K (.ref f1) = true)
    (a2 : PySem.W.nsIn K mainGlobals "same_spots" = some (some (.ref f2)))
    (l2 : K.lookup f2 = some ⟨oc2, od2, .func (PySem.W.fnOf "same_spots" "same_spots" (defArgs s_same_spots) (defBody s_same_spots) (defScope s_same_spots) .none kV2 dc2 pm2 an2 cd2 ct2), sl2⟩)
    (h2 : PySem.W.codeIn K cd2 "same_spots" = true)
    (k2 : PySem.W.keepIn K (.ref f2) = true)
    (a3 : PySem.W.nsIn K mainGlobals "spot_by" = some (some (.ref f3)))
    (l3 : K.lookup f3 = some ⟨oc3, od3, .func (PySem.W.fnOf "spot_by" "spot_by" (defArgs s_spot_by) (defBody s_spot_by) (defScope s_spot_by) .none kV3 dc3 pm3 an3 cd3 ct3), sl3⟩)
    (h3 : PySem.W.codeIn K cd3 "spot_by" = true)
    (k3 : PySem.W.keepIn K (.ref f3) = true)
    (a4 : PySem.W.nsIn K mainGlobals "dropped" = some (some (.ref f4)))
    (l4 : K.lookup f4 = some ⟨oc4, od4, .func (PySem.W.fnOf "dropped" "dropped" (defArgs s_dropped) (defBody s_dropped) (defScope s_dropped) .none kV4 dc4 pm4 an4 cd4 ct4), sl4⟩)
    (h4 : PySem.W.codeIn K cd4 "dropped" = true)
    (k4 : PySem.W.keepIn K (.ref f4) = true)
    (a5 : PySem.W.nsIn K mainGlobals "kept_by" = some (some (.ref f5)))
    (l5 : K.lookup f5 = some ⟨oc5, od5, .func (PySem.W.fnOf "kept_by" "kept_by" (defArgs s_kept_by) (defBody s_kept_by) (defScope s_kept_by) .none kV5 dc5 pm5 an5 cd5 ct5), sl5⟩)
    (h5 : PySem.W.codeIn K cd5 "kept_by" = true)
    (k5 : PySem.W.keepIn K (.ref f5) = true)
    (a6 : PySem.W.nsIn K mainGlobals "fixed" = some (some (.ref f6)))
    (l6 : K.lookup f6 = some ⟨oc6, od6, .func (PySem.W.fnOf "fixed" "fixed" (defArgs s_fixed) (defBody s_fixed) (defScope s_fixed) .none kV6 dc6 pm6 an6 cd6 ct6), sl6⟩)
    (h6 : PySem.W.codeIn K cd6 "fixed" = true)
    (k6 : PySem.W.keepIn K (.ref f6) = true)
    (a7 : PySem.W.nsIn K mainGlobals "is_integer" = some (some (.ref f7)))
    (l7 : K.lookup f7 = some ⟨oc7, od7, .func (PySem.W.fnOf "is_integer" "is_integer" (defArgs s_is_integer) (defBody s_is_integer) (defScope s_is_integer) .none kV7 dc7 pm7 an7 cd7 ct7), sl7⟩)
    (h7 : PySem.W.codeIn K cd7 "is_integer" = true)
    (k7 : PySem.W.keepIn K (.ref f7) = true)
    (a8 : PySem.W.nsIn K mainGlobals "is_listed" = some (some (.ref f8)))
    (l8 : K.lookup f8 = some ⟨oc8, od8, .func (PySem.W.fnOf "is_listed" "is_listed" (defArgs s_is_listed) (defBody s_is_listed) (defScope s_is_listed) .none kV8 dc8 pm8 an8 cd8 ct8), sl8⟩)
    (h8 : PySem.W.codeIn K cd8 "is_listed" = true)
    (k8 : PySem.W.keepIn K (.ref f8) = true)
    (a9 : PySem.W.nsIn K mainGlobals "is_row" = some (some (.ref f9)))
    (l9 : K.lookup f9 = some ⟨oc9, od9, .func (PySem.W.fnOf "is_row" "is_row" (defArgs s_is_row) (defBody s_is_row) (defScope s_is_row) .none kV9 dc9 pm9 an9 cd9 ct9), sl9⟩)
    (h9 : PySem.W.codeIn K cd9 "is_row" = true)
    (k9 : PySem.W.keepIn K (.ref f9) = true)
    (a10 : PySem.W.nsIn K mainGlobals "is_bounded" = some (some (.ref f10)))
    (l10 : K.lookup f10 = some ⟨oc10, od10, .func (PySem.W.fnOf "is_bounded" "is_bounded" (defArgs s_is_bounded) (defBody s_is_bounded) (defScope s_is_bounded) .none kV10 dc10 pm10 an10 cd10 ct10), sl10⟩)
    (h10 : PySem.W.codeIn K cd10 "is_bounded" = true)
    (k10 : PySem.W.keepIn K (.ref f10) = true)
    (a11 : PySem.W.nsIn K mainGlobals "is_list" = some (some (.ref f11)))
    (l11 : K.lookup f11 = some ⟨oc11, od11, .func (PySem.W.fnOf "is_list" "is_list" (defArgs s_is_list) (defBody s_is_list) (defScope s_is_list) .none kV11 dc11 pm11 an11 cd11 ct11), sl11⟩)
    (h11 : PySem.W.codeIn K cd11 "is_list" = true)
    (k11 : PySem.W.keepIn K (.ref f11) = true)
    (a12 : PySem.W.nsIn K mainGlobals "is_shelf" = some (some (.ref f12)))
    (l12 : K.lookup f12 = some ⟨oc12, od12, .func (PySem.W.fnOf "is_shelf" "is_shelf" (defArgs s_is_shelf) (defBody s_is_shelf) (defScope s_is_shelf) .none kV12 dc12 pm12 an12 cd12 ct12), sl12⟩)
    (h12 : PySem.W.codeIn K cd12 "is_shelf" = true)
    (k12 : PySem.W.keepIn K (.ref f12) = true)
    (a13 : PySem.W.nsIn K mainGlobals "need_shelf" = some (some (.ref f13)))
    (l13 : K.lookup f13 = some ⟨oc13, od13, .func (PySem.W.fnOf "need_shelf" "need_shelf" (defArgs s_need_shelf) (defBody s_need_shelf) (defScope s_need_shelf) (.ref t13) kV13 dc13 pm13 an13 cd13 ct13), sl13⟩)
    (h13 : PySem.W.codeIn K cd13 "need_shelf" = true)
    (k13 : PySem.W.keepIn K (.ref f13) = true)
    (t13l : K.lookup t13 = some ⟨to13, td13, .seq #[.str "shelf" tz13_0] tn13, ts13⟩)
    (a14 : PySem.W.nsIn K mainGlobals "need_policy" = some (some (.ref f14)))
    (l14 : K.lookup f14 = some ⟨oc14, od14, .func (PySem.W.fnOf "need_policy" "need_policy" (defArgs s_need_policy) (defBody s_need_policy) (defScope s_need_policy) .none kV14 dc14 pm14 an14 cd14 ct14), sl14⟩)
    (h14 : PySem.W.codeIn K cd14 "need_policy" = true)
    (k14 : PySem.W.keepIn K (.ref f14) = true)
    (a15 : PySem.W.nsIn K mainGlobals "need_net" = some (some (.ref f15)))
    (l15 : K.lookup f15 = some ⟨oc15, od15, .func (PySem.W.fnOf "need_net" "need_net" (defArgs s_need_net) (defBody s_need_net) (defScope s_need_net) .none kV15 dc15 pm15 an15 cd15 ct15), sl15⟩)
    (h15 : PySem.W.codeIn K cd15 "need_net" = true)
    (k15 : PySem.W.keepIn K (.ref f15) = true)
    (a16 : PySem.W.nsIn K mainGlobals "shelf_by" = some (some (.ref f16)))
    (l16 : K.lookup f16 = some ⟨oc16, od16, .func (PySem.W.fnOf "shelf_by" "shelf_by" (defArgs s_shelf_by) (defBody s_shelf_by) (defScope s_shelf_by) .none kV16 dc16 pm16 an16 cd16 ct16), sl16⟩)
    (h16 : PySem.W.codeIn K cd16 "shelf_by" = true)
    (k16 : PySem.W.keepIn K (.ref f16) = true)
    (a17 : PySem.W.nsIn K mainGlobals "is_within" = some (some (.ref f17)))
    (l17 : K.lookup f17 = some ⟨oc17, od17, .func (PySem.W.fnOf "is_within" "is_within" (defArgs s_is_within) (defBody s_is_within) (defScope s_is_within) .none kV17 dc17 pm17 an17 cd17 ct17), sl17⟩)
    (h17 : PySem.W.codeIn K cd17 "is_within" = true)
    (k17 : PySem.W.keepIn K (.ref f17) = true)
    (a18 : PySem.W.nsIn K mainGlobals "are_numbers" = some (some (.ref f18)))
    (l18 : K.lookup f18 = some ⟨oc18, od18, .func (PySem.W.fnOf "are_numbers" "are_numbers" (defArgs s_are_numbers) (defBody s_are_numbers) (defScope s_are_numbers) .none kV18 dc18 pm18 an18 cd18 ct18), sl18⟩)
    (h18 : PySem.W.codeIn K cd18 "are_numbers" = true)
    (k18 : PySem.W.keepIn K (.ref f18) = true)
    (a19 : PySem.W.nsIn K mainGlobals "is_one_of" = some (some (.ref f19)))
    (l19 : K.lookup f19 = some ⟨oc19, od19, .func (PySem.W.fnOf "is_one_of" "is_one_of" (defArgs s_is_one_of) (defBody s_is_one_of) (defScope s_is_one_of) .none kV19 dc19 pm19 an19 cd19 ct19), sl19⟩)
    (h19 : PySem.W.codeIn K cd19 "is_one_of" = true)
    (k19 : PySem.W.keepIn K (.ref f19) = true)
    (a20 : PySem.W.nsIn K mainGlobals "is_rule" = some (some (.ref f20)))
    (l20 : K.lookup f20 = some ⟨oc20, od20, .func (PySem.W.fnOf "is_rule" "is_rule" (defArgs s_is_rule) (defBody s_is_rule) (defScope s_is_rule) .none kV20 dc20 pm20 an20 cd20 ct20), sl20⟩)
    (h20 : PySem.W.codeIn K cd20 "is_rule" = true)
    (k20 : PySem.W.keepIn K (.ref f20) = true)
    (a21 : PySem.W.nsIn K mainGlobals "is_layer_rule" = some (some (.ref f21)))
    (l21 : K.lookup f21 = some ⟨oc21, od21, .func (PySem.W.fnOf "is_layer_rule" "is_layer_rule" (defArgs s_is_layer_rule) (defBody s_is_layer_rule) (defScope s_is_layer_rule) .none kV21 dc21 pm21 an21 cd21 ct21), sl21⟩)
    (h21 : PySem.W.codeIn K cd21 "is_layer_rule" = true)
    (k21 : PySem.W.keepIn K (.ref f21) = true)
    (a22 : PySem.W.findIn K (.ref c_Policy) "__init__" = some (some (.ref f22)))
    (i22 : PySem.W.isFn K (.ref f22) = true)
    (l22 : K.lookup f22 = some ⟨oc22, od22, .func (PySem.W.fnOf "__init__" "Policy.__init__" (defArgs s_Policy_init) (defBody s_Policy_init) (defScope s_Policy_init) .none kV22 dc22 pm22 an22 cd22 ct22), sl22⟩)
    (h22 : PySem.W.codeIn K cd22 "Policy.__init__" = true)
    (k22 : PySem.W.keepIn K (.ref f22) = true)
    (a23 : PySem.W.nsIn K mainGlobals "_law_left" = some (some (.ref f23)))
    (l23 : K.lookup f23 = some ⟨oc23, od23, .func (PySem.W.fnOf "_law_left" "_law_left" (defArgs s__law_left) (defBody s__law_left) (defScope s__law_left) .none kV23 dc23 pm23 an23 cd23 ct23), sl23⟩)
    (h23 : PySem.W.codeIn K cd23 "_law_left" = true)
    (k23 : PySem.W.keepIn K (.ref f23) = true)
    (a24 : PySem.W.nsIn K mainGlobals "_law_by_scores" = some (some (.ref f24)))
    (l24 : K.lookup f24 = some ⟨oc24, od24, .func (PySem.W.fnOf "_law_by_scores" "_law_by_scores" (defArgs s__law_by_scores) (defBody s__law_by_scores) (defScope s__law_by_scores) .none kV24 dc24 pm24 an24 cd24 ct24), sl24⟩)
    (h24 : PySem.W.codeIn K cd24 "_law_by_scores" = true)
    (k24 : PySem.W.keepIn K (.ref f24) = true)
    (a25 : PySem.W.nsIn K mainGlobals "_law_fall_late" = some (some (.ref f25)))
    (l25 : K.lookup f25 = some ⟨oc25, od25, .func (PySem.W.fnOf "_law_fall_late" "_law_fall_late" (defArgs s__law_fall_late) (defBody s__law_fall_late) (defScope s__law_fall_late) .none kV25 dc25 pm25 an25 cd25 ct25), sl25⟩)
    (h25 : PySem.W.codeIn K cd25 "_law_fall_late" = true)
    (k25 : PySem.W.keepIn K (.ref f25) = true)
    (a26 : PySem.W.nsIn K mainGlobals "_law_fall" = some (some (.ref f26)))
    (l26 : K.lookup f26 = some ⟨oc26, od26, .func (PySem.W.fnOf "_law_fall" "_law_fall" (defArgs s__law_fall) (defBody s__law_fall) (defScope s__law_fall) .none kV26 dc26 pm26 an26 cd26 ct26), sl26⟩)
    (h26 : PySem.W.codeIn K cd26 "_law_fall" = true)
    (k26 : PySem.W.keepIn K (.ref f26) = true)
    (a27 : PySem.W.nsIn K mainGlobals "_law_draw" = some (some (.ref f27)))
    (l27 : K.lookup f27 = some ⟨oc27, od27, .func (PySem.W.fnOf "_law_draw" "_law_draw" (defArgs s__law_draw) (defBody s__law_draw) (defScope s__law_draw) .none kV27 dc27 pm27 an27 cd27 ct27), sl27⟩)
    (h27 : PySem.W.codeIn K cd27 "_law_draw" = true)
    (k27 : PySem.W.keepIn K (.ref f27) = true)
    (a28 : PySem.W.nsIn K mainGlobals "_law_mixed" = some (some (.ref f28)))
    (l28 : K.lookup f28 = some ⟨oc28, od28, .func (PySem.W.fnOf "_law_mixed" "_law_mixed" (defArgs s__law_mixed) (defBody s__law_mixed) (defScope s__law_mixed) .none kV28 dc28 pm28 an28 cd28 ct28), sl28⟩)
    (h28 : PySem.W.codeIn K cd28 "_law_mixed" = true)
    (k28 : PySem.W.keepIn K (.ref f28) = true)
    (a29 : PySem.W.nsIn K mainGlobals "are_rows" = some (some (.ref f29)))
    (l29 : K.lookup f29 = some ⟨oc29, od29, .func (PySem.W.fnOf "are_rows" "are_rows" (defArgs s_are_rows) (defBody s_are_rows) (defScope s_are_rows) .none kV29 dc29 pm29 an29 cd29 ct29), sl29⟩)
    (h29 : PySem.W.codeIn K cd29 "are_rows" = true)
    (k29 : PySem.W.keepIn K (.ref f29) = true)
    (a30 : PySem.W.nsIn K mainGlobals "are_layers" = some (some (.ref f30)))
    (l30 : K.lookup f30 = some ⟨oc30, od30, .func (PySem.W.fnOf "are_layers" "are_layers" (defArgs s_are_layers) (defBody s_are_layers) (defScope s_are_layers) .none kV30 dc30 pm30 an30 cd30 ct30), sl30⟩)
    (h30 : PySem.W.codeIn K cd30 "are_layers" = true)
    (k30 : PySem.W.keepIn K (.ref f30) = true)
    (a31 : PySem.W.nsIn K mainGlobals "are_letter_rows" = some (some (.ref f31)))
    (l31 : K.lookup f31 = some ⟨oc31, od31, .func (PySem.W.fnOf "are_letter_rows" "are_letter_rows" (defArgs s_are_letter_rows) (defBody s_are_letter_rows) (defScope s_are_letter_rows) .none kV31 dc31 pm31 an31 cd31 ct31), sl31⟩)
    (h31 : PySem.W.codeIn K cd31 "are_letter_rows" = true)
    (k31 : PySem.W.keepIn K (.ref f31) = true)
    (a32 : PySem.W.findIn K (.ref c_Net) "__init__" = some (some (.ref f32)))
    (i32 : PySem.W.isFn K (.ref f32) = true)
    (l32 : K.lookup f32 = some ⟨oc32, od32, .func (PySem.W.fnOf "__init__" "Net.__init__" (defArgs s_Net_init) (defBody s_Net_init) (defScope s_Net_init) .none kV32 dc32 pm32 an32 cd32 ct32), sl32⟩)
    (h32 : PySem.W.codeIn K cd32 "Net.__init__" = true)
    (k32 : PySem.W.keepIn K (.ref f32) = true)
    (a33 : PySem.W.nsIn K mainGlobals "is_table" = some (some (.ref f33)))
    (l33 : K.lookup f33 = some ⟨oc33, od33, .func (PySem.W.fnOf "is_table" "is_table" (defArgs s_is_table) (defBody s_is_table) (defScope s_is_table) .none kV33 dc33 pm33 an33 cd33 ct33), sl33⟩)
    (h33 : PySem.W.codeIn K cd33 "is_table" = true)
    (k33 : PySem.W.keepIn K (.ref f33) = true)
    (a34 : PySem.W.nsIn K mainGlobals "are_heads" = some (some (.ref f34)))
    (l34 : K.lookup f34 = some ⟨oc34, od34, .func (PySem.W.fnOf "are_heads" "are_heads" (defArgs s_are_heads) (defBody s_are_heads) (defScope s_are_heads) .none kV34 dc34 pm34 an34 cd34 ct34), sl34⟩)
    (h34 : PySem.W.codeIn K cd34 "are_heads" = true)
    (k34 : PySem.W.keepIn K (.ref f34) = true)
    (a35 : PySem.W.findIn K (.ref c_Layer) "__init__" = some (some (.ref f35)))
    (i35 : PySem.W.isFn K (.ref f35) = true)
    (l35 : K.lookup f35 = some ⟨oc35, od35, .func (PySem.W.fnOf "__init__" "Layer.__init__" (defArgs s_Layer_init) (defBody s_Layer_init) (defScope s_Layer_init) .none kV35 dc35 pm35 an35 cd35 ct35), sl35⟩)
    (h35 : PySem.W.codeIn K cd35 "Layer.__init__" = true)
    (k35 : PySem.W.keepIn K (.ref f35) = true)
    (a36 : PySem.W.findIn K (.ref c_Head) "__init__" = some (some (.ref f36)))
    (i36 : PySem.W.isFn K (.ref f36) = true)
    (l36 : K.lookup f36 = some ⟨oc36, od36, .func (PySem.W.fnOf "__init__" "Head.__init__" (defArgs s_Head_init) (defBody s_Head_init) (defScope s_Head_init) (.ref t36) kV36 dc36 pm36 an36 cd36 ct36), sl36⟩)
    (h36 : PySem.W.codeIn K cd36 "Head.__init__" = true)
    (k36 : PySem.W.keepIn K (.ref f36) = true)
    (t36l : K.lookup t36 = some ⟨to36, td36, .seq #[.bool true, .bool false] tn36, ts36⟩)
    (a37 : PySem.W.nsIn K mainGlobals "_law_net_of" = some (some (.ref f37)))
    (l37 : K.lookup f37 = some ⟨oc37, od37, .func (PySem.W.fnOf "_law_net_of" "_law_net_of" (defArgs s__law_net_of) (defBody s__law_net_of) (defScope s__law_net_of) .none kV37 dc37 pm37 an37 cd37 ct37), sl37⟩)
    (h37 : PySem.W.codeIn K cd37 "_law_net_of" = true)
    (k37 : PySem.W.keepIn K (.ref f37) = true)
    (a38 : PySem.W.nsIn K mainGlobals "_law_well" = some (some (.ref f38)))
    (l38 : K.lookup f38 = some ⟨oc38, od38, .func (PySem.W.fnOf "_law_well" "_law_well" (defArgs s__law_well) (defBody s__law_well) (defScope s__law_well) .none kV38 dc38 pm38 an38 cd38 ct38), sl38⟩)
    (h38 : PySem.W.codeIn K cd38 "_law_well" = true)
    (k38 : PySem.W.keepIn K (.ref f38) = true)
    (a39 : PySem.W.nsIn K mainGlobals "law" = some (some (.ref f39)))
    (l39 : K.lookup f39 = some ⟨oc39, od39, .func (PySem.W.fnOf "law" "law" (defArgs s_law) (defBody s_law) (defScope s_law) .none kV39 dc39 pm39 an39 cd39 ct39), sl39⟩)
    (h39 : PySem.W.codeIn K cd39 "law" = true)
    (k39 : PySem.W.keepIn K (.ref f39) = true)
    (cm_Policy : PySem.W.nsIn K mainGlobals "Policy" = some (some (.ref c_Policy)))
    (pg_Policy : PySem.W.plainGet K c_Policy Str.empty = true)
    (hd_Policy : PySem.W.hasDictIn K c_Policy = true)
    (po_Policy : PySem.W.plainOver K c_Policy = true)
    (sa_Policy : PySem.W.findIn K (.ref c_Policy) "__setattr__" = some (some (.builtin "object.__setattr__")))
    (mk_Policy : PySem.W.makesIn K c_Policy = true)
    (kc_Policy : PySem.W.keepIn K (.ref c_Policy) = true)
    (qa_Policy : PySem.W.findIn K (.ref c_Policy) "__class__" = some (some (.builtin "object.__class__")))
    (qm_Policy : PySem.W.mroIn K c_Policy (.type "object") = some true)
    (n_Policy_layers : PySem.W.findIn K (.ref c_Policy) "layers" = some none)
    (cm_Net : PySem.W.nsIn K mainGlobals "Net" = some (some (.ref c_Net)))
    (pg_Net : PySem.W.plainGet K c_Net Str.empty = true)
    (hd_Net : PySem.W.hasDictIn K c_Net = true)
    (po_Net : PySem.W.plainOver K c_Net = true)
    (sa_Net : PySem.W.findIn K (.ref c_Net) "__setattr__" = some (some (.builtin "object.__setattr__")))
    (mk_Net : PySem.W.makesIn K c_Net = true)
    (kc_Net : PySem.W.keepIn K (.ref c_Net) = true)
    (qa_Net : PySem.W.findIn K (.ref c_Net) "__class__" = some (some (.builtin "object.__class__")))
    (qm_Net : PySem.W.mroIn K c_Net (.type "object") = some true)
    (n_Net_rows : PySem.W.findIn K (.ref c_Net) "rows" = some none)
    (n_Net_layers : PySem.W.findIn K (.ref c_Net) "layers" = some none)
    (n_Net_worths : PySem.W.findIn K (.ref c_Net) "worths" = some none)
    (n_Net_letters : PySem.W.findIn K (.ref c_Net) "letters" = some none)
    (n_Net_lengths : PySem.W.findIn K (.ref c_Net) "lengths" = some none)
    (cm_Layer : PySem.W.nsIn K mainGlobals "Layer" = some (some (.ref c_Layer)))
    (pg_Layer : PySem.W.plainGet K c_Layer Str.empty = true)
    (hd_Layer : PySem.W.hasDictIn K c_Layer = true)
    (po_Layer : PySem.W.plainOver K c_Layer = true)
    (sa_Layer : PySem.W.findIn K (.ref c_Layer) "__setattr__" = some (some (.builtin "object.__setattr__")))
    (mk_Layer : PySem.W.makesIn K c_Layer = true)
    (kc_Layer : PySem.W.keepIn K (.ref c_Layer) = true)
    (qa_Layer : PySem.W.findIn K (.ref c_Layer) "__class__" = some (some (.builtin "object.__class__")))
    (qm_Layer : PySem.W.mroIn K c_Layer (.type "object") = some true)
    (n_Layer_heads : PySem.W.findIn K (.ref c_Layer) "heads" = some none)
    (n_Layer_table : PySem.W.findIn K (.ref c_Layer) "table" = some none)
    (n_Layer_shift : PySem.W.findIn K (.ref c_Layer) "shift" = some none)
    (n_Layer_cap : PySem.W.findIn K (.ref c_Layer) "cap" = some none)
    (n_Layer_length : PySem.W.findIn K (.ref c_Layer) "length" = some none)
    (cm_Head : PySem.W.nsIn K mainGlobals "Head" = some (some (.ref c_Head)))
    (pg_Head : PySem.W.plainGet K c_Head Str.empty = true)
    (hd_Head : PySem.W.hasDictIn K c_Head = true)
    (po_Head : PySem.W.plainOver K c_Head = true)
    (sa_Head : PySem.W.findIn K (.ref c_Head) "__setattr__" = some (some (.builtin "object.__setattr__")))
    (mk_Head : PySem.W.makesIn K c_Head = true)
    (kc_Head : PySem.W.keepIn K (.ref c_Head) = true)
    (qa_Head : PySem.W.findIn K (.ref c_Head) "__class__" = some (some (.builtin "object.__class__")))
    (qm_Head : PySem.W.mroIn K c_Head (.type "object") = some true)
    (n_Head_scores : PySem.W.findIn K (.ref c_Head) "scores" = some none)
    (n_Head_none : PySem.W.findIn K (.ref c_Head) "none" = some none)
    (n_Head_late : PySem.W.findIn K (.ref c_Head) "late" = some none)
    (n_Head_strict : PySem.W.findIn K (.ref c_Head) "strict" = some none)
    (n_Head_length : PySem.W.findIn K (.ref c_Head) "length" = some none)
    (qn : PySem.W.specialIn K (.builtin "object.__class__") "__get__" = some (some (.builtin "getset_descriptor.__get__")))
    (qt : PySem.W.takesIn K (.builtin "object.__class__") = some true)
    (g_LEAST : PySem.W.nsIn K mainGlobals "LEAST" = some (some (.str "least" tk_LEAST)))
    (g_ROW : PySem.W.nsIn K mainGlobals "ROW" = some (some (.str "row" tk_ROW)))
    (g_SAME : PySem.W.nsIn K mainGlobals "SAME" = some (some (.str "same" tk_SAME)))
    (g_OLD : PySem.W.nsIn K mainGlobals "OLD" = some (some (.str "old" tk_OLD)))
    (g_LAST : PySem.W.nsIn K mainGlobals "LAST" = some (some (.str "last" tk_LAST)))
    (g_FIRST : PySem.W.nsIn K mainGlobals "FIRST" = some (some (.str "first" tk_FIRST)))
    (g_MOST_NUMBER_heads : PySem.W.nsIn K mainGlobals "MOST_NUMBER_heads" = some (some (.int 999 tk_MOST_NUMBER_heads)))
    (g_MOST_KEPT : PySem.W.nsIn K mainGlobals "MOST_KEPT" = some (some (.int 60 tk_MOST_KEPT)))
    (g_GREATEST : PySem.W.nsIn K mainGlobals "GREATEST" = some (some (.str "greatest" tk_GREATEST)))
    (g_MOST_ROWS : PySem.W.nsIn K mainGlobals "MOST_ROWS" = some (some (.int 6 tk_MOST_ROWS)))
    (g_MOST_NUMBER_policies : PySem.W.nsIn K mainGlobals "MOST_NUMBER_policies" = some (some (.int 999 tk_MOST_NUMBER_policies)))
    (g_MOST_LENGTH_policies : PySem.W.nsIn K mainGlobals "MOST_LENGTH_policies" = some (some (.int 4 tk_MOST_LENGTH_policies)))
    (g_NEW : PySem.W.nsIn K mainGlobals "NEW" = some (some (.str "new" tk_NEW)))
    (gm_WORDS : PySem.W.nsIn K mainGlobals "WORDS" = some (some (.ref g_WORDS)))
    (gl_WORDS : K.lookup g_WORDS = some ⟨.type "tuple", gd_WORDS, .seq #[.str "first" tq_WORDS_0, .str "last" tq_WORDS_1, .str "same" tq_WORDS_2, .str "least" tq_WORDS_3, .str "greatest" tq_WORDS_4, .str "row" tq_WORDS_5] gn_WORDS, gs_WORDS⟩)
    (g_MOST_RULES : PySem.W.nsIn K mainGlobals "MOST_RULES" = some (some (.int 8 tk_MOST_RULES)))
    (g_MOST_LAYERS_policies : PySem.W.nsIn K mainGlobals "MOST_LAYERS_policies" = some (some (.int 3 tk_MOST_LAYERS_policies)))
    (g_MOST_LAYERS_nets : PySem.W.nsIn K mainGlobals "MOST_LAYERS_nets" = some (some (.int 3 tk_MOST_LAYERS_nets)))
    (g_MOST_LENGTH_heads : PySem.W.nsIn K mainGlobals "MOST_LENGTH_heads" = some (some (.int 4 tk_MOST_LENGTH_heads)))
    (g_LEAST_LETTERS : PySem.W.nsIn K mainGlobals "LEAST_LETTERS" = some (some (.int 2 tk_LEAST_LETTERS)))
    (g_MOST_LETTERS : PySem.W.nsIn K mainGlobals "MOST_LETTERS" = some (some (.int 4 tk_MOST_LETTERS)))
    (g_MOST_CAP : PySem.W.nsIn K mainGlobals "MOST_CAP" = some (some (.int 99 tk_MOST_CAP)))
    (g_MOST_SHIFT : PySem.W.nsIn K mainGlobals "MOST_SHIFT" = some (some (.int 9999 tk_MOST_SHIFT)))
    (g_MOST_HEADS : PySem.W.nsIn K mainGlobals "MOST_HEADS" = some (some (.int 2 tk_MOST_HEADS)))
    (b_range : PySem.W.nsIn K mainGlobals "range" = some none)
    (b_tuple : PySem.W.nsIn K mainGlobals "tuple" = some none)
    (b_zip : PySem.W.nsIn K mainGlobals "zip" = some none)
    (b_len : PySem.W.nsIn K mainGlobals "len" = some none)
    (b_min : PySem.W.nsIn K mainGlobals "min" = some none)
    (b_max : PySem.W.nsIn K mainGlobals "max" = some none)
    (b_sum : PySem.W.nsIn K mainGlobals "sum" = some none)
    (b_enumerate : PySem.W.nsIn K mainGlobals "enumerate" = some none)
    (b_list : PySem.W.nsIn K mainGlobals "list" = some none)
    (b_isinstance : PySem.W.nsIn K mainGlobals "isinstance" = some none)
    (b_all : PySem.W.nsIn K mainGlobals "all" = some none)
    (b_bool : PySem.W.nsIn K mainGlobals "bool" = some none)
    (b_int : PySem.W.nsIn K mainGlobals "int" = some none)
    (b_str : PySem.W.nsIn K mainGlobals "str" = some none)
    (b_abs : PySem.W.nsIn K mainGlobals "abs" = some none)
    (b_divmod : PySem.W.nsIn K mainGlobals "divmod" = some none)
    : ∃ fd : FuncData, (∀ (s : Shared) (v : Value), BindsTo s fd ⟨[v], []⟩ [("script", v)]) ∧ ∀ base : Heap, K.In base → base.Ns mainGlobals mg → FnOk l.prog w K mg base CX0 (2 * 24) fa fd ["script"] (spLawN K 63) := by
  have e := hfa.symm.trans (PySem.W.mg_of X G a39)
  cases e
  let ca : Nat → Addr := caOf [(0, c_Policy), (1, c_Net), (2, c_Layer), (3, c_Head)]
  have F0 : FunD K "score_of" "score_of" (defArgs s_score_of) (defBody s_score_of) (defScope s_score_of) [] [] f0 (PySem.W.fnOf "score_of" "score_of" (defArgs s_score_of) (defBody s_score_of) (defScope s_score_of) .none kV0 dc0 pm0 an0 cd0 ct0) := ⟨⟨_, _, _, _, _, _, _, _, _, _, rfl, l0, h0, .inl ⟨rfl, rfl⟩, .inl rfl⟩, k0⟩
  have F1 : FunD K "scored_spot" "scored_spot" (defArgs s_scored_spot) (defBody s_scored_spot) (defScope s_scored_spot) [] [] f1 (PySem.W.fnOf "scored_spot" "scored_spot" (defArgs s_scored_spot) (defBody s_scored_spot) (defScope s_scored_spot) .none kV1 dc1 pm1 an1 cd1 ct1) := ⟨⟨_, _, _, _, _, _, _, _, _, _, rfl, l1, h1, .inl ⟨rfl, rfl⟩, .inl rfl⟩, k1⟩
  have F2 : FunD K "same_spots" "same_spots" (defArgs s_same_spots) (defBody s_same_spots) (defScope s_same_spots) [] [] f2 (PySem.W.fnOf "same_spots" "same_spots" (defArgs s_same_spots) (defBody s_same_spots) (defScope s_same_spots) .none kV2 dc2 pm2 an2 cd2 ct2) := ⟨⟨_, _, _, _, _, _, _, _, _, _, rfl, l2, h2, .inl ⟨rfl, rfl⟩, .inl rfl⟩, k2⟩
  have F3 : FunD K "spot_by" "spot_by" (defArgs s_spot_by) (defBody s_spot_by) (defScope s_spot_by) [] [] f3 (PySem.W.fnOf "spot_by" "spot_by" (defArgs s_spot_by) (defBody s_spot_by) (defScope s_spot_by) .none kV3 dc3 pm3 an3 cd3 ct3) := ⟨⟨_, _, _, _, _, _, _, _, _, _, rfl, l3, h3, .inl ⟨rfl, rfl⟩, .inl rfl⟩, k3⟩
  have F4 : FunD K "dropped" "dropped" (defArgs s_dropped) (defBody s_dropped) (defScope s_dropped) [] [] f4 (PySem.W.fnOf "dropped" "dropped" (defArgs s_dropped) (defBody s_dropped) (defScope s_dropped) .none kV4 dc4 pm4 an4 cd4 ct4) := ⟨⟨_, _, _, _, _, _, _, _, _, _, rfl, l4, h4, .inl ⟨rfl, rfl⟩, .inl rfl⟩, k4⟩
  have F5 : FunD K "kept_by" "kept_by" (defArgs s_kept_by) (defBody s_kept_by) (defScope s_kept_by) [] [] f5 (PySem.W.fnOf "kept_by" "kept_by" (defArgs s_kept_by) (defBody s_kept_by) (defScope s_kept_by) .none kV5 dc5 pm5 an5 cd5 ct5) := ⟨⟨_, _, _, _, _, _, _, _, _, _, rfl, l5, h5, .inl ⟨rfl, rfl⟩, .inl rfl⟩, k5⟩
  have F6 : FunD K "fixed" "fixed" (defArgs s_fixed) (defBody s_fixed) (defScope s_fixed) [] [] f6 (PySem.W.fnOf "fixed" "fixed" (defArgs s_fixed) (defBody s_fixed) (defScope s_fixed) .none kV6 dc6 pm6 an6 cd6 ct6) := ⟨⟨_, _, _, _, _, _, _, _, _, _, rfl, l6, h6, .inl ⟨rfl, rfl⟩, .inl rfl⟩, k6⟩
  have F7 : FunD K "is_integer" "is_integer" (defArgs s_is_integer) (defBody s_is_integer) (defScope s_is_integer) [] [] f7 (PySem.W.fnOf "is_integer" "is_integer" (defArgs s_is_integer) (defBody s_is_integer) (defScope s_is_integer) .none kV7 dc7 pm7 an7 cd7 ct7) := ⟨⟨_, _, _, _, _, _, _, _, _, _, rfl, l7, h7, .inl ⟨rfl, rfl⟩, .inl rfl⟩, k7⟩
  have F8 : FunD K "is_listed" "is_listed" (defArgs s_is_listed) (defBody s_is_listed) (defScope s_is_listed) [] [] f8 (PySem.W.fnOf "is_listed" "is_listed" (defArgs s_is_listed) (defBody s_is_listed) (defScope s_is_listed) .none kV8 dc8 pm8 an8 cd8 ct8) := ⟨⟨_, _, _, _, _, _, _, _, _, _, rfl, l8, h8, .inl ⟨rfl, rfl⟩, .inl rfl⟩, k8⟩
  have F9 : FunD K "is_row" "is_row" (defArgs s_is_row) (defBody s_is_row) (defScope s_is_row) [] [] f9 (PySem.W.fnOf "is_row" "is_row" (defArgs s_is_row) (defBody s_is_row) (defScope s_is_row) .none kV9 dc9 pm9 an9 cd9 ct9) := ⟨⟨_, _, _, _, _, _, _, _, _, _, rfl, l9, h9, .inl ⟨rfl, rfl⟩, .inl rfl⟩, k9⟩
  have F10 : FunD K "is_bounded" "is_bounded" (defArgs s_is_bounded) (defBody s_is_bounded) (defScope s_is_bounded) [] [] f10 (PySem.W.fnOf "is_bounded" "is_bounded" (defArgs s_is_bounded) (defBody s_is_bounded) (defScope s_is_bounded) .none kV10 dc10 pm10 an10 cd10 ct10) := ⟨⟨_, _, _, _, _, _, _, _, _, _, rfl, l10, h10, .inl ⟨rfl, rfl⟩, .inl rfl⟩, k10⟩
  have F11 : FunD K "is_list" "is_list" (defArgs s_is_list) (defBody s_is_list) (defScope s_is_list) [] [] f11 (PySem.W.fnOf "is_list" "is_list" (defArgs s_is_list) (defBody s_is_list) (defScope s_is_list) .none kV11 dc11 pm11 an11 cd11 ct11) := ⟨⟨_, _, _, _, _, _, _, _, _, _, rfl, l11, h11, .inl ⟨rfl, rfl⟩, .inl rfl⟩, k11⟩
  have F12 : FunD K "is_shelf" "is_shelf" (defArgs s_is_shelf) (defBody s_is_shelf) (defScope s_is_shelf) [] [] f12 (PySem.W.fnOf "is_shelf" "is_shelf" (defArgs s_is_shelf) (defBody s_is_shelf) (defScope s_is_shelf) .none kV12 dc12 pm12 an12 cd12 ct12) := ⟨⟨_, _, _, _, _, _, _, _, _, _, rfl, l12, h12, .inl ⟨rfl, rfl⟩, .inl rfl⟩, k12⟩
  have F13 : FunD K "need_shelf" "need_shelf" (defArgs s_need_shelf) (defBody s_need_shelf) (defScope s_need_shelf) [.str "shelf"] [] f13 (PySem.W.fnOf "need_shelf" "need_shelf" (defArgs s_need_shelf) (defBody s_need_shelf) (defScope s_need_shelf) (.ref t13) kV13 dc13 pm13 an13 cd13 ct13) := ⟨⟨_, _, _, _, _, _, _, _, _, _, rfl, l13, h13, .inr ⟨by simp, t13, _, [.str "shelf" tz13_0], _, rfl, t13l, rfl, (.cons ⟨_, rfl⟩ .nil)⟩, .inl rfl⟩, k13⟩
  have F14 : FunD K "need_policy" "need_policy" (defArgs s_need_policy) (defBody s_need_policy) (defScope s_need_policy) [] [] f14 (PySem.W.fnOf "need_policy" "need_policy" (defArgs s_need_policy) (defBody s_need_policy) (defScope s_need_policy) .none kV14 dc14 pm14 an14 cd14 ct14) := ⟨⟨_, _, _, _, _, _, _, _, _, _, rfl, l14, h14, .inl ⟨rfl, rfl⟩, .inl rfl⟩, k14⟩
  have F15 : FunD K "need_net" "need_net" (defArgs s_need_net) (defBody s_need_net) (defScope s_need_net) [] [] f15 (PySem.W.fnOf "need_net" "need_net" (defArgs s_need_net) (defBody s_need_net) (defScope s_need_net) .none kV15 dc15 pm15 an15 cd15 ct15) := ⟨⟨_, _, _, _, _, _, _, _, _, _, rfl, l15, h15, .inl ⟨rfl, rfl⟩, .inl rfl⟩, k15⟩
  have F16 : FunD K "shelf_by" "shelf_by" (defArgs s_shelf_by) (defBody s_shelf_by) (defScope s_shelf_by) [] [] f16 (PySem.W.fnOf "shelf_by" "shelf_by" (defArgs s_shelf_by) (defBody s_shelf_by) (defScope s_shelf_by) .none kV16 dc16 pm16 an16 cd16 ct16) := ⟨⟨_, _, _, _, _, _, _, _, _, _, rfl, l16, h16, .inl ⟨rfl, rfl⟩, .inl rfl⟩, k16⟩
  have F17 : FunD K "is_within" "is_within" (defArgs s_is_within) (defBody s_is_within) (defScope s_is_within) [] [] f17 (PySem.W.fnOf "is_within" "is_within" (defArgs s_is_within) (defBody s_is_within) (defScope s_is_within) .none kV17 dc17 pm17 an17 cd17 ct17) := ⟨⟨_, _, _, _, _, _, _, _, _, _, rfl, l17, h17, .inl ⟨rfl, rfl⟩, .inl rfl⟩, k17⟩
  have F18 : FunD K "are_numbers" "are_numbers" (defArgs s_are_numbers) (defBody s_are_numbers) (defScope s_are_numbers) [] [] f18 (PySem.W.fnOf "are_numbers" "are_numbers" (defArgs s_are_numbers) (defBody s_are_numbers) (defScope s_are_numbers) .none kV18 dc18 pm18 an18 cd18 ct18) := ⟨⟨_, _, _, _, _, _, _, _, _, _, rfl, l18, h18, .inl ⟨rfl, rfl⟩, .inl rfl⟩, k18⟩
  have F19 : FunD K "is_one_of" "is_one_of" (defArgs s_is_one_of) (defBody s_is_one_of) (defScope s_is_one_of) [] [] f19 (PySem.W.fnOf "is_one_of" "is_one_of" (defArgs s_is_one_of) (defBody s_is_one_of) (defScope s_is_one_of) .none kV19 dc19 pm19 an19 cd19 ct19) := ⟨⟨_, _, _, _, _, _, _, _, _, _, rfl, l19, h19, .inl ⟨rfl, rfl⟩, .inl rfl⟩, k19⟩
  have F20 : FunD K "is_rule" "is_rule" (defArgs s_is_rule) (defBody s_is_rule) (defScope s_is_rule) [] [] f20 (PySem.W.fnOf "is_rule" "is_rule" (defArgs s_is_rule) (defBody s_is_rule) (defScope s_is_rule) .none kV20 dc20 pm20 an20 cd20 ct20) := ⟨⟨_, _, _, _, _, _, _, _, _, _, rfl, l20, h20, .inl ⟨rfl, rfl⟩, .inl rfl⟩, k20⟩
  have F21 : FunD K "is_layer_rule" "is_layer_rule" (defArgs s_is_layer_rule) (defBody s_is_layer_rule) (defScope s_is_layer_rule) [] [] f21 (PySem.W.fnOf "is_layer_rule" "is_layer_rule" (defArgs s_is_layer_rule) (defBody s_is_layer_rule) (defScope s_is_layer_rule) .none kV21 dc21 pm21 an21 cd21 ct21) := ⟨⟨_, _, _, _, _, _, _, _, _, _, rfl, l21, h21, .inl ⟨rfl, rfl⟩, .inl rfl⟩, k21⟩
  have F22 : FunD K "__init__" "Policy.__init__" (defArgs s_Policy_init) (defBody s_Policy_init) (defScope s_Policy_init) [] [] f22 (PySem.W.fnOf "__init__" "Policy.__init__" (defArgs s_Policy_init) (defBody s_Policy_init) (defScope s_Policy_init) .none kV22 dc22 pm22 an22 cd22 ct22) := ⟨⟨_, _, _, _, _, _, _, _, _, _, rfl, l22, h22, .inl ⟨rfl, rfl⟩, .inl rfl⟩, k22⟩
  have F23 : FunD K "_law_left" "_law_left" (defArgs s__law_left) (defBody s__law_left) (defScope s__law_left) [] [] f23 (PySem.W.fnOf "_law_left" "_law_left" (defArgs s__law_left) (defBody s__law_left) (defScope s__law_left) .none kV23 dc23 pm23 an23 cd23 ct23) := ⟨⟨_, _, _, _, _, _, _, _, _, _, rfl, l23, h23, .inl ⟨rfl, rfl⟩, .inl rfl⟩, k23⟩
  have F24 : FunD K "_law_by_scores" "_law_by_scores" (defArgs s__law_by_scores) (defBody s__law_by_scores) (defScope s__law_by_scores) [] [] f24 (PySem.W.fnOf "_law_by_scores" "_law_by_scores" (defArgs s__law_by_scores) (defBody s__law_by_scores) (defScope s__law_by_scores) .none kV24 dc24 pm24 an24 cd24 ct24) := ⟨⟨_, _, _, _, _, _, _, _, _, _, rfl, l24, h24, .inl ⟨rfl, rfl⟩, .inl rfl⟩, k24⟩
  have F25 : FunD K "_law_fall_late" "_law_fall_late" (defArgs s__law_fall_late) (defBody s__law_fall_late) (defScope s__law_fall_late) [] [] f25 (PySem.W.fnOf "_law_fall_late" "_law_fall_late" (defArgs s__law_fall_late) (defBody s__law_fall_late) (defScope s__law_fall_late) .none kV25 dc25 pm25 an25 cd25 ct25) := ⟨⟨_, _, _, _, _, _, _, _, _, _, rfl, l25, h25, .inl ⟨rfl, rfl⟩, .inl rfl⟩, k25⟩
  have F26 : FunD K "_law_fall" "_law_fall" (defArgs s__law_fall) (defBody s__law_fall) (defScope s__law_fall) [] [] f26 (PySem.W.fnOf "_law_fall" "_law_fall" (defArgs s__law_fall) (defBody s__law_fall) (defScope s__law_fall) .none kV26 dc26 pm26 an26 cd26 ct26) := ⟨⟨_, _, _, _, _, _, _, _, _, _, rfl, l26, h26, .inl ⟨rfl, rfl⟩, .inl rfl⟩, k26⟩
  have F27 : FunD K "_law_draw" "_law_draw" (defArgs s__law_draw) (defBody s__law_draw) (defScope s__law_draw) [] [] f27 (PySem.W.fnOf "_law_draw" "_law_draw" (defArgs s__law_draw) (defBody s__law_draw) (defScope s__law_draw) .none kV27 dc27 pm27 an27 cd27 ct27) := ⟨⟨_, _, _, _, _, _, _, _, _, _, rfl, l27, h27, .inl ⟨rfl, rfl⟩, .inl rfl⟩, k27⟩
  have F28 : FunD K "_law_mixed" "_law_mixed" (defArgs s__law_mixed) (defBody s__law_mixed) (defScope s__law_mixed) [] [] f28 (PySem.W.fnOf "_law_mixed" "_law_mixed" (defArgs s__law_mixed) (defBody s__law_mixed) (defScope s__law_mixed) .none kV28 dc28 pm28 an28 cd28 ct28) := ⟨⟨_, _, _, _, _, _, _, _, _, _, rfl, l28, h28, .inl ⟨rfl, rfl⟩, .inl rfl⟩, k28⟩
  have F29 : FunD K "are_rows" "are_rows" (defArgs s_are_rows) (defBody s_are_rows) (defScope s_are_rows) [] [] f29 (PySem.W.fnOf "are_rows" "are_rows" (defArgs s_are_rows) (defBody s_are_rows) (defScope s_are_rows) .none kV29 dc29 pm29 an29 cd29 ct29) := ⟨⟨_, _, _, _, _, _, _, _, _, _, rfl, l29, h29, .inl ⟨rfl, rfl⟩, .inl rfl⟩, k29⟩
  have F30 : FunD K "are_layers" "are_layers" (defArgs s_are_layers) (defBody s_are_layers) (defScope s_are_layers) [] [] f30 (PySem.W.fnOf "are_layers" "are_layers" (defArgs s_are_layers) (defBody s_are_layers) (defScope s_are_layers) .none kV30 dc30 pm30 an30 cd30 ct30) := ⟨⟨_, _, _, _, _, _, _, _, _, _, rfl, l30, h30, .inl ⟨rfl, rfl⟩, .inl rfl⟩, k30⟩
  have F31 : FunD K "are_letter_rows" "are_letter_rows" (defArgs s_are_letter_rows) (defBody s_are_letter_rows) (defScope s_are_letter_rows) [] [] f31 (PySem.W.fnOf "are_letter_rows" "are_letter_rows" (defArgs s_are_letter_rows) (defBody s_are_letter_rows) (defScope s_are_letter_rows) .none kV31 dc31 pm31 an31 cd31 ct31) := ⟨⟨_, _, _, _, _, _, _, _, _, _, rfl, l31, h31, .inl ⟨rfl, rfl⟩, .inl rfl⟩, k31⟩
  have F32 : FunD K "__init__" "Net.__init__" (defArgs s_Net_init) (defBody s_Net_init) (defScope s_Net_init) [] [] f32 (PySem.W.fnOf "__init__" "Net.__init__" (defArgs s_Net_init) (defBody s_Net_init) (defScope s_Net_init) .none kV32 dc32 pm32 an32 cd32 ct32) := ⟨⟨_, _, _, _, _, _, _, _, _, _, rfl, l32, h32, .inl ⟨rfl, rfl⟩, .inl rfl⟩, k32⟩
  have F33 : FunD K "is_table" "is_table" (defArgs s_is_table) (defBody s_is_table) (defScope s_is_table) [] [] f33 (PySem.W.fnOf "is_table" "is_table" (defArgs s_is_table) (defBody s_is_table) (defScope s_is_table) .none kV33 dc33 pm33 an33 cd33 ct33) := ⟨⟨_, _, _, _, _, _, _, _, _, _, rfl, l33, h33, .inl ⟨rfl, rfl⟩, .inl rfl⟩, k33⟩
  have F34 : FunD K "are_heads" "are_heads" (defArgs s_are_heads) (defBody s_are_heads) (defScope s_are_heads) [] [] f34 (PySem.W.fnOf "are_heads" "are_heads" (defArgs s_are_heads) (defBody s_are_heads) (defScope s_are_heads) .none kV34 dc34 pm34 an34 cd34 ct34) := ⟨⟨_, _, _, _, _, _, _, _, _, _, rfl, l34, h34, .inl ⟨rfl, rfl⟩, .inl rfl⟩, k34⟩
  have F35 : FunD K "__init__" "Layer.__init__" (defArgs s_Layer_init) (defBody s_Layer_init) (defScope s_Layer_init) [] [] f35 (PySem.W.fnOf "__init__" "Layer.__init__" (defArgs s_Layer_init) (defBody s_Layer_init) (defScope s_Layer_init) .none kV35 dc35 pm35 an35 cd35 ct35) := ⟨⟨_, _, _, _, _, _, _, _, _, _, rfl, l35, h35, .inl ⟨rfl, rfl⟩, .inl rfl⟩, k35⟩
  have F36 : FunD K "__init__" "Head.__init__" (defArgs s_Head_init) (defBody s_Head_init) (defScope s_Head_init) [.bl true, .bl false] [] f36 (PySem.W.fnOf "__init__" "Head.__init__" (defArgs s_Head_init) (defBody s_Head_init) (defScope s_Head_init) (.ref t36) kV36 dc36 pm36 an36 cd36 ct36) := ⟨⟨_, _, _, _, _, _, _, _, _, _, rfl, l36, h36, .inr ⟨by simp, t36, _, [.bool true, .bool false], _, rfl, t36l, rfl, (.cons rfl (.cons rfl .nil))⟩, .inl rfl⟩, k36⟩
  have F37 : FunD K "_law_net_of" "_law_net_of" (defArgs s__law_net_of) (defBody s__law_net_of) (defScope s__law_net_of) [] [] f37 (PySem.W.fnOf "_law_net_of" "_law_net_of" (defArgs s__law_net_of) (defBody s__law_net_of) (defScope s__law_net_of) .none kV37 dc37 pm37 an37 cd37 ct37) := ⟨⟨_, _, _, _, _, _, _, _, _, _, rfl, l37, h37, .inl ⟨rfl, rfl⟩, .inl rfl⟩, k37⟩
  have F38 : FunD K "_law_well" "_law_well" (defArgs s__law_well) (defBody s__law_well) (defScope s__law_well) [] [] f38 (PySem.W.fnOf "_law_well" "_law_well" (defArgs s__law_well) (defBody s__law_well) (defScope s__law_well) .none kV38 dc38 pm38 an38 cd38 ct38) := ⟨⟨_, _, _, _, _, _, _, _, _, _, rfl, l38, h38, .inl ⟨rfl, rfl⟩, .inl rfl⟩, k38⟩
  have F39 : FunD K "law" "law" (defArgs s_law) (defBody s_law) (defScope s_law) [] [] fa (PySem.W.fnOf "law" "law" (defArgs s_law) (defBody s_law) (defScope s_law) .none kV39 dc39 pm39 an39 cd39 ct39) := ⟨⟨_, _, _, _, _, _, _, _, _, _, rfl, l39, h39, .inl ⟨rfl, rfl⟩, .inl rfl⟩, k39⟩
  let e0 : Ent := ⟨"score_of", "score_of", s_score_of, f0, (PySem.W.fnOf "score_of" "score_of" (defArgs s_score_of) (defBody s_score_of) (defScope s_score_of) .none kV0 dc0 pm0 an0 cd0 ct0), ["head", "row", "other", "mine", "line", "told", "its"], ["head", "row", "other"], [], 8, f8_score_of⟩
  let e1 : Ent := ⟨"scored_spot", "scored_spot", s_scored_spot, f1, (PySem.W.fnOf "scored_spot" "scored_spot" (defArgs s_scored_spot) (defBody s_scored_spot) (defScope s_scored_spot) .none kV1 dc1 pm1 an1 cd1 ct1), ["head", "rows", "is_least", "scores", "row"], ["head", "rows", "is_least"], [], 7, f7_scored_spot⟩
  let e2 : Ent := ⟨"same_spots", "same_spots", s_same_spots, f2, (PySem.W.fnOf "same_spots" "same_spots" (defArgs s_same_spots) (defBody s_same_spots) (defScope s_same_spots) .none kV2 dc2 pm2 an2 cd2 ct2), ["rows", "at", "row"], ["rows"], [], 9, f9_same_spots⟩
  let e3 : Ent := ⟨"spot_by", "spot_by", s_spot_by, f3, (PySem.W.fnOf "spot_by" "spot_by" (defArgs s_spot_by) (defBody s_spot_by) (defScope s_spot_by) .none kV3 dc3 pm3 an3 cd3 ct3), ["layer", "rule", "rows", "word", "what", "some"], ["layer", "rule", "rows"], [], 6, f6_spot_by⟩
  let e4 : Ent := ⟨"dropped", "dropped", s_dropped, f4, (PySem.W.fnOf "dropped" "dropped" (defArgs s_dropped) (defBody s_dropped) (defScope s_dropped) .none kV4 dc4 pm4 an4 cd4 ct4), ["layer", "told", "rows", "most", "rules", "left", "spots", "spot", "rule"], ["layer", "told", "rows"], [], 5, f5_dropped⟩
  let e5 : Ent := ⟨"kept_by", "kept_by", s_kept_by, f5, (PySem.W.fnOf "kept_by" "kept_by" (defArgs s_kept_by) (defBody s_kept_by) (defScope s_kept_by) .none kV5 dc5 pm5 an5 cd5 ct5), ["net", "policy", "grown", "found", "layer", "told", "rows"], ["net", "policy", "grown"], [], 4, f4_kept_by⟩
  let e6 : Ent := ⟨"fixed", "fixed", s_fixed, f6, (PySem.W.fnOf "fixed" "fixed" (defArgs s_fixed) (defBody s_fixed) (defScope s_fixed) .none kV6 dc6 pm6 an6 cd6 ct6), ["value", "one"], ["value"], [], 11, f11_fixed⟩
  let e7 : Ent := ⟨"is_integer", "is_integer", s_is_integer, f7, (PySem.W.fnOf "is_integer" "is_integer" (defArgs s_is_integer) (defBody s_is_integer) (defScope s_is_integer) .none kV7 dc7 pm7 an7 cd7 ct7), ["value"], ["value"], [], 15, f15_is_integer⟩
  let e8 : Ent := ⟨"is_listed", "is_listed", s_is_listed, f8, (PySem.W.fnOf "is_listed" "is_listed" (defArgs s_is_listed) (defBody s_is_listed) (defScope s_is_listed) .none kV8 dc8 pm8 an8 cd8 ct8), ["value"], ["value"], [], 17, f17_is_listed⟩
  let e9 : Ent := ⟨"is_row", "is_row", s_is_row, f9, (PySem.W.fnOf "is_row" "is_row" (defArgs s_is_row) (defBody s_is_row) (defScope s_is_row) .none kV9 dc9 pm9 an9 cd9 ct9), ["value", "many"], ["value", "many"], [], 16, f16_is_row⟩
  let e10 : Ent := ⟨"is_bounded", "is_bounded", s_is_bounded, f10, (PySem.W.fnOf "is_bounded" "is_bounded" (defArgs s_is_bounded) (defBody s_is_bounded) (defScope s_is_bounded) .none kV10 dc10 pm10 an10 cd10 ct10), ["value", "length", "most", "one"], ["value", "length", "most"], [], 14, f14_is_bounded⟩
  let e11 : Ent := ⟨"is_list", "is_list", s_is_list, f11, (PySem.W.fnOf "is_list" "is_list" (defArgs s_is_list) (defBody s_is_list) (defScope s_is_list) .none kV11 dc11 pm11 an11 cd11 ct11), ["layer", "length", "value", "row"], ["layer", "length", "value"], [], 13, f13_is_list⟩
  let e12 : Ent := ⟨"is_shelf", "is_shelf", s_is_shelf, f12, (PySem.W.fnOf "is_shelf" "is_shelf" (defArgs s_is_shelf) (defBody s_is_shelf) (defScope s_is_shelf) .none kV12 dc12 pm12 an12 cd12 ct12), ["net", "value", "layer", "length", "one"], ["net", "value"], [], 12, f12_is_shelf⟩
  let e13 : Ent := ⟨"need_shelf", "need_shelf", s_need_shelf, f13, (PySem.W.fnOf "need_shelf" "need_shelf" (defArgs s_need_shelf) (defBody s_need_shelf) (defScope s_need_shelf) (.ref t13) kV13 dc13 pm13 an13 cd13 ct13), ["net", "value", "part"], ["net", "value", "part"], [.str "shelf"], 10, f10_need_shelf⟩
  let e14 : Ent := ⟨"need_policy", "need_policy", s_need_policy, f14, (PySem.W.fnOf "need_policy" "need_policy" (defArgs s_need_policy) (defBody s_need_policy) (defScope s_need_policy) .none kV14 dc14 pm14 an14 cd14 ct14), ["net", "value", "most", "rules", "layer", "word", "what"], ["net", "value"], [], 18, f18_need_policy⟩
  let e15 : Ent := ⟨"need_net", "need_net", s_need_net, f15, (PySem.W.fnOf "need_net" "need_net" (defArgs s_need_net) (defBody s_need_net) (defScope s_need_net) .none kV15 dc15 pm15 an15 cd15 ct15), ["value"], ["value"], [], 19, f19_need_net⟩
  let e16 : Ent := ⟨"shelf_by", "shelf_by", s_shelf_by, f16, (PySem.W.fnOf "shelf_by" "shelf_by" (defArgs s_shelf_by) (defBody s_shelf_by) (defScope s_shelf_by) .none kV16 dc16 pm16 an16 cd16 ct16), ["net", "policy", "shelf"], ["net", "policy", "shelf"], [], 3, f3_shelf_by⟩
  let e17 : Ent := ⟨"is_within", "is_within", s_is_within, f17, (PySem.W.fnOf "is_within" "is_within" (defArgs s_is_within) (defBody s_is_within) (defScope s_is_within) .none kV17 dc17 pm17 an17 cd17 ct17), ["value", "least", "most"], ["value", "least", "most"], [], 23, f23_is_within⟩
  let e18 : Ent := ⟨"are_numbers", "are_numbers", s_are_numbers, f18, (PySem.W.fnOf "are_numbers" "are_numbers" (defArgs s_are_numbers) (defBody s_are_numbers) (defScope s_are_numbers) .none kV18 dc18 pm18 an18 cd18 ct18), ["value", "one"], ["value"], [], 24, f24_are_numbers⟩
  let e19 : Ent := ⟨"is_one_of", "is_one_of", s_is_one_of, f19, (PySem.W.fnOf "is_one_of" "is_one_of" (defArgs s_is_one_of) (defBody s_is_one_of) (defScope s_is_one_of) .none kV19 dc19 pm19 an19 cd19 ct19), ["value", "some"], ["value", "some"], [], 41, f41_is_one_of⟩
  let e20 : Ent := ⟨"is_rule", "is_rule", s_is_rule, f20, (PySem.W.fnOf "is_rule" "is_rule" (defArgs s_is_rule) (defBody s_is_rule) (defScope s_is_rule) .none kV20 dc20 pm20 an20 cd20 ct20), ["value"], ["value"], [], 42, f42_is_rule⟩
  let e21 : Ent := ⟨"is_layer_rule", "is_layer_rule", s_is_layer_rule, f21, (PySem.W.fnOf "is_layer_rule" "is_layer_rule" (defArgs s_is_layer_rule) (defBody s_is_layer_rule) (defScope s_is_layer_rule) .none kV21 dc21 pm21 an21 cd21 ct21), ["value", "one"], ["value"], [], 43, f43_is_layer_rule⟩
  let e22 : Ent := ⟨"__init__", "Policy.__init__", s_Policy_init, f22, (PySem.W.fnOf "__init__" "Policy.__init__" (defArgs s_Policy_init) (defBody s_Policy_init) (defScope s_Policy_init) .none kV22 dc22 pm22 an22 cd22 ct22), ["self", "layers", "one"], ["self", "layers"], [], 44, f44_Policy___init__⟩
  let e23 : Ent := ⟨"_law_left", "_law_left", s__law_left, f23, (PySem.W.fnOf "_law_left" "_law_left" (defArgs s__law_left) (defBody s__law_left) (defScope s__law_left) .none kV23 dc23 pm23 an23 cd23 ct23), ["net", "most", "rules", "numbers", "row", "number"], ["net", "most", "rules", "numbers"], [], 45, f45__law_left⟩
  let e24 : Ent := ⟨"_law_by_scores", "_law_by_scores", s__law_by_scores, f24, (PySem.W.fnOf "_law_by_scores" "_law_by_scores" (defArgs s__law_by_scores) (defBody s__law_by_scores) (defScope s__law_by_scores) .none kV24 dc24 pm24 an24 cd24 ct24), ["numbers", "most", "is_least", "left"], ["numbers", "most", "is_least"], [], 26, f26__law_by_scores⟩
  let e25 : Ent := ⟨"_law_fall_late", "_law_fall_late", s__law_fall_late, f25, (PySem.W.fnOf "_law_fall_late" "_law_fall_late" (defArgs s__law_fall_late) (defBody s__law_fall_late) (defScope s__law_fall_late) .none kV25 dc25 pm25 an25 cd25 ct25), ["numbers", "most", "s", "left"], ["numbers", "most", "s"], [], 27, f27__law_fall_late⟩
  let e26 : Ent := ⟨"_law_fall", "_law_fall", s__law_fall, f26, (PySem.W.fnOf "_law_fall" "_law_fall" (defArgs s__law_fall) (defBody s__law_fall) (defScope s__law_fall) .none kV26 dc26 pm26 an26 cd26 ct26), ["numbers", "most", "s", "left"], ["numbers", "most", "s"], [], 28, f28__law_fall⟩
  let e27 : Ent := ⟨"_law_draw", "_law_draw", s__law_draw, f27, (PySem.W.fnOf "_law_draw" "_law_draw" (defArgs s__law_draw) (defBody s__law_draw) (defScope s__law_draw) .none kV27 dc27 pm27 an27 cd27 ct27), ["well", "many", "digit", "at", "ints", "cell", "mixed"], ["well", "many"], [], 29, f29__law_draw⟩
  let e28 : Ent := ⟨"_law_mixed", "_law_mixed", s__law_mixed, f28, (PySem.W.fnOf "_law_mixed" "_law_mixed" (defArgs s__law_mixed) (defBody s__law_mixed) (defScope s__law_mixed) .none kV28 dc28 pm28 an28 cd28 ct28), ["well", "some", "left", "found"], ["well", "some"], [], 30, f30__law_mixed⟩
  let e29 : Ent := ⟨"are_rows", "are_rows", s_are_rows, f29, (PySem.W.fnOf "are_rows" "are_rows" (defArgs s_are_rows) (defBody s_are_rows) (defScope s_are_rows) .none kV29 dc29 pm29 an29 cd29 ct29), ["value", "many", "length", "row"], ["value", "many", "length"], [], 33, f33_are_rows⟩
  let e30 : Ent := ⟨"are_layers", "are_layers", s_are_layers, f30, (PySem.W.fnOf "are_layers" "are_layers" (defArgs s_are_layers) (defBody s_are_layers) (defScope s_are_layers) .none kV30 dc30 pm30 an30 cd30 ct30), ["value", "length", "layer"], ["value", "length"], [], 34, f34_are_layers⟩
  let e31 : Ent := ⟨"are_letter_rows", "are_letter_rows", s_are_letter_rows, f31, (PySem.W.fnOf "are_letter_rows" "are_letter_rows" (defArgs s_are_letter_rows) (defBody s_are_letter_rows) (defScope s_are_letter_rows) .none kV31 dc31 pm31 an31 cd31 ct31), ["value"], ["value"], [], 35, f35_are_letter_rows⟩
  let e32 : Ent := ⟨"__init__", "Net.__init__", s_Net_init, f32, (PySem.W.fnOf "__init__" "Net.__init__" (defArgs s_Net_init) (defBody s_Net_init) (defScope s_Net_init) .none kV32 dc32 pm32 an32 cd32 ct32), ["self", "rows", "layers", "worths", "last", "row", "layer"], ["self", "rows", "layers", "worths"], [], 32, f32_Net___init__⟩
  let e33 : Ent := ⟨"is_table", "is_table", s_is_table, f33, (PySem.W.fnOf "is_table" "is_table" (defArgs s_is_table) (defBody s_is_table) (defScope s_is_table) .none kV33 dc33 pm33 an33 cd33 ct33), ["value", "heads", "wide", "row"], ["value", "heads"], [], 37, f37_is_table⟩
  let e34 : Ent := ⟨"are_heads", "are_heads", s_are_heads, f34, (PySem.W.fnOf "are_heads" "are_heads" (defArgs s_are_heads) (defBody s_are_heads) (defScope s_are_heads) .none kV34 dc34 pm34 an34 cd34 ct34), ["value", "head"], ["value"], [], 38, f38_are_heads⟩
  let e35 : Ent := ⟨"__init__", "Layer.__init__", s_Layer_init, f35, (PySem.W.fnOf "__init__" "Layer.__init__" (defArgs s_Layer_init) (defBody s_Layer_init) (defScope s_Layer_init) .none kV35 dc35 pm35 an35 cd35 ct35), ["self", "heads", "table", "shift", "cap", "row"], ["self", "heads", "table", "shift", "cap"], [], 36, f36_Layer___init__⟩
  let e36 : Ent := ⟨"__init__", "Head.__init__", s_Head_init, f36, (PySem.W.fnOf "__init__" "Head.__init__" (defArgs s_Head_init) (defBody s_Head_init) (defScope s_Head_init) (.ref t36) kV36 dc36 pm36 an36 cd36 ct36), ["self", "scores", "none", "late", "strict", "row"], ["self", "scores", "none", "late", "strict"], [.bl true, .bl false], 39, f39_Head___init__⟩
  let e37 : Ent := ⟨"_law_net_of", "_law_net_of", s__law_net_of, f37, (PySem.W.fnOf "_law_net_of" "_law_net_of" (defArgs s__law_net_of) (defBody s__law_net_of) (defScope s__law_net_of) .none kV37 dc37 pm37 an37 cd37 ct37), ["one", "other", "heads"], ["one", "other"], [], 31, f31__law_net_of⟩
  let e38 : Ent := ⟨"_law_well", "_law_well", s__law_well, f38, (PySem.W.fnOf "_law_well" "_law_well" (defArgs s__law_well) (defBody s__law_well) (defScope s__law_well) .none kV38 dc38 pm38 an38 cd38 ct38), ["script"], ["script"], [], 40, f40__law_well⟩
  let e39 : Ent := ⟨"law", "law", s_law, fa, (PySem.W.fnOf "law" "law" (defArgs s_law) (defBody s_law) (defScope s_law) .none kV39 dc39 pm39 an39 cd39 ct39), ["script", "well", "turn", "one", "other", "net", "numbers", "most", "s", "first", "last", "due", "some"], ["script"], [], 46, f46_law⟩
  let defs : List Ent := [e0, e1, e2, e3, e4, e5, e6, e7, e8, e9, e10, e11, e12, e13, e14, e15, e16, e17, e18, e19, e20, e21, e22, e23, e24, e25, e26, e27, e28, e29, e30, e31, e32, e33, e34, e35, e36, e37, e38, e39]
  have d0 : e0 ∈ defs := List.mem_of_getElem? (i := 0) rfl
  have d1 : e1 ∈ defs := List.mem_of_getElem? (i := 1) rfl
  have d2 : e2 ∈ defs := List.mem_of_getElem? (i := 2) rfl
  have d3 : e3 ∈ defs := List.mem_of_getElem? (i := 3) rfl
  have d4 : e4 ∈ defs := List.mem_of_getElem? (i := 4) rfl
  have d5 : e5 ∈ defs := List.mem_of_getElem? (i := 5) rfl
  have d6 : e6 ∈ defs := List.mem_of_getElem? (i := 6) rfl
  have d7 : e7 ∈ defs := List.mem_of_getElem? (i := 7) rfl
  have d8 : e8 ∈ defs := List.mem_of_getElem? (i := 8) rfl
  have d9 : e9 ∈ defs := List.mem_of_getElem? (i := 9) rfl
  have d10 : e10 ∈ defs := List.mem_of_getElem? (i := 10) rfl
  have d11 : e11 ∈ defs := List.mem_of_getElem? (i := 11) rfl
  have d12 : e12 ∈ defs := List.mem_of_getElem? (i := 12) rfl
  have d13 : e13 ∈ defs := List.mem_of_getElem? (i := 13) rfl
  have d14 : e14 ∈ defs := List.mem_of_getElem? (i := 14) rfl
  have d15 : e15 ∈ defs := List.mem_of_getElem? (i := 15) rfl
  have d16 : e16 ∈ defs := List.mem_of_getElem? (i := 16) rfl
  have d17 : e17 ∈ defs := List.mem_of_getElem? (i := 17) rfl
  have d18 : e18 ∈ defs := List.mem_of_getElem? (i := 18) rfl
  have d19 : e19 ∈ defs := List.mem_of_getElem? (i := 19) rfl
  have d20 : e20 ∈ defs := List.mem_of_getElem? (i := 20) rfl
  have d21 : e21 ∈ defs := List.mem_of_getElem? (i := 21) rfl
  have d22 : e22 ∈ defs := List.mem_of_getElem? (i := 22) rfl
  have d23 : e23 ∈ defs := List.mem_of_getElem? (i := 23) rfl
  have d24 : e24 ∈ defs := List.mem_of_getElem? (i := 24) rfl
  have d25 : e25 ∈ defs := List.mem_of_getElem? (i := 25) rfl
  have d26 : e26 ∈ defs := List.mem_of_getElem? (i := 26) rfl
  have d27 : e27 ∈ defs := List.mem_of_getElem? (i := 27) rfl
  have d28 : e28 ∈ defs := List.mem_of_getElem? (i := 28) rfl
  have d29 : e29 ∈ defs := List.mem_of_getElem? (i := 29) rfl
  have d30 : e30 ∈ defs := List.mem_of_getElem? (i := 30) rfl
  have d31 : e31 ∈ defs := List.mem_of_getElem? (i := 31) rfl
  have d32 : e32 ∈ defs := List.mem_of_getElem? (i := 32) rfl
  have d33 : e33 ∈ defs := List.mem_of_getElem? (i := 33) rfl
  have d34 : e34 ∈ defs := List.mem_of_getElem? (i := 34) rfl
  have d35 : e35 ∈ defs := List.mem_of_getElem? (i := 35) rfl
  have d36 : e36 ∈ defs := List.mem_of_getElem? (i := 36) rfl
  have d37 : e37 ∈ defs := List.mem_of_getElem? (i := 37) rfl
  have d38 : e38 ∈ defs := List.mem_of_getElem? (i := 38) rfl
  have d39 : e39 ∈ defs := List.mem_of_getElem? (i := 39) rfl
  have bf0 : ∃ (dvs : List V) (ds : List Value), Binds K (PySem.W.fnOf "score_of" "score_of" (defArgs s_score_of) (defBody s_score_of) (defScope s_score_of) .none kV0 dc0 pm0 an0 cd0 ct0) ["head", "row", "other"] ds ∧ Vals dvs ds ∧ ∀ F, AtL ⟨K, ca, tabOf tab⟩ F [] dvs := ⟨[], [], F0.bindsN (ps := ["head", "row", "other"]) fun _ _ _ _ _ _ us hl => match us, hl with | [_, _, _], _ => rfl, .nil, fun _ => .nil⟩
  have bf1 : ∃ (dvs : List V) (ds : List Value), Binds K (PySem.W.fnOf "scored_spot" "scored_spot" (defArgs s_scored_spot) (defBody s_scored_spot) (defScope s_scored_spot) .none kV1 dc1 pm1 an1 cd1 ct1) ["head", "rows", "is_least"] ds ∧ Vals dvs ds ∧ ∀ F, AtL ⟨K, ca, tabOf tab⟩ F [] dvs := ⟨[], [], F1.bindsN (ps := ["head", "rows", "is_least"]) fun _ _ _ _ _ _ us hl => match us, hl with | [_, _, _], _ => rfl, .nil, fun _ => .nil⟩
  have bf2 : ∃ (dvs : List V) (ds : List Value), Binds K (PySem.W.fnOf "same_spots" "same_spots" (defArgs s_same_spots) (defBody s_same_spots) (defScope s_same_spots) .none kV2 dc2 pm2 an2 cd2 ct2) ["rows"] ds ∧ Vals dvs ds ∧ ∀ F, AtL ⟨K, ca, tabOf tab⟩ F [] dvs := ⟨[], [], F2.bindsN (ps := ["rows"]) fun _ _ _ _ _ _ us hl => match us, hl with | [_], _ => rfl, .nil, fun _ => .nil⟩
  have bf3 : ∃ (dvs : List V) (ds : List Value), Binds K (PySem.W.fnOf "spot_by" "spot_by" (defArgs s_spot_by) (defBody s_spot_by) (defScope s_spot_by) .none kV3 dc3 pm3 an3 cd3 ct3) ["layer", "rule", "rows"] ds ∧ Vals dvs ds ∧ ∀ F, AtL ⟨K, ca, tabOf tab⟩ F [] dvs := ⟨[], [], F3.bindsN (ps := ["layer", "rule", "rows"]) fun _ _ _ _ _ _ us hl => match us, hl with | [_, _, _], _ => rfl, .nil, fun _ => .nil⟩
  have bf4 : ∃ (dvs : List V) (ds : List Value), Binds K (PySem.W.fnOf "dropped" "dropped" (defArgs s_dropped) (defBody s_dropped) (defScope s_dropped) .none kV4 dc4 pm4 an4 cd4 ct4) ["layer", "told", "rows"] ds ∧ Vals dvs ds ∧ ∀ F, AtL ⟨K, ca, tabOf tab⟩ F [] dvs := ⟨[], [], F4.bindsN (ps := ["layer", "told", "rows"]) fun _ _ _ _ _ _ us hl => match us, hl with | [_, _, _], _ => rfl, .nil, fun _ => .nil⟩
  have bf5 : ∃ (dvs : List V) (ds : List Value), Binds K (PySem.W.fnOf "kept_by" "kept_by" (defArgs s_kept_by) (defBody s_kept_by) (defScope s_kept_by) .none kV5 dc5 pm5 an5 cd5 ct5) ["net", "policy", "grown"] ds ∧ Vals dvs ds ∧ ∀ F, AtL ⟨K, ca, tabOf tab⟩ F [] dvs := ⟨[], [], F5.bindsN (ps := ["net", "policy", "grown"]) fun _ _ _ _ _ _ us hl => match us, hl with | [_, _, _], _ => rfl, .nil, fun _ => .nil⟩
  have bf6 : ∃ (dvs : List V) (ds : List Value), Binds K (PySem.W.fnOf "fixed" "fixed" (defArgs s_fixed) (defBody s_fixed) (defScope s_fixed) .none kV6 dc6 pm6 an6 cd6 ct6) ["value"] ds ∧ Vals dvs ds ∧ ∀ F, AtL ⟨K, ca, tabOf tab⟩ F [] dvs := ⟨[], [], F6.bindsN (ps := ["value"]) fun _ _ _ _ _ _ us hl => match us, hl with | [_], _ => rfl, .nil, fun _ => .nil⟩
  have bf7 : ∃ (dvs : List V) (ds : List Value), Binds K (PySem.W.fnOf "is_integer" "is_integer" (defArgs s_is_integer) (defBody s_is_integer) (defScope s_is_integer) .none kV7 dc7 pm7 an7 cd7 ct7) ["value"] ds ∧ Vals dvs ds ∧ ∀ F, AtL ⟨K, ca, tabOf tab⟩ F [] dvs := ⟨[], [], F7.bindsN (ps := ["value"]) fun _ _ _ _ _ _ us hl => match us, hl with | [_], _ => rfl, .nil, fun _ => .nil⟩
  have bf8 : ∃ (dvs : List V) (ds : List Value), Binds K (PySem.W.fnOf "is_listed" "is_listed" (defArgs s_is_listed) (defBody s_is_listed) (defScope s_is_listed) .none kV8 dc8 pm8 an8 cd8 ct8) ["value"] ds ∧ Vals dvs ds ∧ ∀ F, AtL ⟨K, ca, tabOf tab⟩ F [] dvs := ⟨[], [], F8.bindsN (ps := ["value"]) fun _ _ _ _ _ _ us hl => match us, hl with | [_], _ => rfl, .nil, fun _ => .nil⟩
  have bf9 : ∃ (dvs : List V) (ds : List Value), Binds K (PySem.W.fnOf "is_row" "is_row" (defArgs s_is_row) (defBody s_is_row) (defScope s_is_row) .none kV9 dc9 pm9 an9 cd9 ct9) ["value", "many"] ds ∧ Vals dvs ds ∧ ∀ F, AtL ⟨K, ca, tabOf tab⟩ F [] dvs := ⟨[], [], F9.bindsN (ps := ["value", "many"]) fun _ _ _ _ _ _ us hl => match us, hl with | [_, _], _ => rfl, .nil, fun _ => .nil⟩
  have bf10 : ∃ (dvs : List V) (ds : List Value), Binds K (PySem.W.fnOf "is_bounded" "is_bounded" (defArgs s_is_bounded) (defBody s_is_bounded) (defScope s_is_bounded) .none kV10 dc10 pm10 an10 cd10 ct10) ["value", "length", "most"] ds ∧ Vals dvs ds ∧ ∀ F, AtL ⟨K, ca, tabOf tab⟩ F [] dvs := ⟨[], [], F10.bindsN (ps := ["value", "length", "most"]) fun _ _ _ _ _ _ us hl => match us, hl with | [_, _, _], _ => rfl, .nil, fun _ => .nil⟩
  have bf11 : ∃ (dvs : List V) (ds : List Value), Binds K (PySem.W.fnOf "is_list" "is_list" (defArgs s_is_list) (defBody s_is_list) (defScope s_is_list) .none kV11 dc11 pm11 an11 cd11 ct11) ["layer", "length", "value"] ds ∧ Vals dvs ds ∧ ∀ F, AtL ⟨K, ca, tabOf tab⟩ F [] dvs := ⟨[], [], F11.bindsN (ps := ["layer", "length", "value"]) fun _ _ _ _ _ _ us hl => match us, hl with | [_, _, _], _ => rfl, .nil, fun _ => .nil⟩
  have bf12 : ∃ (dvs : List V) (ds : List Value), Binds K (PySem.W.fnOf "is_shelf" "is_shelf" (defArgs s_is_shelf) (defBody s_is_shelf) (defScope s_is_shelf) .none kV12 dc12 pm12 an12 cd12 ct12) ["net", "value"] ds ∧ Vals dvs ds ∧ ∀ F, AtL ⟨K, ca, tabOf tab⟩ F [] dvs := ⟨[], [], F12.bindsN (ps := ["net", "value"]) fun _ _ _ _ _ _ us hl => match us, hl with | [_, _], _ => rfl, .nil, fun _ => .nil⟩
  have bf13 : ∃ (dvs : List V) (ds : List Value), Binds K (PySem.W.fnOf "need_shelf" "need_shelf" (defArgs s_need_shelf) (defBody s_need_shelf) (defScope s_need_shelf) (.ref t13) kV13 dc13 pm13 an13 cd13 ct13) ["net", "value", "part"] ds ∧ Vals dvs ds ∧ ∀ F, AtL ⟨K, ca, tabOf tab⟩ F [(.str "shelf")] dvs := by
    obtain ⟨ds, v1, v2⟩ := F13.binds1 (ps := ["net", "value", "part"]) 2 0 (by simp) (by simp) (fun _ _ _ _ _ _ _ us its hl hl2 => match us, its, hl, hl2 with | [_, _], [_], _, _ => ⟨_, rfl, rfl⟩)
    exact ⟨_, ds, v2, v1, fun _ => (.cons (.str _) .nil)⟩
  have bf14 : ∃ (dvs : List V) (ds : List Value), Binds K (PySem.W.fnOf "need_policy" "need_policy" (defArgs s_need_policy) (defBody s_need_policy) (defScope s_need_policy) .none kV14 dc14 pm14 an14 cd14 ct14) ["net", "value"] ds ∧ Vals dvs ds ∧ ∀ F, AtL ⟨K, ca, tabOf tab⟩ F [] dvs := ⟨[], [], F14.bindsN (ps := ["net", "value"]) fun _ _ _ _ _ _ us hl => match us, hl with | [_, _], _ => rfl, .nil, fun _ => .nil⟩
  have bf15 : ∃ (dvs : List V) (ds : List Value), Binds K (PySem.W.fnOf "need_net" "need_net" (defArgs s_need_net) (defBody s_need_net) (defScope s_need_net) .none kV15 dc15 pm15 an15 cd15 ct15) ["value"] ds ∧ Vals dvs ds ∧ ∀ F, AtL ⟨K, ca, tabOf tab⟩ F [] dvs := ⟨[], [], F15.bindsN (ps := ["value"]) fun _ _ _ _ _ _ us hl => match us, hl with | [_], _ => rfl, .nil, fun _ => .nil⟩
  have bf16 : ∃ (dvs : List V) (ds : List Value), Binds K (PySem.W.fnOf "shelf_by" "shelf_by" (defArgs s_shelf_by) (defBody s_shelf_by) (defScope s_shelf_by) .none kV16 dc16 pm16 an16 cd16 ct16) ["net", "policy", "shelf"] ds ∧ Vals dvs ds ∧ ∀ F, AtL ⟨K, ca, tabOf tab⟩ F [] dvs := ⟨[], [], F16.bindsN (ps := ["net", "policy", "shelf"]) fun _ _ _ _ _ _ us hl => match us, hl with | [_, _, _], _ => rfl, .nil, fun _ => .nil⟩
  have bf17 : ∃ (dvs : List V) (ds : List Value), Binds K (PySem.W.fnOf "is_within" "is_within" (defArgs s_is_within) (defBody s_is_within) (defScope s_is_within) .none kV17 dc17 pm17 an17 cd17 ct17) ["value", "least", "most"] ds ∧ Vals dvs ds ∧ ∀ F, AtL ⟨K, ca, tabOf tab⟩ F [] dvs := ⟨[], [], F17.bindsN (ps := ["value", "least", "most"]) fun _ _ _ _ _ _ us hl => match us, hl with | [_, _, _], _ => rfl, .nil, fun _ => .nil⟩
  have bf18 : ∃ (dvs : List V) (ds : List Value), Binds K (PySem.W.fnOf "are_numbers" "are_numbers" (defArgs s_are_numbers) (defBody s_are_numbers) (defScope s_are_numbers) .none kV18 dc18 pm18 an18 cd18 ct18) ["value"] ds ∧ Vals dvs ds ∧ ∀ F, AtL ⟨K, ca, tabOf tab⟩ F [] dvs := ⟨[], [], F18.bindsN (ps := ["value"]) fun _ _ _ _ _ _ us hl => match us, hl with | [_], _ => rfl, .nil, fun _ => .nil⟩
  have bf19 : ∃ (dvs : List V) (ds : List Value), Binds K (PySem.W.fnOf "is_one_of" "is_one_of" (defArgs s_is_one_of) (defBody s_is_one_of) (defScope s_is_one_of) .none kV19 dc19 pm19 an19 cd19 ct19) ["value", "some"] ds ∧ Vals dvs ds ∧ ∀ F, AtL ⟨K, ca, tabOf tab⟩ F [] dvs := ⟨[], [], F19.bindsN (ps := ["value", "some"]) fun _ _ _ _ _ _ us hl => match us, hl with | [_, _], _ => rfl, .nil, fun _ => .nil⟩
  have bf20 : ∃ (dvs : List V) (ds : List Value), Binds K (PySem.W.fnOf "is_rule" "is_rule" (defArgs s_is_rule) (defBody s_is_rule) (defScope s_is_rule) .none kV20 dc20 pm20 an20 cd20 ct20) ["value"] ds ∧ Vals dvs ds ∧ ∀ F, AtL ⟨K, ca, tabOf tab⟩ F [] dvs := ⟨[], [], F20.bindsN (ps := ["value"]) fun _ _ _ _ _ _ us hl => match us, hl with | [_], _ => rfl, .nil, fun _ => .nil⟩
  have bf21 : ∃ (dvs : List V) (ds : List Value), Binds K (PySem.W.fnOf "is_layer_rule" "is_layer_rule" (defArgs s_is_layer_rule) (defBody s_is_layer_rule) (defScope s_is_layer_rule) .none kV21 dc21 pm21 an21 cd21 ct21) ["value"] ds ∧ Vals dvs ds ∧ ∀ F, AtL ⟨K, ca, tabOf tab⟩ F [] dvs := ⟨[], [], F21.bindsN (ps := ["value"]) fun _ _ _ _ _ _ us hl => match us, hl with | [_], _ => rfl, .nil, fun _ => .nil⟩
  have bf22 : ∃ (dvs : List V) (ds : List Value), Binds K (PySem.W.fnOf "_law_left" "_law_left" (defArgs s__law_left) (defBody s__law_left) (defScope s__law_left) .none kV23 dc23 pm23 an23 cd23 ct23) ["net", "most", "rules", "numbers"] ds ∧ Vals dvs ds ∧ ∀ F, AtL ⟨K, ca, tabOf tab⟩ F [] dvs := ⟨[], [], F23.bindsN (ps := ["net", "most", "rules", "numbers"]) fun _ _ _ _ _ _ us hl => match us, hl with | [_, _, _, _], _ => rfl, .nil, fun _ => .nil⟩
  have bf23 : ∃ (dvs : List V) (ds : List Value), Binds K (PySem.W.fnOf "_law_by_scores" "_law_by_scores" (defArgs s__law_by_scores) (defBody s__law_by_scores) (defScope s__law_by_scores) .none kV24 dc24 pm24 an24 cd24 ct24) ["numbers", "most", "is_least"] ds ∧ Vals dvs ds ∧ ∀ F, AtL ⟨K, ca, tabOf tab⟩ F [] dvs := ⟨[], [], F24.bindsN (ps := ["numbers", "most", "is_least"]) fun _ _ _ _ _ _ us hl => match us, hl with | [_, _, _], _ => rfl, .nil, fun _ => .nil⟩
  have bf24 : ∃ (dvs : List V) (ds : List Value), Binds K (PySem.W.fnOf "_law_fall_late" "_law_fall_late" (defArgs s__law_fall_late) (defBody s__law_fall_late) (defScope s__law_fall_late) .none kV25 dc25 pm25 an25 cd25 ct25) ["numbers", "most", "s"] ds ∧ Vals dvs ds ∧ ∀ F, AtL ⟨K, ca, tabOf tab⟩ F [] dvs := ⟨[], [], F25.bindsN (ps := ["numbers", "most", "s"]) fun _ _ _ _ _ _ us hl => match us, hl with | [_, _, _], _ => rfl, .nil, fun _ => .nil⟩
  have bf25 : ∃ (dvs : List V) (ds : List Value), Binds K (PySem.W.fnOf "_law_fall" "_law_fall" (defArgs s__law_fall) (defBody s__law_fall) (defScope s__law_fall) .none kV26 dc26 pm26 an26 cd26 ct26) ["numbers", "most", "s"] ds ∧ Vals dvs ds ∧ ∀ F, AtL ⟨K, ca, tabOf tab⟩ F [] dvs := ⟨[], [], F26.bindsN (ps := ["numbers", "most", "s"]) fun _ _ _ _ _ _ us hl => match us, hl with | [_, _, _], _ => rfl, .nil, fun _ => .nil⟩
  have bf26 : ∃ (dvs : List V) (ds : List Value), Binds K (PySem.W.fnOf "_law_draw" "_law_draw" (defArgs s__law_draw) (defBody s__law_draw) (defScope s__law_draw) .none kV27 dc27 pm27 an27 cd27 ct27) ["well", "many"] ds ∧ Vals dvs ds ∧ ∀ F, AtL ⟨K, ca, tabOf tab⟩ F [] dvs := ⟨[], [], F27.bindsN (ps := ["well", "many"]) fun _ _ _ _ _ _ us hl => match us, hl with | [_, _], _ => rfl, .nil, fun _ => .nil⟩
  have bf27 : ∃ (dvs : List V) (ds : List Value), Binds K (PySem.W.fnOf "_law_mixed" "_law_mixed" (defArgs s__law_mixed) (defBody s__law_mixed) (defScope s__law_mixed) .none kV28 dc28 pm28 an28 cd28 ct28) ["well", "some"] ds ∧ Vals dvs ds ∧ ∀ F, AtL ⟨K, ca, tabOf tab⟩ F [] dvs := ⟨[], [], F28.bindsN (ps := ["well", "some"]) fun _ _ _ _ _ _ us hl => match us, hl with | [_, _], _ => rfl, .nil, fun _ => .nil⟩
  have bf28 : ∃ (dvs : List V) (ds : List Value), Binds K (PySem.W.fnOf "are_rows" "are_rows" (defArgs s_are_rows) (defBody s_are_rows) (defScope s_are_rows) .none kV29 dc29 pm29 an29 cd29 ct29) ["value", "many", "length"] ds ∧ Vals dvs ds ∧ ∀ F, AtL ⟨K, ca, tabOf tab⟩ F [] dvs := ⟨[], [], F29.bindsN (ps := ["value", "many", "length"]) fun _ _ _ _ _ _ us hl => match us, hl with | [_, _, _], _ => rfl, .nil, fun _ => .nil⟩
  have bf29 : ∃ (dvs : List V) (ds : List Value), Binds K (PySem.W.fnOf "are_layers" "are_layers" (defArgs s_are_layers) (defBody s_are_layers) (defScope s_are_layers) .none kV30 dc30 pm30 an30 cd30 ct30) ["value", "length"] ds ∧ Vals dvs ds ∧ ∀ F, AtL ⟨K, ca, tabOf tab⟩ F [] dvs := ⟨[], [], F30.bindsN (ps := ["value", "length"]) fun _ _ _ _ _ _ us hl => match us, hl with | [_, _], _ => rfl, .nil, fun _ => .nil⟩
  have bf30 : ∃ (dvs : List V) (ds : List Value), Binds K (PySem.W.fnOf "are_letter_rows" "are_letter_rows" (defArgs s_are_letter_rows) (defBody s_are_letter_rows) (defScope s_are_letter_rows) .none kV31 dc31 pm31 an31 cd31 ct31) ["value"] ds ∧ Vals dvs ds ∧ ∀ F, AtL ⟨K, ca, tabOf tab⟩ F [] dvs := ⟨[], [], F31.bindsN (ps := ["value"]) fun _ _ _ _ _ _ us hl => match us, hl with | [_], _ => rfl, .nil, fun _ => .nil⟩
  have bf31 : ∃ (dvs : List V) (ds : List Value), Binds K (PySem.W.fnOf "is_table" "is_table" (defArgs s_is_table) (defBody s_is_table) (defScope s_is_table) .none kV33 dc33 pm33 an33 cd33 ct33) ["value", "heads"] ds ∧ Vals dvs ds ∧ ∀ F, AtL ⟨K, ca, tabOf tab⟩ F [] dvs := ⟨[], [], F33.bindsN (ps := ["value", "heads"]) fun _ _ _ _ _ _ us hl => match us, hl with | [_, _], _ => rfl, .nil, fun _ => .nil⟩
  have bf32 : ∃ (dvs : List V) (ds : List Value), Binds K (PySem.W.fnOf "are_heads" "are_heads" (defArgs s_are_heads) (defBody s_are_heads) (defScope s_are_heads) .none kV34 dc34 pm34 an34 cd34 ct34) ["value"] ds ∧ Vals dvs ds ∧ ∀ F, AtL ⟨K, ca, tabOf tab⟩ F [] dvs := ⟨[], [], F34.bindsN (ps := ["value"]) fun _ _ _ _ _ _ us hl => match us, hl with | [_], _ => rfl, .nil, fun _ => .nil⟩
  have bf33 : ∃ (dvs : List V) (ds : List Value), Binds K (PySem.W.fnOf "_law_net_of" "_law_net_of" (defArgs s__law_net_of) (defBody s__law_net_of) (defScope s__law_net_of) .none kV37 dc37 pm37 an37 cd37 ct37) ["one", "other"] ds ∧ Vals dvs ds ∧ ∀ F, AtL ⟨K, ca, tabOf tab⟩ F [] dvs := ⟨[], [], F37.bindsN (ps := ["one", "other"]) fun _ _ _ _ _ _ us hl => match us, hl with | [_, _], _ => rfl, .nil, fun _ => .nil⟩
  have bf34 : ∃ (dvs : List V) (ds : List Value), Binds K (PySem.W.fnOf "_law_well" "_law_well" (defArgs s__law_well) (defBody s__law_well) (defScope s__law_well) .none kV38 dc38 pm38 an38 cd38 ct38) ["script"] ds ∧ Vals dvs ds ∧ ∀ F, AtL ⟨K, ca, tabOf tab⟩ F [] dvs := ⟨[], [], F38.bindsN (ps := ["script"]) fun _ _ _ _ _ _ us hl => match us, hl with | [_], _ => rfl, .nil, fun _ => .nil⟩
  have bm0 : ∃ (dvs : List V) (ds : List Value), Binds K (PySem.W.fnOf "__init__" "Policy.__init__" (defArgs s_Policy_init) (defBody s_Policy_init) (defScope s_Policy_init) .none kV22 dc22 pm22 an22 cd22 ct22) ["self", "layers"] ds ∧ Vals dvs ds ∧ ∀ F, AtL ⟨K, ca, tabOf tab⟩ F [] dvs := ⟨[], [], F22.bindsN (ps := ["self", "layers"]) fun _ _ _ _ _ _ us hl => match us, hl with | [_, _], _ => rfl, .nil, fun _ => .nil⟩
  have bm1 : ∃ (dvs : List V) (ds : List Value), Binds K (PySem.W.fnOf "__init__" "Layer.__init__" (defArgs s_Layer_init) (defBody s_Layer_init) (defScope s_Layer_init) .none kV35 dc35 pm35 an35 cd35 ct35) ["self", "heads", "table", "shift", "cap"] ds ∧ Vals dvs ds ∧ ∀ F, AtL ⟨K, ca, tabOf tab⟩ F [] dvs := ⟨[], [], F35.bindsN (ps := ["self", "heads", "table", "shift", "cap"]) fun _ _ _ _ _ _ us hl => match us, hl with | [_, _, _, _, _], _ => rfl, .nil, fun _ => .nil⟩
  have bm2 : ∃ (dvs : List V) (ds : List Value), Binds K (PySem.W.fnOf "__init__" "Net.__init__" (defArgs s_Net_init) (defBody s_Net_init) (defScope s_Net_init) .none kV32 dc32 pm32 an32 cd32 ct32) ["self", "rows", "layers", "worths"] ds ∧ Vals dvs ds ∧ ∀ F, AtL ⟨K, ca, tabOf tab⟩ F [] dvs := ⟨[], [], F32.bindsN (ps := ["self", "rows", "layers", "worths"]) fun _ _ _ _ _ _ us hl => match us, hl with | [_, _, _, _], _ => rfl, .nil, fun _ => .nil⟩
  have bm3 : ∃ (dvs : List V) (ds : List Value), Binds K (PySem.W.fnOf "__init__" "Head.__init__" (defArgs s_Head_init) (defBody s_Head_init) (defScope s_Head_init) (.ref t36) kV36 dc36 pm36 an36 cd36 ct36) ["self", "scores", "none", "late", "strict"] ds ∧ Vals dvs ds ∧ ∀ F, AtL ⟨K, ca, tabOf tab⟩ F [(.bl true), (.bl false)] dvs := by
    obtain ⟨ds, v1, v2⟩ := F36.binds1 (ps := ["self", "scores", "none", "late", "strict"]) 3 0 (by simp) (by simp) (fun _ _ _ _ _ _ _ us its hl hl2 => match us, its, hl, hl2 with | [_, _, _], [_, _], _, _ => ⟨_, rfl, rfl⟩)
    exact ⟨_, ds, v2, v1, fun _ => (.cons (.bl _) (.cons (.bl _) .nil))⟩
  obtain ⟨its_km0, km0⟩ := F36.kbindsD (ps := ["self", "scores", "none", "late", "strict"]) 3 ["late", "strict"] (fun us its ws => arr [.a 0, .a 1, .a 2, .a 3, .a 4] its (us ++ ws)) (by simp) (fun r1 r2 r3 => vals_arr (r1.append r3) r2 [.a 0, .a 1, .a 2, .a 3, .a 4]) (fun _ _ _ _ _ _ _ us its ws l1 l2 l3 => match us, its, ws, l1, l2, l3 with | [_, _, _], [_, _], [_, _], _, _, _ => ⟨_, rfl, rfl⟩)
  have W : World0 K mg ca (tabOf tab) Z tb fx kt defs := {
    ents := (all1 ⟨F0, sc_score_of, rfl, rfl, rfl, ok_score_of⟩ (all1 ⟨F1, sc_scored_spot, rfl, rfl, rfl, ok_scored_spot⟩ (all1 ⟨F2, sc_same_spots, rfl, rfl, rfl, ok_same_spots⟩ (all1 ⟨F3, sc_spot_by, rfl, rfl, rfl, ok_spot_by⟩ (all1 ⟨F4, sc_dropped, rfl, rfl, rfl, ok_dropped⟩ (all1 ⟨F5, sc_kept_by, rfl, rfl, rfl, ok_kept_by⟩ (all1 ⟨F6, sc_fixed, rfl, rfl, rfl, ok_fixed⟩ (all1 ⟨F7, sc_is_integer, rfl, rfl, rfl, ok_is_integer⟩ (all1 ⟨F8, sc_is_listed, rfl, rfl, rfl, ok_is_listed⟩ (all1 ⟨F9, sc_is_row, rfl, rfl, rfl, ok_is_row⟩ (all1 ⟨F10, sc_is_bounded, rfl, rfl, rfl, ok_is_bounded⟩ (all1 ⟨F11, sc_is_list, rfl, rfl, rfl, ok_is_list⟩ (all1 ⟨F12, sc_is_shelf, rfl, rfl, rfl, ok_is_shelf⟩ (all1 ⟨F13, sc_need_shelf, rfl, rfl, rfl, ok_need_shelf⟩ (all1 ⟨F14, sc_need_policy, rfl, rfl, rfl, ok_need_policy⟩ (all1 ⟨F15, sc_need_net, rfl, rfl, rfl, ok_need_net⟩ (all1 ⟨F16, sc_shelf_by, rfl, rfl, rfl, ok_shelf_by⟩ (all1 ⟨F17, sc_is_within, rfl, rfl, rfl, ok_is_within⟩ (all1 ⟨F18, sc_are_numbers, rfl, rfl, rfl, ok_are_numbers⟩ (all1 ⟨F19, sc_is_one_of, rfl, rfl, rfl, ok_is_one_of⟩ (all1 ⟨F20, sc_is_rule, rfl, rfl, rfl, ok_is_rule⟩ (all1 ⟨F21, sc_is_layer_rule, rfl, rfl, rfl, ok_is_layer_rule⟩ (all1 ⟨F22, sc_Policy_init, rfl, rfl, rfl, ok_Policy_init⟩ (all1 ⟨F23, sc__law_left, rfl, rfl, rfl, ok__law_left⟩ (all1 ⟨F24, sc__law_by_scores, rfl, rfl, rfl, ok__law_by_scores⟩ (all1 ⟨F25, sc__law_fall_late, rfl, rfl, rfl, ok__law_fall_late⟩ (all1 ⟨F26, sc__law_fall, rfl, rfl, rfl, ok__law_fall⟩ (all1 ⟨F27, sc__law_draw, rfl, rfl, rfl, ok__law_draw⟩ (all1 ⟨F28, sc__law_mixed, rfl, rfl, rfl, ok__law_mixed⟩ (all1 ⟨F29, sc_are_rows, rfl, rfl, rfl, ok_are_rows⟩ (all1 ⟨F30, sc_are_layers, rfl, rfl, rfl, ok_are_layers⟩ (all1 ⟨F31, sc_are_letter_rows, rfl, rfl, rfl, ok_are_letter_rows⟩ (all1 ⟨F32, sc_Net_init, rfl, rfl, rfl, ok_Net_init⟩ (all1 ⟨F33, sc_is_table, rfl, rfl, rfl, ok_is_table⟩ (all1 ⟨F34, sc_are_heads, rfl, rfl, rfl, ok_are_heads⟩ (all1 ⟨F35, sc_Layer_init, rfl, rfl, rfl, ok_Layer_init⟩ (all1 ⟨F36, sc_Head_init, rfl, rfl, rfl, ok_Head_init⟩ (all1 ⟨F37, sc__law_net_of, rfl, rfl, rfl, ok__law_net_of⟩ (all1 ⟨F38, sc__law_well, rfl, rfl, rfl, ok__law_well⟩ (all1 ⟨F39, sc_law, rfl, rfl, rfl, ok_law⟩ all0))))))))))))))))))))))))))))))))))))))))
    cons := (cons1 (cons_str (PySem.W.mg_of X G g_LEAST)) (cons1 (cons_str (PySem.W.mg_of X G g_ROW)) (cons1 (cons_str (PySem.W.mg_of X G g_SAME)) (cons1 (cons_str (PySem.W.mg_of X G g_OLD)) (cons1 (cons_str (PySem.W.mg_of X G g_LAST)) (cons1 (cons_str (PySem.W.mg_of X G g_FIRST)) (cons1 (cons_int (PySem.W.mg_of X G g_MOST_NUMBER_heads)) (cons1 (cons_int (PySem.W.mg_of X G g_MOST_KEPT)) (cons1 (cons_str (PySem.W.mg_of X G g_GREATEST)) (cons1 (cons_int (PySem.W.mg_of X G g_MOST_ROWS)) (cons1 (cons_int (PySem.W.mg_of X G g_MOST_NUMBER_policies)) (cons1 (cons_int (PySem.W.mg_of X G g_MOST_LENGTH_policies)) (cons1 (cons_str (PySem.W.mg_of X G g_NEW)) (cons1 (cons_tup (PySem.W.mg_of X G gm_WORDS) gl_WORDS (show 6 ≤ sizeLine by decide) (show Vals [.str "first", .str "last", .str "same", .str "least", .str "greatest", .str "row"] _ from (.cons ⟨_, rfl⟩ (.cons ⟨_, rfl⟩ (.cons ⟨_, rfl⟩ (.cons ⟨_, rfl⟩ (.cons ⟨_, rfl⟩ (.cons ⟨_, rfl⟩ .nil))))))) fun _ => (.cons (.str _) (.cons (.str _) (.cons (.str _) (.cons (.str _) (.cons (.str _) (.cons (.str _) .nil))))))) (cons1 (cons_int (PySem.W.mg_of X G g_MOST_RULES)) (cons1 (cons_int (PySem.W.mg_of X G g_MOST_LAYERS_policies)) (cons1 (cons_int (PySem.W.mg_of X G g_MOST_LAYERS_nets)) (cons1 (cons_int (PySem.W.mg_of X G g_MOST_LENGTH_heads)) (cons1 (cons_int (PySem.W.mg_of X G g_LEAST_LETTERS)) (cons1 (cons_int (PySem.W.mg_of X G g_MOST_LETTERS)) (cons1 (cons_int (PySem.W.mg_of X G g_MOST_CAP)) (cons1 (cons_int (PySem.W.mg_of X G g_MOST_SHIFT)) (cons1 (cons_int (PySem.W.mg_of X G g_MOST_HEADS)) cons0)))))))))))))))))))))))
    blts := (all1 (PySem.W.mg_none_of X G b_range) (all1 (PySem.W.mg_none_of X G b_tuple) (all1 (PySem.W.mg_none_of X G b_zip) (all1 (PySem.W.mg_none_of X G b_len) (all1 (PySem.W.mg_none_of X G b_min) (all1 (PySem.W.mg_none_of X G b_max) (all1 (PySem.W.mg_none_of X G b_sum) (all1 (PySem.W.mg_none_of X G b_enumerate) (all1 (PySem.W.mg_none_of X G b_list) (all1 (PySem.W.mg_none_of X G b_isinstance) (all1 (PySem.W.mg_none_of X G b_all) (all1 (PySem.W.mg_none_of X G b_bool) (all1 (PySem.W.mg_none_of X G b_int) (all1 (PySem.W.mg_none_of X G b_str) (all1 (PySem.W.mg_none_of X G b_abs) (all1 (PySem.W.mg_none_of X G b_divmod) all0))))))))))))))))
    fns := (all1 ⟨⟨e0, d0, rfl, PySem.W.mg_of X G a0, k0, bf0⟩⟩ (all1 ⟨⟨e1, d1, rfl, PySem.W.mg_of X G a1, k1, bf1⟩⟩ (all1 ⟨⟨e2, d2, rfl, PySem.W.mg_of X G a2, k2, bf2⟩⟩ (all1 ⟨⟨e3, d3, rfl, PySem.W.mg_of X G a3, k3, bf3⟩⟩ (all1 ⟨⟨e4, d4, rfl, PySem.W.mg_of X G a4, k4, bf4⟩⟩ (all1 ⟨⟨e5, d5, rfl, PySem.W.mg_of X G a5, k5, bf5⟩⟩ (all1 ⟨⟨e6, d6, rfl, PySem.W.mg_of X G a6, k6, bf6⟩⟩ (all1 ⟨⟨e7, d7, rfl, PySem.W.mg_of X G a7, k7, bf7⟩⟩ (all1 ⟨⟨e8, d8, rfl, PySem.W.mg_of X G a8, k8, bf8⟩⟩ (all1 ⟨⟨e9, d9, rfl, PySem.W.mg_of X G a9, k9, bf9⟩⟩ (all1 ⟨⟨e10, d10, rfl, PySem.W.mg_of X G a10, k10, bf10⟩⟩ (all1 ⟨⟨e11, d11, rfl, PySem.W.mg_of X G a11, k11, bf11⟩⟩ (all1 ⟨⟨e12, d12, rfl, PySem.W.mg_of X G a12, k12, bf12⟩⟩ (all1 ⟨⟨e13, d13, rfl, PySem.W.mg_of X G a13, k13, bf13⟩⟩ (all1 ⟨⟨e14, d14, rfl, PySem.W.mg_of X G a14, k14, bf14⟩⟩ (all1 ⟨⟨e15, d15, rfl, PySem.W.mg_of X G a15, k15, bf15⟩⟩ (all1 ⟨⟨e16, d16, rfl, PySem.W.mg_of X G a16, k16, bf16⟩⟩ (all1 ⟨⟨e17, d17, rfl, PySem.W.mg_of X G a17, k17, bf17⟩⟩ (all1 ⟨⟨e18, d18, rfl, PySem.W.mg_of X G a18, k18, bf18⟩⟩ (all1 ⟨⟨e19, d19, rfl, PySem.W.mg_of X G a19, k19, bf19⟩⟩ (all1 ⟨⟨e20, d20, rfl, PySem.W.mg_of X G a20, k20, bf20⟩⟩ (all1 ⟨⟨e21, d21, rfl, PySem.W.mg_of X G a21, k21, bf21⟩⟩ (all1 ⟨⟨e23, d23, rfl, PySem.W.mg_of X G a23, k23, bf22⟩⟩ (all1 ⟨⟨e24, d24, rfl, PySem.W.mg_of X G a24, k24, bf23⟩⟩ (all1 ⟨⟨e25, d25, rfl, PySem.W.mg_of X G a25, k25, bf24⟩⟩ (all1 ⟨⟨e26, d26, rfl, PySem.W.mg_of X G a26, k26, bf25⟩⟩ (all1 ⟨⟨e27, d27, rfl, PySem.W.mg_of X G a27, k27, bf26⟩⟩ (all1 ⟨⟨e28, d28, rfl, PySem.W.mg_of X G a28, k28, bf27⟩⟩ (all1 ⟨⟨e29, d29, rfl, PySem.W.mg_of X G a29, k29, bf28⟩⟩ (all1 ⟨⟨e30, d30, rfl, PySem.W.mg_of X G a30, k30, bf29⟩⟩ (all1 ⟨⟨e31, d31, rfl, PySem.W.mg_of X G a31, k31, bf30⟩⟩ (all1 ⟨⟨e33, d33, rfl, PySem.W.mg_of X G a33, k33, bf31⟩⟩ (all1 ⟨⟨e34, d34, rfl, PySem.W.mg_of X G a34, k34, bf32⟩⟩ (all1 ⟨⟨e37, d37, rfl, PySem.W.mg_of X G a37, k37, bf33⟩⟩ (all1 ⟨⟨e38, d38, rfl, PySem.W.mg_of X G a38, k38, bf34⟩⟩ all0)))))))))))))))))))))))))))))))))))
    mks := (all1 ⟨⟨e22, d22, rfl, PySem.W.mg_of X G cm_Policy, ⟨mk_Policy, a22, i22, kc_Policy⟩, bm0⟩⟩ (all1 ⟨⟨e35, d35, rfl, PySem.W.mg_of X G cm_Layer, ⟨mk_Layer, a35, i35, kc_Layer⟩, bm1⟩⟩ (all1 ⟨⟨e32, d32, rfl, PySem.W.mg_of X G cm_Net, ⟨mk_Net, a32, i32, kc_Net⟩, bm2⟩⟩ (all1 ⟨⟨e36, d36, rfl, PySem.W.mg_of X G cm_Head, ⟨mk_Head, a36, i36, kc_Head⟩, bm3⟩⟩ all0))))
    fld := fld_of (tab_of (all1 (all1 ⟨⟨pg_Policy, hd_Policy, po_Policy, sa_Policy⟩, n_Policy_layers⟩ all0) (all1 (all1 ⟨⟨pg_Net, hd_Net, po_Net, sa_Net⟩, n_Net_rows⟩ (all1 ⟨⟨pg_Net, hd_Net, po_Net, sa_Net⟩, n_Net_layers⟩ (all1 ⟨⟨pg_Net, hd_Net, po_Net, sa_Net⟩, n_Net_worths⟩ (all1 ⟨⟨pg_Net, hd_Net, po_Net, sa_Net⟩, n_Net_letters⟩ (all1 ⟨⟨pg_Net, hd_Net, po_Net, sa_Net⟩, n_Net_lengths⟩ all0))))) (all1 (all1 ⟨⟨pg_Layer, hd_Layer, po_Layer, sa_Layer⟩, n_Layer_heads⟩ (all1 ⟨⟨pg_Layer, hd_Layer, po_Layer, sa_Layer⟩, n_Layer_table⟩ (all1 ⟨⟨pg_Layer, hd_Layer, po_Layer, sa_Layer⟩, n_Layer_shift⟩ (all1 ⟨⟨pg_Layer, hd_Layer, po_Layer, sa_Layer⟩, n_Layer_cap⟩ (all1 ⟨⟨pg_Layer, hd_Layer, po_Layer, sa_Layer⟩, n_Layer_length⟩ all0))))) (all1 (all1 ⟨⟨pg_Head, hd_Head, po_Head, sa_Head⟩, n_Head_scores⟩ (all1 ⟨⟨pg_Head, hd_Head, po_Head, sa_Head⟩, n_Head_none⟩ (all1 ⟨⟨pg_Head, hd_Head, po_Head, sa_Head⟩, n_Head_late⟩ (all1 ⟨⟨pg_Head, hd_Head, po_Head, sa_Head⟩, n_Head_strict⟩ (all1 ⟨⟨pg_Head, hd_Head, po_Head, sa_Head⟩, n_Head_length⟩ all0))))) all0)))))
    kfs := all0
    kms := (all1 ⟨⟨e36, d36, rfl, PySem.W.mg_of X G cm_Head, ⟨mk_Head, a36, i36, kc_Head⟩, _, _, _, km0, fun _ _ _ => rfl, fun _ => (.cons (.bl _) (.cons (.bl _) .nil))⟩⟩ all0)
    cls := (all1 (PySem.W.mg_of X G cm_Policy) (all1 (PySem.W.mg_of X G cm_Net) (all1 (PySem.W.mg_of X G cm_Layer) (all1 (PySem.W.mg_of X G cm_Head) all0))))
    kit := kit_of_tab all0
    kin := kin_of_tab (all1 ⟨⟨pg_Policy, hd_Policy, po_Policy, sa_Policy⟩, qa_Policy, qn, qt, qm_Policy⟩ (all1 ⟨⟨pg_Net, hd_Net, po_Net, sa_Net⟩, qa_Net, qn, qt, qm_Net⟩ (all1 ⟨⟨pg_Layer, hd_Layer, po_Layer, sa_Layer⟩, qa_Layer, qn, qt, qm_Layer⟩ (all1 ⟨⟨pg_Head, hd_Head, po_Head, sa_Head⟩, qa_Head, qn, qt, qm_Head⟩ all0)))) }
  exact ⟨_, fun s v => .of_eq rfl, fun base _ _ => law_ok (fu := 1000000) W d39 rfl 24 63 law_true⟩
end J.K03

set_option Elab.async false
set_option linter.all false
set_option maxRecDepth 100000
set_option maxHeartbeats 4000000

open PySem PySem.W PyProof.Rows
set_option maxHeartbeats 0 in
theorem PySem.Challenge.cw_keepsenough_k03_drops_by_known_rules_holds : PySem.Challenge.rw_keepsenough_k03_drops_by_known_rules.Holds := by
  w_on; o_law; k_head; (case hw => w_witness2)
  k_fill
  refine L2.walk_of (l := PySem.Challenge.rw_keepsenough_k03_drops_by_known_rules) (n := 63) (k := 2 * 24) (x := "script") (CX := fun _ => L2.CX0) (sp := fun w => J.spLawN _ 63) rfl (by decide) rfl ⟨rfl, by decide, by decide⟩ (fun w h Y => PySem.W.kIn_of Y) ?F (fun _ _ a ns hl _ hS => ⟨a, ns, rfl, hS, hl, fun _ => rfl⟩) (fun _ _ _ _ _ h => h)
  case F =>
    intro w mg fa h KX G hmg
    refine' J.K03.all_mk KX G hmg ?a0 ?l0 ?h0 ?k0 ?a1 ?l1 ?h1 ?k1 ?a2 ?l2 ?h2 ?k2 ?a3 ?l3 ?h3 ?k3 ?a4 ?l4 ?h4 ?k4 ?a5 ?l5 ?h5 ?k5 ?a6 ?l6 ?h6 ?k6 ?a7 ?l7 ?h7 ?k7 ?a8 ?l8 ?h8 ?k8 ?a9 ?l9 ?h9 ?k9 ?a10 ?l10 ?h10 ?k10 ?a11 ?l11 ?h11 ?k11 ?a12 ?l12 ?h12 ?k12 ?a13 ?l13 ?h13 ?k13 ?t13l ?a14 ?l14 ?h14 ?k14 ?a15 ?l15 ?h15 ?k15 ?a16 ?l16 ?h16 ?k16 ?a17 ?l17 ?h17 ?k17 ?a18 ?l18 ?h18 ?k18 ?a19 ?l19 ?h19 ?k19 ?a20 ?l20 ?h20 ?k20 ?a21 ?l21 ?h21 ?k21 ?a22 ?i22 ?l22 ?h22 ?k22 ?a23 ?l23 ?h23 ?k23 ?a24 ?l24 ?h24 ?k24 ?a25 ?l25 ?h25 ?k25 ?a26 ?l26 ?h26 ?k26 ?a27 ?l27 ?h27 ?k27 ?a28 ?l28 ?h28 ?k28 ?a29 ?l29 ?h29 ?k29 ?a30 ?l30 ?h30 ?k30 ?a31 ?l31 ?h31 ?k31 ?a32 ?i32 ?l32 ?h32 ?k32 ?a33 ?l33 ?h33 ?k33 ?a34 ?l34 ?h34 ?k34 ?a35 ?i35 ?l35 ?h35 ?k35 ?a36 ?i36 ?l36 ?h36 ?k36 ?t36l ?a37 ?l37 ?h37 ?k37 ?a38 ?l38 ?h38 ?k38 ?a39 ?l39 ?h39 ?k39 ?cm_Policy ?pg_Policy ?hd_Policy ?po_Policy ?sa_Policy ?mk_Policy ?kc_Policy ?qa_Policy ?qm_Policy ?n_Policy_layers ?cm_Net ?pg_Net ?hd_Net ?po_Net ?sa_Net ?mk_Net ?kc_Net ?qa_Net ?qm_Net ?n_Net_rows ?n_Net_layers ?n_Net_worths ?n_Net_letters ?n_Net_lengths ?cm_Layer ?pg_Layer ?hd_Layer ?po_Layer ?sa_Layer ?mk_Layer ?kc_Layer ?qa_Layer ?qm_Layer ?n_Layer_heads ?n_Layer_table ?n_Layer_shift ?n_Layer_cap ?n_Layer_length ?cm_Head ?pg_Head ?hd_Head ?po_Head ?sa_Head ?mk_Head ?kc_Head ?qa_Head ?qm_Head ?n_Head_scores ?n_Head_none ?n_Head_late ?n_Head_strict ?n_Head_length ?qn ?qt ?g_LEAST ?g_ROW ?g_SAME ?g_OLD ?g_LAST ?g_FIRST ?g_MOST_NUMBER_heads ?g_MOST_KEPT ?g_GREATEST ?g_MOST_ROWS ?g_MOST_NUMBER_policies ?g_MOST_LENGTH_policies ?g_NEW ?gm_WORDS ?gl_WORDS ?g_MOST_RULES ?g_MOST_LAYERS_policies ?g_MOST_LAYERS_nets ?g_MOST_LENGTH_heads ?g_LEAST_LETTERS ?g_MOST_LETTERS ?g_MOST_CAP ?g_MOST_SHIFT ?g_MOST_HEADS ?b_range ?b_tuple ?b_zip ?b_len ?b_min ?b_max ?b_sum ?b_enumerate ?b_list ?b_isinstance ?b_all ?b_bool ?b_int ?b_str ?b_abs ?b_divmod
    (case cm_Policy => k_is)
    (case cm_Net => k_is)
    (case cm_Layer => k_is)
    (case cm_Head => k_is)
    (case gm_WORDS => k_is)
    (case a0 => k_is)
    (case l0 => k_is)
    (case h0 => k_is)
    (case k0 => k_is)
    (case a1 => k_is)
    (case l1 => k_is)
    (case h1 => k_is)
    (case k1 => k_is)
    (case a2 => k_is)
    (case l2 => k_is)
    (case h2 => k_is)
    (case k2 => k_is)
    (case a3 => k_is)
    (case l3 => k_is)
    (case h3 => k_is)
    (case k3 => k_is)
    (case a4 => k_is)
    (case l4 => k_is)
    (case h4 => k_is)
    (case k4 => k_is)
    (case a5 => k_is)
    (case l5 => k_is)
    (case h5 => k_is)
    (case k5 => k_is)
    (case a6 => k_is)
    (case l6 => k_is)
    (case h6 => k_is)
    (case k6 => k_is)
    (case a7 => k_is)
    (case l7 => k_is)
    (case h7 => k_is)
    (case k7 => k_is)
    (case a8 => k_is)
    (case l8 => k_is)
    (case h8 => k_is)
    (case k8 => k_is)
    (case a9 => k_is)
    (case l9 => k_is)
    (case h9 => k_is)
    (case k9 => k_is)
    (case a10 => k_is)
    (case l10 => k_is)
    (case h10 => k_is)
    (case k10 => k_is)
    (case a11 => k_is)
    (case l11 => k_is)
    (case h11 => k_is)
    (case k11 => k_is)
    (case a12 => k_is)
    (case l12 => k_is)
    (case h12 => k_is)
    (case k12 => k_is)
    (case a13 => k_is)
    (case l13 => k_is)
    (case h13 => k_is)
    (case k13 => k_is)
    (case t13l => k_is)
    (case a14 => k_is)
    (case l14 => k_is)
    (case h14 => k_is)
    (case k14 => k_is)
    (case a15 => k_is)
    (case l15 => k_is)
    (case h15 => k_is)
    (case k15 => k_is)
    (case a16 => k_is)
    (case l16 => k_is)
    (case h16 => k_is)
    (case k16 => k_is)
    (case a17 => k_is)
    (case l17 => k_is)
    (case h17 => k_is)
    (case k17 => k_is)
    (case a18 => k_is)
    (case l18 => k_is)
    (case h18 => k_is)
    (case k18 => k_is)
    (case a19 => k_is)
    (case l19 => k_is)
    (case h19 => k_is)
    (case k19 => k_is)
    (case a20 => k_is)
    (case l20 => k_is)
    (case h20 => k_is)
    (case k20 => k_is)
    (case a21 => k_is)
    (case l21 => k_is)
    (case h21 => k_is)
    (case k21 => k_is)
    (case a22 => k_is)
    (case i22 => k_is)
    (case l22 => k_is)
    (case h22 => k_is)
    (case k22 => k_is)
    (case a23 => k_is)
    (case l23 => k_is)
    (case h23 => k_is)
    (case k23 => k_is)
    (case a24 => k_is)
    (case l24 => k_is)
    (case h24 => k_is)
    (case k24 => k_is)
    (case a25 => k_is)
    (case l25 => k_is)
    (case h25 => k_is)
    (case k25 => k_is)
    (case a26 => k_is)
    (case l26 => k_is)
    (case h26 => k_is)
    (case k26 => k_is)
    (case a27 => k_is)
    (case l27 => k_is)
    (case h27 => k_is)
    (case k27 => k_is)
    (case a28 => k_is)
    (case l28 => k_is)
    (case h28 => k_is)
    (case k28 => k_is)
    (case a29 => k_is)
    (case l29 => k_is)
    (case h29 => k_is)
    (case k29 => k_is)
    (case a30 => k_is)
    (case l30 => k_is)
    (case h30 => k_is)
    (case k30 => k_is)
    (case a31 => k_is)
    (case l31 => k_is)
    (case h31 => k_is)
    (case k31 => k_is)
    (case a32 => k_is)
    (case i32 => k_is)
    (case l32 => k_is)
    (case h32 => k_is)
    (case k32 => k_is)
    (case a33 => k_is)
    (case l33 => k_is)
    (case h33 => k_is)
    (case k33 => k_is)
    (case a34 => k_is)
    (case l34 => k_is)
    (case h34 => k_is)
    (case k34 => k_is)
    (case a35 => k_is)
    (case i35 => k_is)
    (case l35 => k_is)
    (case h35 => k_is)
    (case k35 => k_is)
    (case a36 => k_is)
    (case i36 => k_is)
    (case l36 => k_is)
    (case h36 => k_is)
    (case k36 => k_is)
    (case t36l => k_is)
    (case a37 => k_is)
    (case l37 => k_is)
    (case h37 => k_is)
    (case k37 => k_is)
    (case a38 => k_is)
    (case l38 => k_is)
    (case h38 => k_is)
    (case k38 => k_is)
    (case a39 => k_is)
    (case l39 => k_is)
    (case h39 => k_is)
    (case k39 => k_is)
    (case pg_Policy => k_is)
    (case hd_Policy => k_is)
    (case po_Policy => k_is)
    (case sa_Policy => k_is)
    (case mk_Policy => k_is)
    (case kc_Policy => k_is)
    (case qa_Policy => k_is)
    (case qm_Policy => k_is)
    (case n_Policy_layers => k_is)
    (case pg_Net => k_is)
    (case hd_Net => k_is)
    (case po_Net => k_is)
    (case sa_Net => k_is)
    (case mk_Net => k_is)
    (case kc_Net => k_is)
    (case qa_Net => k_is)
    (case qm_Net => k_is)
    (case n_Net_rows => k_is)
    (case n_Net_layers => k_is)
    (case n_Net_worths => k_is)
    (case n_Net_letters => k_is)
    (case n_Net_lengths => k_is)
    (case pg_Layer => k_is)
    (case hd_Layer => k_is)
    (case po_Layer => k_is)
    (case sa_Layer => k_is)
    (case mk_Layer => k_is)
    (case kc_Layer => k_is)
    (case qa_Layer => k_is)
    (case qm_Layer => k_is)
    (case n_Layer_heads => k_is)
    (case n_Layer_table => k_is)
    (case n_Layer_shift => k_is)
    (case n_Layer_cap => k_is)
    (case n_Layer_length => k_is)
    (case pg_Head => k_is)
    (case hd_Head => k_is)
    (case po_Head => k_is)
    (case sa_Head => k_is)
    (case mk_Head => k_is)
    (case kc_Head => k_is)
    (case qa_Head => k_is)
    (case qm_Head => k_is)
    (case n_Head_scores => k_is)
    (case n_Head_none => k_is)
    (case n_Head_late => k_is)
    (case n_Head_strict => k_is)
    (case n_Head_length => k_is)
    (case qn => k_is)
    (case qt => k_is)
    (case g_LEAST => k_is)
    (case g_ROW => k_is)
    (case g_SAME => k_is)
    (case g_OLD => k_is)
    (case g_LAST => k_is)
    (case g_FIRST => k_is)
    (case g_MOST_NUMBER_heads => k_is)
    (case g_MOST_KEPT => k_is)
    (case g_GREATEST => k_is)
    (case g_MOST_ROWS => k_is)
    (case g_MOST_NUMBER_policies => k_is)
    (case g_MOST_LENGTH_policies => k_is)
    (case g_NEW => k_is)
    (case gl_WORDS => k_is)
    (case g_MOST_RULES => k_is)
    (case g_MOST_LAYERS_policies => k_is)
    (case g_MOST_LAYERS_nets => k_is)
    (case g_MOST_LENGTH_heads => k_is)
    (case g_LEAST_LETTERS => k_is)
    (case g_MOST_LETTERS => k_is)
    (case g_MOST_CAP => k_is)
    (case g_MOST_SHIFT => k_is)
    (case g_MOST_HEADS => k_is)
    (case b_range => k_is)
    (case b_tuple => k_is)
    (case b_zip => k_is)
    (case b_len => k_is)
    (case b_min => k_is)
    (case b_max => k_is)
    (case b_sum => k_is)
    (case b_enumerate => k_is)
    (case b_list => k_is)
    (case b_isinstance => k_is)
    (case b_all => k_is)
    (case b_bool => k_is)
    (case b_int => k_is)
    (case b_str => k_is)
    (case b_abs => k_is)
    (case b_divmod => k_is)
